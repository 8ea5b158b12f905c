import PyProof.Rows.All
import Wide.All
import OpenK.AllK
import Wide.FinOn
import HandS.HeadHook4
import HandS.Head2
import Lean
import KE.KStateDown
import HandS.Head0
import HandS.Head1
import HandS.HeadEnd
import PyProof.EqAt
import PyProof.EqKinds
import PyProof.TupleCall
import HandS.Base
import HandS.Call
import HandS.List
import HandS.Comp
import HandS.Ends
import HandS.Dict
import HandS.Iter
import HandS.Words
import HandS.WordsList
import HandS.Flow
import HandS.Style
import HandS.Wide
import HandS.IsInst
import HandS.Defaults
import HandS.Star
import HandS.Zip
import HandS.Conv
import HandS.TupAny
import HandS.TupMul
import KE.KTupSum
import KE.DatumOrd
import KE.GoesZip
import KE.GoesMore
import KE.GoesEnum
import KE.KDictZip
import HandS.Small
import HandS.HeadHook2
import PySem.Challenge.RW_bestatall_k48_whole_only_one_meeting
section
/-! Core: a small Python on plain data. D data, O objects owned by one name, E expressions, S statements, ev and ex what they do. -/
namespace Py

/-- data: what never changes any more -/
inductive D where
  | non
  | bl (b : Bool)
  | int (i : Int)
  | str (s : List Nat)
  | ty (n : String)
  | tup (l : List D)
  | lst (l : List D)
  | dic (l : List (D × D))
  | ins (c : Nat) (l : List (Nat × D))
  | fn (f : Nat)
  | cls (c : Nat)
  | cell (n : Nat)
  /-- the list that the law is given -/
  | scr (l : List D)

/-- an object that one name alone holds -/
inductive O where
  | d (x : D)
  | lst (l : List O)
  | dic (l : List (D × O))
  | ins (c : Nat) (l : List (Nat × O))

mutual
/-- Python's == -/
def D.eqv : D → D → Bool
  | .non, .non => true
  | .bl a, .bl b => a == b
  | .bl a, .int j => (if a then 1 else 0) == j
  | .int i, .bl b => i == (if b then 1 else 0)
  | .int i, .int j => i == j
  | .str x, .str y => x == y
  | .tup x, .tup y => D.eqvs x y
  | .lst x, .lst y => D.eqvs x y
  | _, _ => false
def D.eqvs : List D → List D → Bool
  | [], [] => true
  | x :: xs, y :: ys => D.eqv x y && D.eqvs xs ys
  | _, _ => false
end
mutual
/-- data that == may look at; texts are short -/
def D.plain : D → Bool
  | .non | .bl _ | .int _ => true
  | .str s => decide (s.length ≤ 1000) && s.all (· < 0x110000)
  | .tup l | .lst l => D.plains l
  | _ => false
def D.plains : List D → Bool
  | [] => true
  | x :: xs => D.plain x && D.plains xs
end
mutual
def D.depth : D → Nat
  | .tup l | .lst l => D.depths l + 1
  | _ => 0
def D.depths : List D → Nat
  | [] => 0
  | x :: xs => max (D.depth x) (D.depths xs)
end
mutual
/-- an owned object, as the data that it is from now on -/
def O.toD : O → D
  | .d x => x
  | .lst l => .lst (O.toDs l)
  | .dic l => .dic (O.toKs l)
  | .ins c l => .ins c (O.toFs l)
def O.toDs : List O → List D
  | [] => []
  | x :: xs => O.toD x :: O.toDs xs
def O.toKs : List (D × O) → List (D × D)
  | [] => []
  | (k, x) :: xs => (k, O.toD x) :: O.toKs xs
def O.toFs : List (Nat × O) → List (Nat × D)
  | [] => []
  | (k, x) :: xs => (k, O.toD x) :: O.toFs xs
end
/-- pure items -/
def O.pures : List O → Option (List D)
  | [] => some []
  | .d x :: xs => (O.pures xs).map (x :: ·)
  | _ :: _ => none
def O.pureKs : List (D × O) → Option (List (D × D))
  | [] => some []
  | (k, .d x) :: xs => (O.pureKs xs).map ((k, x) :: ·)
  | _ :: _ => none
/-- what is seen of an object without an owned object in it -/
def O.flat : O → Option D
  | .d x => some x
  | .lst l => (O.pures l).map .lst
  | .dic l => (O.pureKs l).map .dic
  | .ins _ _ => none

inductive Bop where | add | sub | mul | fdiv | mod | pow
  deriving DecidableEq
inductive Cop where | eq | ne | lt | le | gt | ge | isin | notin | is | isnot
  deriving DecidableEq
inductive Bi where
  | len | abs | int | list | tuple | sorted | sum | all | any | min | max | isinst | dict | setlist
  deriving DecidableEq
/-- iterables, and methods that change nothing -/
inductive Itk where | zip | enum | range | keys | values | items | rev
  deriving DecidableEq
inductive Bm where | index | get | count
  deriving DecidableEq
inductive Tg where
  | nm (i : Nat)
  | tup (l : List Tg)

inductive E where
  | var (i : Nat)
  | mv (i : Nat)
  | keep (e : E)
  | con (d : D)
  | tup (es : List E)
  | lst (es : List E)
  | star (e : E)
  | dict (kvs : List E)
  | bin (op : Bop) (a b : E)
  | neg (a : E)
  | not (a : E)
  | and (a b : E)
  | or (a b : E)
  | cmp (op : Cop) (a b : E)
  | chain (op op' : Cop) (a b c : E)
  | ife (c a b : E)
  | idx (a i : E)
  | slc (a : E) (lo hi : Option E)
  | attr (a : E) (f : Nat)
  | call (f : Nat) (es : List E)
  | calk (f : Nat) (pm : List Nat) (es : List E)
  | calv (i : Nat) (es : List E)
  | mk (c : Nat) (es : List E)
  | bi (b : Bi) (es : List E)
  | bm (b : Bm) (a : E) (es : List E)
  | bit (b : Bi) (k : Itk) (es : List E)
  | pop (p : E) (es : List E)
  | lc (tg : Tg) (k : Option Itk) (es : List E) (cs : List E) (el : E)
  | stuck

inductive S where
  | asg (tg : Tg) (e : E)
  | par (is : List Nat) (es : List E)
  | set (p k e : E)
  | setA (i f : Nat) (e : E)
  | aug (i : Nat) (op : Bop) (e : E)
  | augS (p k : E) (op : Bop) (e : E)
  | app (p e : E)
  | ex (e : E)
  | ret (e : E)
  | ite (c : E) (a b : List S)
  | for_ (tg : Tg) (k : Option Itk) (es : List E) (b : List S)
  | whl (c : E) (b : List S)
  | cont | brk | pass | stuck

structure St where
  env : List (Option O)
  sto : List O

/-- where a statement ends -/
inductive Out where
  | nx | cont | brk
  | ret (o : O)

/-! ### values -/
@[irreducible] def lineA : Nat := 2 ^ 400000
@[irreducible] def lineB : Nat := 2 ^ 9000
def lineC : Nat := 2 ^ 24
def mulOk (i j : Int) : Bool := decide (i.natAbs < lineA) && decide (j.natAbs < lineA)
def divOk (j : Int) : Bool := decide (j ≠ 0) && decide (j.natAbs < lineB)
def lenOk (n : Nat) : Bool := decide (n ≤ lineC)
def bop : Bop → D → D → Option O
  | .add, .int i, .int j => some (.d (.int (i + j)))
  | .sub, .int i, .int j => some (.d (.int (i - j)))
  | .mul, .int i, .int j => if mulOk i j then some (.d (.int (i * j))) else none
  | .fdiv, .int i, .int j => if divOk j then some (.d (.int (i.fdiv j))) else none
  | .mod, .int i, .int j => if j = 0 then none else some (.d (.int (i.fmod j)))
  | .pow, .int i, .int j => if decide (0 ≤ j) && decide (j ≤ 1000) && decide (i.natAbs < 2 ^ 64) then some (.d (.int (i ^ j.toNat))) else none
  | .add, .lst a, .lst b => if lenOk (a.length + b.length) then some (.lst ((a ++ b).map .d)) else none
  | .add, .tup a, .tup b => if lenOk (a.length + b.length) then some (.d (.tup (a ++ b))) else none
  | .mul, .lst a, .int k => if decide (0 ≤ k) && lenOk k.toNat && lenOk (a.length * k.toNat) then some (.lst ((List.replicate k.toNat a).flatten.map .d)) else none
  | .mul, .tup a, .int k => if decide (2 ≤ k) && decide (k ≤ 1000) && decide (a.length ≤ 1000) && !a.isEmpty then some (.d (.tup (List.replicate k.toNat a).flatten)) else none
  | _, _, _ => none
def D.flat : D → Bool
  | .non | .bl _ | .int _ | .str _ => true
  | _ => false
def eqOk (a b : D) : Bool := a.plain && b.plain && decide (a.depth ≤ 64) && decide (b.depth ≤ 64)
def keyOf (k : D) : Bool := match k with
  | .int _ | .str _ => true
  | _ => false
def dget (k : D) : List (D × D) → Option D
  | [] => none
  | (k', x) :: r => if D.eqv k' k then some x else dget k r
def cop : Cop → D → D → Option Bool
  | .eq, a, b => if eqOk a b then some (D.eqv a b) else none
  | .ne, a, b => if eqOk a b then some (!D.eqv a b) else none
  | .lt, .int i, .int j => some (decide (i < j))
  | .le, .int i, .int j => some (decide (i ≤ j))
  | .gt, .int i, .int j => some (decide (j < i))
  | .ge, .int i, .int j => some (decide (j ≤ i))
  | .isin, x, .lst l => if x.flat && l.all D.flat then some (l.any fun y => D.eqv y x) else none
  | .isin, x, .tup l => if x.flat && l.all D.flat then some (l.any fun y => D.eqv y x) else none
  | .isin, x, .dic l => if keyOf x then some (dget x l).isSome else none
  | .notin, x, .lst l => if x.flat && l.all D.flat then some (!l.any fun y => D.eqv y x) else none
  | .notin, x, .tup l => if x.flat && l.all D.flat then some (!l.any fun y => D.eqv y x) else none
  | .notin, x, .dic l => if keyOf x then some !(dget x l).isSome else none
  | .is, .non, .non => some true
  | .is, .bl a, .bl b => some (a == b)
  | .is, _, .non => some false
  | .isnot, .non, .non => some false
  | .isnot, .bl a, .bl b => some (!(a == b))
  | .isnot, _, .non => some true
  | _, _, _ => none
/-- the place of an index -/
def ixN (n : Nat) (i : Int) : Option Nat := if 0 ≤ i then (if i < n then some i.toNat else none) else if -(n : Int) ≤ i then some (i + n).toNat else none
def sIx (n d : Nat) : Option Int → Nat
  | none => d
  | some i => if i < 0 then (i + (n : Int)).toNat else min i.toNat n
def cut {α : Type} (xs : List α) (lo hi : Option Int) : List α := (xs.drop (sIx xs.length 0 lo)).take (sIx xs.length xs.length hi - sIx xs.length 0 lo)
/-- one item, in place -/
def item : O → D → Option O
  | .d (.lst l), .int i => ((ixN l.length i).bind (l[·]?)).map .d
  | .d (.tup l), .int i => ((ixN l.length i).bind (l[·]?)).map .d
  | .d (.dic l), k => if keyOf k then (dget k l).map .d else none
  | .lst l, .int i => (ixN l.length i).bind (l[·]?)
  | .dic l, k => if keyOf k then (l.find? fun p => D.eqv p.1 k).map (·.2) else none
  | _, _ => none
/-- a built-in value's class -/
def tyN : D → Option String
  | .non => some "NoneType"
  | .bl _ => some "bool"
  | .int _ => some "int"
  | .str _ => some "str"
  | .tup _ => some "tuple"
  | .lst _ => some "list"
  | .dic _ => some "dict"
  | _ => none
def tyNames : List String := ["int", "bool", "str", "tuple", "list", "dict"]
def isTy (n : String) (d : D) : Option Bool := if n ∈ tyNames then (match d with
  | .ins _ _ => some false
  | d => match tyN d with
    | some a => some (a == n || (a == "bool" && n == "int"))
    | none => none) else none
def tyNs : List D → Option (List String)
  | [] => some []
  | .ty n :: r => (tyNs r).map (n :: ·)
  | _ :: _ => none
def anyN (x : D) : List String → Option Bool
  | [] => some false
  | n :: r => match isTy n x with
    | some true => some true
    | some false => anyN x r
    | none => none
def isInst (x : D) : D → Option Bool
  | .ty n => isTy n x
  | .cls c => match x with
    | .ins c' _ => some (c' == c)
    | d => (tyN d).map fun _ => false
  | .tup l => match tyNs l with
    | some (n :: ns) => anyN x (n :: ns)
    | _ => none
  | _ => none
def intsD : List D → Option (List Int)
  | [] => some []
  | .int i :: r => (intsD r).map (i :: ·)
  | _ => none
def bls : List D → Option (List Bool)
  | [] => some []
  | .bl i :: r => (bls r).map (i :: ·)
  | _ => none
def insort (x : Int) : List Int → List Int
  | [] => [x]
  | y :: r => if x ≤ y then x :: y :: r else y :: insort x r
def isort : List Int → List Int
  | [] => []
  | x :: r => insort x (isort r)
def bi : Bi → List D → Option O
  | .len, [.lst l] => some (.d (.int l.length))
  | .len, [.tup l] => some (.d (.int l.length))
  | .len, [.scr l] => some (.d (.int l.length))
  | .abs, [.int i] => some (.d (.int i.natAbs))
  | .int, [.int i] => some (.d (.int i))
  | .int, [.bl b] => some (.d (.int (if b then 1 else 0)))
  | .list, [.lst l] => some (.lst (l.map .d))
  | .list, [.tup l] => some (.lst (l.map .d))
  | .tuple, [.lst l] => some (.d (.tup l))
  | .tuple, [.tup l] => some (.d (.tup l))
  | .sorted, [.lst l] => (intsD l).bind fun ns => if ns.length < 64 then some (.lst ((isort ns).map fun i => .d (.int i))) else none
  | .sorted, [.tup l] => (intsD l).bind fun ns => if ns.length < 64 then some (.lst ((isort ns).map fun i => .d (.int i))) else none
  | .sum, [.lst l] => (intsD l).map fun ns => .d (.int ns.sum)
  | .sum, [.tup l] => (intsD l).map fun ns => .d (.int ns.sum)
  | .all, [.lst l] => (bls l).map fun bs => .d (.bl (bs.all id))
  | .any, [.lst l] => (bls l).map fun bs => .d (.bl (bs.any id))
  | .min, [.int i, .int j] => some (.d (.int (if j < i then j else i)))
  | .max, [.int i, .int j] => some (.d (.int (if i < j then j else i)))
  | .min, [.lst l] => (intsD l).bind fun ns => match ns with
    | [] => none
    | n :: r => some (.d (.int (r.foldl min n)))
  | .min, [.tup l] => (intsD l).bind fun ns => match ns with
    | [] => none
    | n :: r => some (.d (.int (r.foldl min n)))
  | .max, [.lst l] => (intsD l).bind fun ns => match ns with
    | [] => none
    | n :: r => some (.d (.int (r.foldl max n)))
  | .max, [.tup l] => (intsD l).bind fun ns => match ns with
    | [] => none
    | n :: r => some (.d (.int (r.foldl max n)))
  | .isinst, [x, t] => (isInst x t).map fun b => .d (.bl b)
  | _, _ => none
/-- what an iterable yields -/
def seqOf : D → Option (List D)
  | .lst l => some l
  | .tup l => some l
  | .scr l => some l
  | _ => none
def rangeL (a b : Int) : List D := (List.range (b - a).toNat).map fun (k : Nat) => .int (a + (k : Int))
def itk : Itk → List D → Option (List D)
  | .range, [.int n] => if decide (-(2 : Int) ^ 62 ≤ n) && decide (n < 2 ^ 62) then some (rangeL 0 n) else none
  | .range, [.int a, .int b] => if decide (-(2 : Int) ^ 62 ≤ a) && decide (a < 2 ^ 62) && decide (-(2 : Int) ^ 62 ≤ b) && decide (b < 2 ^ 62) then some (rangeL a b) else none
  | .zip, [a, b] => (seqOf a).bind fun x => (seqOf b).map fun y => (x.zip y).map fun p => .tup [p.1, p.2]
  | .enum, [a] => (seqOf a).map fun x => (x.zipIdx).map fun p => .tup [.int (p.2 : Int), p.1]
  | _, _ => none
def attrOf (f : Nat) (d : D) : Option D := match d with
  | .ins _ l => l.lookup f
  | _ => none
def Tg.slots : Tg → List Nat
  | .nm i => [i]
  | .tup l => go l
where go : List Tg → List Nat
  | [] => []
  | t :: r => t.slots ++ go r
/-- a target's names get what stands there -/
def bindT : Tg → D → List (Option O) → Option (List (Option O))
  | .nm i, x, env => some (env.set i (some (.d x)))
  | .tup l, .tup xs, env => go l xs env
  | _, _, _ => none
where go : List Tg → List D → List (Option O) → Option (List (Option O))
  | [], [], env => some env
  | t :: ts, x :: xs, env => (bindT t x env).bind (go ts xs)
  | _, _, _ => none
def wipe (env : List (Option O)) : List Nat → List (Option O)
  | [] => env
  | i :: r => (wipe env r).set i none
/-- what a name holds, if it is data -/
def dOnly (old : List (Option O)) (i : Nat) : Option O := match old[i]? with
  | some (some (.d x)) => some (.d x)
  | _ => none
def putBack (env old : List (Option O)) : List Nat → List (Option O)
  | [] => env
  | i :: r => (putBack env old r).set i (dOnly old i)

/-! ### the interpreter -/
/-- the turns of a comprehension: f the item, the state -> what is kept (none: left out), the state behind -/
def lcLoop (f : D → St → Option (Option D × St)) : List D → List D → St → Option (List D × St)
  | [], acc, s => some (acc.reverse, s)
  | x :: xs, acc, s => match f x s with
    | none => none
    | some (none, s') => lcLoop f xs acc s'
    | some (some y, s') => lcLoop f xs (y :: acc) s'
/-- the turns of a for -/
def forLoop (f : D → St → Option (Out × St)) : List D → St → Option (Out × St)
  | [], s => some (.nx, s)
  | x :: xs, s => match f x s with
    | none => none
    | some (.nx, s') => forLoop f xs s'
    | some (.cont, s') => forLoop f xs s'
    | some (.brk, s') => some (.nx, s')
    | some (.ret o, s') => some (.ret o, s')

/-- a name, or a part of what it holds -/
def E.place : E → Bool
  | .var _ | .idx _ _ | .attr _ _ => true
  | _ => false
/-- what stays owned in a display -/
def E.keeps : E → Bool
  | .mv _ | .keep _ => true
  | _ => false

structure Cx where
  call : Nat → List D → List O → Option (O × List O)
  make : Nat → List D → List O → Option (List (Nat × D) × List O)
  lp : (St → Option (St ⊕ (Out × St))) → St → Option (Out × St)
  own : List Nat
  cel : List Nat

/-- changes nothing but by calls and freezing: what was seen stays -/
def E.quiet : E → Bool
  | .var _ | .con _ => true
  | .bin _ a b => a.quiet && b.quiet
  | .idx a b => a.quiet && b.quiet
  | .neg a => a.quiet
  | .attr a _ => a.quiet
  | .bi _ es => go es
  | .tup es => go es
  | .lst es => go es
  | .not a => a.quiet
  | .cmp _ a b => a.quiet && b.quiet
  | .and a b => a.quiet && b.quiet
  | .or a b => a.quiet && b.quiet
  | _ => false
where go : List E → Bool
  | [] => true
  | e :: r => e.quiet && go r
def E.quietO : Option E → Bool
  | none => true
  | some e => e.quiet
def O.isD : O → Bool
  | .d _ => true
  | _ => false

/-- what a walk over es yields: of one thing itself, of several by k -/
def yields (k : Option Itk) (ds : List D) : Option (List D) := match k, ds with
  | none, [d] => seqOf d
  | none, _ => none
  | some k, ds => itk k ds
def bit (b : Bi) (l : List D) : Option O := match b with
  | .list => some (.lst (l.map .d))
  | .tuple => some (.d (.tup l))
  | _ => none

/-! ### owned objects changed in place -/
def putKs (k : D) (x : O) (l : List (D × O)) : List (D × O) :=
  if (l.any fun p => D.eqv p.1 k) = true then l.map fun p => if D.eqv p.1 k = true then (p.1, x) else p else l ++ [(k, x)]
/-- the first at k -/
def replK (k : D) (x : O) : List (D × O) → List (D × O)
  | [] => []
  | (k', y) :: r => if D.eqv k' k then (k', x) :: r else (k', y) :: replK k x r
/-- the item at a key changed by f -/
def modAt {α : Type} (k : D) (f : O → Option (O × α)) : O → Option (O × α)
  | .lst l => match k with
    | .int i => match ixN l.length i with
      | some j => match l[j]? with
        | some o => (f o).map fun r => (.lst (l.set j r.1), r.2)
        | none => none
      | none => none
    | _ => none
  | .dic l => if keyOf k then match l.find? fun p => D.eqv p.1 k with
      | some (_, o) => (f o).map fun r => (.dic (replK k r.1 l), r.2)
      | none => none else none
  | _ => none
def modPath {α : Type} (f : O → Option (O × α)) : List D → O → Option (O × α)
  | [], o => f o
  | k :: ks, o => modAt k (modPath f ks) o
/-- what name i holds (a cell's content, if it is one) changed by f -/
def modR {α : Type} (i : Nat) (ks : List D) (f : O → Option (O × α)) (s : St) : Option (α × St) := match s.env[i]? with
  | some (some (.d (.cell n))) => match s.sto[n]? with
    | some o => (modPath f ks o).map fun r => (r.2, { s with sto := s.sto.set n r.1 })
    | none => none
  | some (some o) => (modPath f ks o).map fun r => (r.2, { s with env := s.env.set i (some r.1) })
  | _ => none
def popAt (ds : List D) : O → Option (O × O)
  | .lst l => match ds with
    | [] => match l[l.length - 1]? with
      | some (.d x) => some (.lst l.dropLast, .d x)
      | _ => none
    | [.int k] => match ixN l.length k with
      | some j => match l[j]? with
        | some (.d x) => if (O.pures l).isNone || !(decide (-(2 : Int) ^ 62 ≤ k) && decide (k < 2 ^ 62)) then none else some (.lst (l.eraseIdx j), .d x)
        | _ => none
      | none => none
    | _ => none
  | _ => none
def appAt (x : O) : O → Option (O × Unit)
  | .lst l => if lenOk (l.length + 1) then some (.lst (l ++ [x]), ()) else none
  | _ => none
def setAt (k : D) (x : O) : O → Option (O × Unit)
  | .lst l => match k with
    | .int i => match ixN l.length i with
      | some j => some (.lst (l.set j x), ())
      | none => none
    | _ => none
  | .dic l => if keyOf k && lenOk (l.length + 1) then some (.dic (putKs k x l), ()) else none
  | _ => none

/-- the keys of a display: texts and intsD, no two alike, few -/
def keysOk : List (D × O) → Bool
  | [] => true
  | (k, _) :: r => keyOf k && !(r.any fun p => D.eqv p.1 k) && keysOk r && decide (r.length < 15)
/-- name i holds a list of its own -/
def isL (i : Nat) (s : St) : Bool := match s.env[i]? with
  | some (some (.lst _)) => true
  | some (some (.d (.cell n))) => (match s.sto[n]? with
    | some (.lst _) => true
    | _ => false)
  | _ => false
def isN (i : Nat) (s : St) : Bool := match s.env[i]? with
  | some (some _) => true
  | _ => false
def E.isCon : E → Bool
  | .con _ => true
  | _ => false
section
variable (c : Cx)
mutual
/-- e's value; m: seen in place -/
def ev (m : Bool) : E → St → Option (O × St)
  | .var i, s => match s.env[i]? with
    | some (some o) => if m then (match o with
        | .d (.cell n) => (s.sto[n]?).map fun o => (o, s)
        | o => some (o, s)) else some (.d o.toD, { s with env := s.env.set i (some (.d o.toD)) })
    | _ => none
  | .mv i, s => match s.env[i]? with
    | some (some o) => some (o, { s with env := s.env.set i none })
    | _ => none
  | .keep e, s => ev false e s
  | .con d, s => some (.d d, s)
  | .tup es, s => match evs es s with
    | some (ds, s1) => if lenOk ds.length then some (.d (.tup ds), s1) else none
    | none => none
  | .lst es, s => match evs es s with
    | some (ds, s1) => if lenOk ds.length then some (.lst (ds.map .d), s1) else none
    | none => none
  | .dict kvs, s => match evKs kvs s with
    | some (l, s1) => if keysOk l then some (.dic l, s1) else none
    | none => none
  | .bin op a b, s => match ev true a s with
    | some (oa, s1) => if oa.isD || b.quiet || !a.place then match ev true b s1 with
      | some (ob, s2) => match oa.flat, ob.flat with
        | some x, some y => (bop op x y).map fun o => (o, s2)
        | _, _ => none
      | none => none else none
    | none => none
  | .neg a, s => match ev false a s with
    | some (.d (.int i), s1) => some (.d (.int (-i)), s1)
    | _ => none
  | .not a, s => match ev false a s with
    | some (.d (.bl b), s1) => some (.d (.bl (!b)), s1)
    | _ => none
  | .and a b, s => match ev false a s with
    | some (.d (.bl true), s1) => match ev false b s1 with
      | some (.d (.bl z), s2) => some (.d (.bl z), s2)
      | _ => none
    | some (.d (.bl false), s1) => some (.d (.bl false), s1)
    | _ => none
  | .or a b, s => match ev false a s with
    | some (.d (.bl false), s1) => match ev false b s1 with
      | some (.d (.bl z), s2) => some (.d (.bl z), s2)
      | _ => none
    | some (.d (.bl true), s1) => some (.d (.bl true), s1)
    | _ => none
  | .cmp op a b, s => match ev true a s with
    | some (oa, s1) => if oa.isD || b.quiet || !a.place then match ev true b s1 with
      | some (ob, s2) => match oa.flat, ob.flat with
        | some x, some y => (cop op x y).map fun o => (.d (.bl o), s2)
        | _, _ => none
      | none => none else none
    | none => none
  | .chain op op' a b c', s => match ev false a s with
    | some (.d x, s1) => match ev false b s1 with
      | some (.d y, s2) => match cop op x y with
        | some true => match ev false c' s2 with
          | some (.d z, s3) => (cop op' y z).map fun o => (.d (.bl o), s3)
          | _ => none
        | some false => some (.d (.bl false), s2)
        | none => none
      | _ => none
    | _ => none
  | .ife t a b, s => match ev false t s with
    | some (.d (.bl true), s1) => ev false a s1
    | some (.d (.bl false), s1) => ev false b s1
    | _ => none
  | .idx a i, s => match ev true a s with
    | some (oa, s1) => if oa.isD || i.quiet || !a.place then match ev false i s1 with
      | some (.d k, s2) => match item oa k with
        | some o => if m || o.isD then some (o, s2) else none
        | none => none
      | _ => none else none
    | none => none
  | .slc a lo hi, s => match ev true a s with
    | some (oa, s1) => if oa.isD || (E.quietO lo && E.quietO hi) || !a.place then match evo lo s1 with
      | some (l, s2) => match evo hi s2 with
        | some (h, s3) => match oa.flat with
          | some (.lst xs) => some (.lst ((cut xs l h).map .d), s3)
          | some (.tup xs) => some (.d (.tup (cut xs l h)), s3)
          | _ => none
        | none => none
      | none => none else none
    | none => none
  | .attr a f, s => match ev true a s with
    | some (.d d, s1) => (attrOf f d).map fun x => (.d x, s1)
    | some (.ins _ l, s1) => match l.lookup f with
      | some o => if m || o.isD then some (o, s1) else none
      | none => none
    | _ => none
  | .call f es, s => match evs es s with
    | some (ds, s1) => match c.call f ds s1.sto with
      | some (o, sto) => some (o, { s1 with sto := sto })
      | none => none
    | none => none
  | .calk f pm es, s => match evs es s with
    | some (ds, s1) => match pm.mapM (ds[·]?) with
      | some as => match c.call f as s1.sto with
        | some (o, sto) => some (o, { s1 with sto := sto })
        | none => none
      | none => none
    | none => none
  | .calv i es, s => match s.env[i]? with
    | some (some (.d (.fn f))) => match evs es s with
      | some (ds, s1) => match c.call f ds s1.sto with
        | some (o, sto) => some (o, { s1 with sto := sto })
        | none => none
      | none => none
    | _ => none
  | .mk k es, s => match evs es s with
    | some (ds, s1) => match c.make k ds s1.sto with
      | some (l, sto) => some (.d (.ins k l), { s1 with sto := sto })
      | none => none
    | none => none
  | .bi b es, s => match evVs es s with
    | some (ds, s1) => (bi b ds).map fun o => (o, s1)
    | none => none
  | .bit b k es, s => match evs es s with
    | some (ds, s1) => match itk k ds with
      | some l => (bit b l).map fun o => (o, s1)
      | none => none
    | none => none
  | .pop p es, s => match evPath p s with
    | some (i, ks, s1) => if (ks.isEmpty && isL i s1) || es.all E.isCon then match evs es s1 with
      | some (ds, s2) => modR i ks (popAt ds) s2
      | none => none else none
    | none => none
  | .lc tg k es cs el, s => match evs es s with
    | some (ds, s1) => match yields k ds with
      | some xs => match lcLoop (fun x s => match bindT tg x (wipe s.env tg.slots) with
          | some env => match evT cs { s with env := env } with
            | some (true, s2) => match ev false el s2 with
              | some (o, s3) => some (some o.toD, s3)
              | none => none
            | some (false, s2) => some (none, s2)
            | none => none
          | none => none) xs [] s1 with
        | some (ys, s2) => if lenOk ys.length then some (.lst (ys.map .d), { s2 with env := putBack s2.env s1.env tg.slots }) else none
        | none => none
      | none => none
    | none => none
  | _, _ => none
/-- where a place that is changed lies: a name, and keys from there on -/
def evPath : E → St → Option (Nat × List D × St)
  | .var i, s => if isN i s then some (i, [], s) else none
  | .idx a k, s => match evPath a s with
    | some (i, ks, s1) => match ev false k s1 with
      | some (.d kd, s2) => some (i, ks ++ [kd], s2)
      | _ => none
    | none => none
  | _, _ => none
def evs : List E → St → Option (List D × St)
  | [], s => some ([], s)
  | .star e :: r, s => match ev false e s with
    | some (o, s1) => match seqOf o.toD with
      | some l => match evs r s1 with
        | some (ds, s2) => some (l ++ ds, s2)
        | none => none
      | none => none
    | none => none
  | e :: r, s => match ev false e s with
    | some (o, s1) => match evs r s1 with
      | some (ds, s2) => some (o.toD :: ds, s2)
      | none => none
    | none => none
def evVs : List E → St → Option (List D × St)
  | [], s => some ([], s)
  | e :: r, s => match ev true e s with
    | some (o, s1) => if o.isD || E.quiet.go r || !e.place then match evVs r s1 with
      | some (ds, s2) => (o.flat).map fun d => (d :: ds, s2)
      | none => none else none
    | none => none
def evKs : List E → St → Option (List (D × O) × St)
  | [], s => some ([], s)
  | k :: v :: r, s => match ev false k s with
    | some (.d kd, s1) => match ev false v s1 with
      | some (o, s2) => match evKs r s2 with
        | some (l, s3) => some ((kd, if v.keeps then o else .d o.toD) :: l, s3)
        | none => none
      | none => none
    | _ => none
  | _, _ => none
def evT : List E → St → Option (Bool × St)
  | [], s => some (true, s)
  | e :: r, s => match ev false e s with
    | some (.d (.bl true), s1) => evT r s1
    | some (.d (.bl false), s1) => some (false, s1)
    | _ => none
def evo : Option E → St → Option (Option Int × St)
  | none, s => some (none, s)
  | some e, s => match ev false e s with
    | some (.d (.int i), s1) => some (some i, s1)
    | _ => none
end

/-- name i gets o -/
def stE (i : Nat) (o : O) (s : St) : St :=
  if i ∈ c.cel then { env := s.env.set i (some (.d (.cell s.sto.length))), sto := s.sto ++ [o] }
  else if i ∈ c.own then { s with env := s.env.set i (some o) } else { s with env := s.env.set i (some (.d o.toD)) }
def asgT (tg : Tg) (o : O) (s : St) : Option St := match tg with
  | .nm i => if i ∈ c.cel ∧ o.isD = true then none else some (stE c i o s)
  | .tup _ => match o with
    | .d x => (bindT tg x s.env).map fun env => { s with env := env }
    | _ => none
/-- each to an owned value -/
def evOs : List E → St → Option (List O × St)
  | [], s => some ([], s)
  | e :: r, s => match ev c false e s with
    | some (o, s1) => match evOs r s1 with
      | some (os, s2) => some (o :: os, s2)
      | none => none
    | none => none
def stEs : List Nat → List O → St → Option St
  | [], [], s => some s
  | i :: is, o :: os, s => if i ∈ c.cel then none else stEs is os (stE c i o s)
  | _, _, _ => none
def putF (f : Nat) (x : O) : List (Nat × O) → List (Nat × O)
  | [] => [(f, x)]
  | (g, y) :: r => if g = f then (g, x) :: r else (g, y) :: putF f x r
mutual
def ex : S → St → Option (Out × St)
  | .asg tg e, s => match ev c false e s with
    | some (o, s1) => (asgT c tg o s1).map fun s2 => (.nx, s2)
    | none => none
  | .par is es, s => match evOs c es s with
    | some (os, s1) => (stEs c is os s1).map fun s2 => (.nx, s2)
    | none => none
  | .set p k e, s => match ev c false e s with
    | some (o, s1) => match evPath c p s1 with
      | some (i, ks, s2) => match ev c false k s2 with
        | some (.d kd, s3) => (modR i ks (setAt kd (.d o.toD)) s3).map fun r => (.nx, r.2)
        | _ => none
      | none => none
    | none => none
  | .setA i f e, s => match ev c false e s with
    | some (o, s1) => match s1.env[i]? with
      | some (some (.ins k l)) => if l.length < 100 then some (.nx, { s1 with env := s1.env.set i (some (.ins k (putF f (.d o.toD) l))) }) else none
      | _ => none
    | none => none
  | .aug i op e, s => match s.env[i]? with
    | some (some (.d x)) => match ev c false e s with
      | some (.d y, s1) => match bop op x y with
        | some (.d z) => some (.nx, { s1 with env := s1.env.set i (some (.d z)) })
        | _ => none
      | _ => none
    | _ => none
  | .augS p k op e, s => match evPath c p s with
    | some (i, ks, s1) => match ev c false k s1 with
      | some (.d kd, s2) => if e.quiet then match ev c false e s2 with
        | some (.d y, s3) => (modR i ks (modAt kd fun o => match o with
          | .d x => match bop op x y with
            | some (.d z) => some (.d z, ())
            | _ => none
          | _ => none) s3).map fun r => (.nx, r.2)
        | _ => none else none
      | _ => none
    | none => none
  | .app p e, s => match evPath c p s with
    | some (i, ks, s1) => if ks.isEmpty && isL i s1 then match ev c false e s1 with
      | some (o, s2) => (modR i ks (appAt (.d o.toD)) s2).map fun r => (.nx, r.2)
      | none => none else none
    | none => none
  | .ex e, s => match ev c false e s with
    | some (_, s1) => some (.nx, s1)
    | none => none
  | .ret e, s => match ev c false e s with
    | some (o, s1) => some (.ret o, s1)
    | none => none
  | .ite t a b, s => match ev c false t s with
    | some (.d (.bl true), s1) => exs a s1
    | some (.d (.bl false), s1) => exs b s1
    | _ => none
  | .for_ tg k es b, s => match evs c es s with
    | some (ds, s1) => match yields k ds with
      | some xs => forLoop (fun x s => match bindT tg x s.env with
          | some env => exs b { s with env := env }
          | none => none) xs s1
      | none => none
    | none => none
  | .whl t b, s => c.lp (fun s => match ev c false t s with
      | some (.d (.bl true), s1) => match exs b s1 with
        | some (.nx, s2) => some (.inl s2)
        | some (.cont, s2) => some (.inl s2)
        | some (.brk, s2) => some (.inr (.nx, s2))
        | some (.ret o, s2) => some (.inr (.ret o, s2))
        | none => none
      | some (.d (.bl false), s1) => some (.inr (.nx, s1))
      | _ => none) s
  | .cont, s => some (.cont, s)
  | .brk, s => some (.brk, s)
  | .pass, s => some (.nx, s)
  | .stuck, _ => none
def exs : List S → St → Option (Out × St)
  | [], s => some (.nx, s)
  | x :: r, s => match ex x s with
    | some (.nx, s1) => exs r s1
    | some (o, s1) => some (o, s1)
    | none => none
end
end

/-! ### programs -/
structure Def where
  ar : Nat
  sl : Nat
  own : List Nat
  cel : List Nat
  body : List S
structure Prog where
  defs : List Def
  /-- the def of a class's __init__ -/
  ini : List (Nat × Nat)
def start (d : Def) (os : List O) : List (Option O) := os.map some ++ List.replicate (d.sl - os.length) none
section
variable (lp : (St → Option (St ⊕ (Out × St))) → St → Option (Out × St)) (P : Prog)
/-- a def's run, k calls deep at most -/
def callK : Nat → Nat → List O → List O → Option (Out × St)
  | 0, _, _, _ => none
  | k + 1, f, os, sto => match P.defs[f]? with
    | some d => if os.length = d.ar then
        exs ⟨fun g ds sto => match (callK k g (ds.map O.d) sto : Option (Out × St)) with
            | some (.ret o, s) => some (o, s.sto)
            | some (.nx, s) => some (.d .non, s.sto)
            | _ => none,
          fun q ds sto => match P.ini.lookup q with
            | some g => match (callK k g (O.ins q [] :: ds.map O.d) sto : Option (Out × St)) with
              | some (.nx, s) => match (s.env[0]? : Option (Option O)) with
                | some (some (.ins q' l)) => if q' = q then some (O.toFs l, s.sto) else none
                | _ => none
              | _ => none
            | none => none, lp, d.own, d.cel⟩ d.body ⟨start d os, sto⟩ else none
    | none => none
end
section
variable (lp : (St → Option (St ⊕ (Out × St))) → St → Option (Out × St)) (P : Prog)
/-- a call of a def, k deep -/
def callD (k : Nat) : Nat → List D → List O → Option (O × List O) := fun g ds sto => match (callK lp P k g (ds.map O.d) sto : Option (Out × St)) with
  | some (.ret o, s) => some (o, s.sto)
  | some (.nx, s) => some (.d .non, s.sto)
  | _ => none
def makeD (k : Nat) : Nat → List D → List O → Option (List (Nat × D) × List O) := fun q ds sto => match P.ini.lookup q with
  | some g => match (callK lp P k g (O.ins q [] :: ds.map O.d) sto : Option (Out × St)) with
    | some (.nx, s) => match (s.env[0]? : Option (Option O)) with
      | some (some (.ins q' l)) => if q' = q then some (O.toFs l, s.sto) else none
      | _ => none
    | _ => none
  | none => none
def cxK (k : Nat) (own cel : List Nat) : Cx := ⟨callD lp P k, makeD lp P k, lp, own, cel⟩
theorem callK_succ (k f : Nat) (os sto : List O) : callK lp P (k + 1) f os sto = match P.defs[f]? with
    | some d => if os.length = d.ar then exs (cxK lp P k d.own d.cel) d.body ⟨start d os, sto⟩ else none
    | none => none := rfl
end
/-- turns counted -/
def iter {α β : Type} (f : α → Option (α ⊕ β)) : Nat → α → Option β
  | 0, _ => none
  | n + 1, a => match f a with
    | none => none
    | some (.inl a') => iter f n a'
    | some (.inr b) => some b
open Classical in
/-- turns until it ends -/
noncomputable def loop {α β : Type} (f : α → Option (α ⊕ β)) (a : α) : Option β := if h : ∃ b, ∃ n, iter f n a = some b then some h.choose else none
end Py
end

section
namespace Py
namespace K48
/-- 0 is_number(thing): 0:thing -/
def d_is_number : Def := { ar := 1, sl := 1, own := [], cel := [], body :=
  [.ret (.and (.bi .isinst [.var 0, .con (.ty "int")]) (.not (.bi .isinst [.var 0, .con (.ty "bool")])))] }
/-- 1 is_between(thing, low, high): 0:thing 1:low 2:high -/
def d_is_between : Def := { ar := 3, sl := 3, own := [], cel := [], body :=
  [.ret (.and (.call 0 [.var 0]) (.chain .le .le (.var 1) (.var 0) (.var 2)))] }
/-- 2 is_list(thing): 0:thing -/
def d_is_list : Def := { ar := 1, sl := 1, own := [], cel := [], body :=
  [.ret (.bi .isinst [.var 0, .tup [.con (.ty "list"), .con (.ty "tuple")]])] }
/-- 3 is_row(thing, many): 0:thing 1:many 2:item -/
def d_is_row : Def := { ar := 2, sl := 3, own := [], cel := [], body :=
  [.ret (.and (.bi .isinst [.var 0, .con (.ty "tuple")]) (.and (.cmp .eq (.bi .len [.var 0]) (.var 1)) (.bi .all [.lc (.nm 2) none [.var 0] [] (.call 0 [.var 2])])))] }
/-- 4 is_count_row(thing, many): 0:thing 1:many 2:item -/
def d_is_count_row : Def := { ar := 2, sl := 3, own := [], cel := [], body :=
  [.ret (.and (.call 3 [.var 0, .var 1]) (.bi .all [.lc (.nm 2) none [.var 0] [] (.cmp .ge (.var 2) (.con (.int 0)))]))] }
/-- 5 divisor_of(numbers): 0:numbers 1:found 2:number 3:here 4:there -/
def d_divisor_of : Def := { ar := 1, sl := 5, own := [], cel := [], body :=
  [.asg (.nm 1) (.con (.int 0)),
  .for_ (.nm 2) none [.var 0]
  [.par [3, 4] [.var 1, .bi .abs [.var 2]],
  .whl (.cmp .ne (.var 4) (.con (.int 0)))
  [.par [3, 4] [.var 4, .bin .mod (.var 3) (.var 4)]],
  .asg (.nm 1) (.var 3)],
  .ret (.var 1)] }
/-- 6 multiple_of(numbers): 0:numbers 1:found 2:number -/
def d_multiple_of : Def := { ar := 1, sl := 3, own := [], cel := [], body :=
  [.asg (.nm 1) (.con (.int 1)),
  .for_ (.nm 2) none [.var 0]
  [.asg (.nm 1) (.bin .mul (.bin .fdiv (.var 1) (.call 5 [.tup [.var 1, .var 2]])) (.var 2))],
  .ret (.var 1)] }
/-- 7 least_pair(scale, numbers): 0:scale 1:numbers 2:found 3:item -/
def d_least_pair : Def := { ar := 2, sl := 4, own := [], cel := [], body :=
  [.asg (.nm 2) (.call 5 [.tup [.var 0, .star (.var 1)]]),
  .ret (.tup [.bin .fdiv (.var 0) (.var 2), .bi .tuple [.lc (.nm 3) none [.var 1] [] (.bin .fdiv (.var 3) (.var 2))]])] }
/-- 8 ratio_of(above, below): 0:above 1:below 2:found -/
def d_ratio_of : Def := { ar := 2, sl := 3, own := [], cel := [], body :=
  [.asg (.nm 2) (.ife (.cmp .gt (.var 1) (.con (.int 0))) (.call 5 [.tup [.var 0, .var 1]]) (.bin .sub (.con (.int 0)) (.call 5 [.tup [.var 0, .var 1]]))),
  .ret (.tup [.bin .fdiv (.var 0) (.var 2), .bin .fdiv (.var 1) (.var 2)])] }
/-- 9 is_ratio(thing): 0:thing -/
def d_is_ratio : Def := { ar := 1, sl := 1, own := [], cel := [], body :=
  [.ite (.or (.not (.bi .isinst [.var 0, .con (.ty "tuple")])) (.or (.cmp .ne (.bi .len [.var 0]) (.con (.int 2))) (.or (.not (.call 0 [.idx (.var 0) (.con (.int 0))])) (.not (.call 0 [.idx (.var 0) (.con (.int 1))])))))
  [.ret (.con (.bl false))]
  [],
  .ret (.and (.cmp .ge (.idx (.var 0) (.con (.int 1))) (.con (.int 1))) (.cmp .eq (.call 5 [.var 0]) (.con (.int 1))))] }
/-- 10 sum_of(one, other): 0:one 1:other -/
def d_sum_of : Def := { ar := 2, sl := 2, own := [], cel := [], body :=
  [.ret (.call 8 [.bin .add (.bin .mul (.idx (.var 0) (.con (.int 0))) (.idx (.var 1) (.con (.int 1)))) (.bin .mul (.idx (.var 1) (.con (.int 0))) (.idx (.var 0) (.con (.int 1)))), .bin .mul (.idx (.var 0) (.con (.int 1))) (.idx (.var 1) (.con (.int 1)))])] }
/-- 11 less_of(one, other): 0:one 1:other -/
def d_less_of : Def := { ar := 2, sl := 2, own := [], cel := [], body :=
  [.ret (.call 8 [.bin .sub (.bin .mul (.idx (.var 0) (.con (.int 0))) (.idx (.var 1) (.con (.int 1)))) (.bin .mul (.idx (.var 1) (.con (.int 0))) (.idx (.var 0) (.con (.int 1)))), .bin .mul (.idx (.var 0) (.con (.int 1))) (.idx (.var 1) (.con (.int 1)))])] }
/-- 12 product_of(one, other): 0:one 1:other -/
def d_product_of : Def := { ar := 2, sl := 2, own := [], cel := [], body :=
  [.ret (.call 8 [.bin .mul (.idx (.var 0) (.con (.int 0))) (.idx (.var 1) (.con (.int 0))), .bin .mul (.idx (.var 0) (.con (.int 1))) (.idx (.var 1) (.con (.int 1)))])] }
/-- 13 total_of(ratios): 0:ratios 1:found 2:ratio_here -/
def d_total_of : Def := { ar := 1, sl := 3, own := [], cel := [], body :=
  [.asg (.nm 1) (.tup [.con (.int 0), .con (.int 1)]),
  .for_ (.nm 2) none [.var 0]
  [.asg (.nm 1) (.call 10 [.var 1, .var 2])],
  .ret (.var 1)] }
/-- 14 is_pair_of(many, thing): 0:many 1:thing -/
def d_is_pair_of : Def := { ar := 2, sl := 2, own := [], cel := [], body :=
  [.ite (.or (.not (.bi .isinst [.var 1, .con (.ty "tuple")])) (.or (.cmp .ne (.bi .len [.var 1]) (.con (.int 2))) (.or (.not (.call 0 [.idx (.var 1) (.con (.int 0))])) (.cmp .lt (.idx (.var 1) (.con (.int 0))) (.con (.int 1))))))
  [.ret (.con (.bl false))]
  [],
  .ret (.and (.call 4 [.idx (.var 1) (.con (.int 1)), .var 0]) (.cmp .eq (.call 5 [.tup [.idx (.var 1) (.con (.int 0)), .star (.idx (.var 1) (.con (.int 1)))]]) (.con (.int 1))))] }
/-- 15 is_share_of(many, thing): 0:many 1:thing -/
def d_is_share_of : Def := { ar := 2, sl := 2, own := [], cel := [], body :=
  [.ret (.and (.call 14 [.var 0, .var 1]) (.cmp .eq (.bi .sum [.idx (.var 1) (.con (.int 1))]) (.idx (.var 1) (.con (.int 0)))))] }
/-- 16 apart_of(one, other): 0:one 1:other 2:scale 3:here 4:there 5:item 6:both 7:pair 8:first 9:least 10:second -/
def d_apart_of : Def := { ar := 2, sl := 11, own := [], cel := [], body :=
  [.asg (.nm 2) (.bin .mul (.idx (.var 0) (.con (.int 0))) (.idx (.var 1) (.con (.int 0)))),
  .par [3, 4] [.lc (.nm 5) none [.idx (.var 0) (.con (.int 1))] [] (.bin .mul (.var 5) (.idx (.var 1) (.con (.int 0)))), .lc (.nm 5) none [.idx (.var 1) (.con (.int 1))] [] (.bin .mul (.var 5) (.idx (.var 0) (.con (.int 0))))],
  .asg (.nm 6) (.lc (.nm 7) (some .zip) [.var 3, .var 4] [] (.bi .min [.var 7])),
  .asg (.nm 8) (.lc (.tup [.nm 5, .nm 9]) (some .zip) [.var 3, .var 6] [] (.bin .sub (.var 5) (.var 9))),
  .asg (.nm 10) (.lc (.tup [.nm 5, .nm 9]) (some .zip) [.var 4, .var 6] [] (.bin .sub (.var 5) (.var 9))),
  .ret (.tup [.call 7 [.var 2, .var 6], .call 7 [.var 2, .var 8], .call 7 [.var 2, .var 10]])] }
/-- 17 is_chance_row(many, thing): 0:many 1:thing -/
def d_is_chance_row : Def := { ar := 2, sl := 2, own := [], cel := [], body :=
  [.ite (.or (.not (.bi .isinst [.var 1, .con (.ty "tuple")])) (.or (.cmp .ne (.bi .len [.var 1]) (.con (.int 2))) (.or (.not (.call 0 [.idx (.var 1) (.con (.int 0))])) (.cmp .lt (.idx (.var 1) (.con (.int 0))) (.con (.int 1))))))
  [.ret (.con (.bl false))]
  [],
  .ret (.and (.call 4 [.idx (.var 1) (.con (.int 1)), .var 0]) (.cmp .le (.bi .sum [.idx (.var 1) (.con (.int 1))]) (.idx (.var 1) (.con (.int 0)))))] }
/-- 18 Walk.__init__(self, rows): 0:self 1:rows 2:row 3:total 4:numbers -/
def d_Walkxx_initxx : Def := { ar := 2, sl := 5, own := [], cel := [], body :=
  [.ite (.or (.not (.call 2 [.var 1])) (.not (.chain .le .le (.con (.int 1)) (.bi .len [.var 1]) (.con (.int 8)))))
  [.stuck]
  [],
  .ite (.not (.bi .all [.lc (.nm 2) none [.var 1] [] (.call 17 [.bi .len [.var 1], .var 2])]))
  [.stuck]
  [],
  .setA 0 0 (.bi .tuple [.lc (.tup [.nm 3, .nm 4]) none [.var 1] [] (.call 7 [.var 3, .var 4])]),
  .setA 0 1 (.bi .len [.attr (.var 0) 0])] }
/-- 19 Walk.__eq__(self, other): 0:self 1:other -/
def d_Walkxx_eqxx : Def := { ar := 2, sl := 2, own := [], cel := [], body :=
  [.ret (.and (.bi .isinst [.var 1, .con (.cls 7)]) (.cmp .eq (.attr (.var 0) 0) (.attr (.var 1) 0)))] }
/-- 20 need_walk(walk): 0:walk -/
def d_need_walk : Def := { ar := 1, sl := 1, own := [], cel := [], body :=
  [.ite (.not (.bi .isinst [.var 0, .con (.cls 7)]))
  [.stuck]
  []] }
/-- 21 table_of(walk): 0:walk 1:total 2:row 3:item -/
def d_table_of : Def := { ar := 1, sl := 4, own := [], cel := [], body :=
  [.asg (.nm 1) (.call 6 [.lc (.nm 2) none [.attr (.var 0) 0] [] (.idx (.var 2) (.con (.int 0)))]),
  .ret (.tup [.var 1, .lc (.nm 2) none [.attr (.var 0) 0] [] (.lc (.nm 3) none [.idx (.var 2) (.con (.int 1))] [] (.bin .mul (.var 3) (.bin .fdiv (.var 1) (.idx (.var 2) (.con (.int 0))))))])] }
/-- 22 gone_on(walk, pair): 0:walk 1:pair 2:total 3:table 4:numbers 5:k 6:spot -/
def d_gone_on : Def := { ar := 2, sl := 7, own := [], cel := [], body :=
  [.asg (.tup [.nm 2, .nm 3]) (.call 21 [.var 0]),
  .asg (.nm 4) (.lc (.nm 6) (some .range) [.attr (.var 0) 1] [] (.bi .sum [.lc (.nm 5) (some .range) [.attr (.var 0) 1] [] (.bin .mul (.idx (.idx (.var 1) (.con (.int 1))) (.var 5)) (.idx (.idx (.var 3) (.var 5)) (.var 6)))])),
  .ret (.call 7 [.bin .mul (.idx (.var 1) (.con (.int 0))) (.var 2), .var 4])] }
/-- 23 gone_far(walk, pair, moment): 0:walk 1:pair 2:moment 3:found 4:lap -/
def d_gone_far : Def := { ar := 3, sl := 5, own := [], cel := [], body :=
  [.asg (.nm 3) (.var 1),
  .for_ (.nm 4) (some .range) [.var 2]
  [.asg (.nm 3) (.call 22 [.var 0, .var 3])],
  .ret (.var 3)] }
/-- 24 is_losing(walk): 0:walk 1:total 2:numbers -/
def d_is_losing : Def := { ar := 1, sl := 3, own := [], cel := [], body :=
  [.ret (.cmp .ne (.lc (.tup [.nm 1, .nm 2]) none [.attr (.var 0) 0] [.cmp .lt (.bi .sum [.var 2]) (.var 1)] (.con (.int 1))) (.lst []))] }
/-- 25 is_ratio_row(many, thing): 0:many 1:thing 2:item -/
def d_is_ratio_row : Def := { ar := 2, sl := 3, own := [], cel := [], body :=
  [.ret (.and (.bi .isinst [.var 1, .con (.ty "tuple")]) (.and (.cmp .eq (.bi .len [.var 1]) (.var 0)) (.bi .all [.lc (.nm 2) none [.var 1] [] (.call 9 [.var 2])])))] }
/-- 26 is_chance_tuple(many, thing): 0:many 1:thing 2:item -/
def d_is_chance_tuple : Def := { ar := 2, sl := 3, own := [], cel := [], body :=
  [.ret (.and (.call 25 [.var 0, .var 1]) (.bi .all [.lc (.nm 2) none [.var 1] [] (.cmp .ge (.idx (.var 2) (.con (.int 0))) (.con (.int 0)))]))] }
/-- 27 is_timetable(many, thing): 0:many 1:thing 2:row -/
def d_is_timetable : Def := { ar := 2, sl := 3, own := [], cel := [], body :=
  [.ite (.or (.not (.call 2 [.var 1])) (.not (.chain .le .le (.con (.int 1)) (.bi .len [.var 1]) (.con (.int 41)))))
  [.ret (.con (.bl false))]
  [],
  .ret (.bi .all [.lc (.nm 2) none [.var 1] [] (.call 26 [.var 0, .var 2])])] }
/-- 28 ratios_of(pair): 0:pair 1:item -/
def d_ratios_of : Def := { ar := 1, sl := 2, own := [], cel := [], body :=
  [.ret (.lc (.nm 1) none [.idx (.var 0) (.con (.int 1))] [] (.call 8 [.var 1, .idx (.var 0) (.con (.int 0))]))] }
/-- 29 behind_step(walk, ratios): 0:walk 1:ratios 2:found 3:spot 4:parts 5:here 6:row -/
def d_behind_step : Def := { ar := 2, sl := 7, own := [2], cel := [], body :=
  [.asg (.nm 2) (.lst []),
  .for_ (.nm 3) (some .range) [.attr (.var 0) 1]
  [.asg (.nm 4) (.lc (.tup [.nm 5, .nm 6]) (some .zip) [.var 1, .attr (.var 0) 0] [] (.call 12 [.var 5, .call 8 [.idx (.idx (.var 6) (.con (.int 1))) (.var 3), .idx (.var 6) (.con (.int 0))]])),
  .app (.var 2) (.call 13 [.var 4])],
  .ret (.mv 2)] }
/-- 30 comes_and_goes(walk, start, timetable): 0:walk 1:start 2:timetable 3:here 4:found 5:stops 6:on 7:one 8:other -/
def d_comes_and_goes : Def := { ar := 3, sl := 9, own := [4], cel := [], body :=
  [.par [3, 4] [.call 28 [.var 1], .lst []],
  .for_ (.nm 5) none [.var 2]
  [.asg (.nm 6) (.lc (.tup [.nm 7, .nm 8]) (some .zip) [.var 3, .var 5] [] (.call 11 [.var 7, .var 8])),
  .app (.var 4) (.tup [.var 3, .var 6]),
  .asg (.nm 3) (.call 29 [.var 0, .var 6])],
  .ret (.mv 4)] }
/-- 31 first_lack(walk, start, timetable): 0:walk 1:start 2:timetable 3:moment 4:pair 5:place 6:item -/
def d_first_lack : Def := { ar := 3, sl := 7, own := [], cel := [], body :=
  [.for_ (.tup [.nm 3, .nm 4]) (some .enum) [.call 30 [.var 0, .var 1, .var 2]]
  [.for_ (.tup [.nm 5, .nm 6]) (some .enum) [.idx (.var 4) (.con (.int 1))]
  [.ite (.cmp .lt (.idx (.var 6) (.con (.int 0))) (.con (.int 0)))
  [.ret (.tup [.var 3, .var 5])]
  []]],
  .ret (.con .non)] }
/-- 32 need_kept(walk): 0:walk -/
def d_need_kept : Def := { ar := 1, sl := 1, own := [], cel := [], body :=
  [.ex (.call 20 [.var 0]),
  .ite (.call 24 [.var 0])
  [.stuck]
  []] }
/-- 33 need_pair(walk, one, other): 0:walk 1:one 2:other -/
def d_need_pair : Def := { ar := 3, sl := 3, own := [], cel := [], body :=
  [.ite (.not (.call 15 [.attr (.var 0) 1, .var 1]))
  [.stuck]
  [],
  .ite (.not (.call 15 [.attr (.var 0) 1, .var 2]))
  [.stuck]
  []] }
/-- 34 need_moment_to(moment, most): 0:moment 1:most -/
def d_need_moment_to : Def := { ar := 2, sl := 2, own := [], cel := [], body :=
  [.ite (.not (.call 1 [.var 0, .con (.int 0), .var 1]))
  [.stuck]
  []] }
/-- 35 need_task(walk, one, other, moment, most): 0:walk 1:one 2:other 3:moment 4:most -/
def d_need_task : Def := { ar := 5, sl := 5, own := [], cel := [], body :=
  [.ex (.call 32 [.var 0]),
  .ex (.call 33 [.var 0, .var 1, .var 2]),
  .ex (.call 34 [.var 3, .var 4])] }
/-- 36 parted_of(one, other): 0:one 1:other 2:scale 3:numbers -/
def d_parted_of : Def := { ar := 2, sl := 4, own := [], cel := [], body :=
  [.asg (.tup [.nm 2, .nm 3]) (.idx (.call 16 [.var 0, .var 1]) (.con (.int 1))),
  .ret (.call 8 [.bi .sum [.var 3], .var 2])] }
/-- 37 parted_list(walk, one, other, moment): 0:walk 1:one 2:other 3:moment 4:here 5:there 6:found 7:lap -/
def d_parted_list : Def := { ar := 4, sl := 8, own := [6], cel := [], body :=
  [.par [4, 5, 6] [.var 1, .var 2, .lst [.call 36 [.var 1, .var 2]]],
  .for_ (.nm 7) (some .range) [.var 3]
  [.par [4, 5] [.call 22 [.var 0, .var 4], .call 22 [.var 0, .var 5]],
  .app (.var 6) (.call 36 [.var 4, .var 5])],
  .ret (.mv 6)] }
/-- 38 meeting_rows(walk, one, other, moment): 0:walk 1:one 2:other 3:moment 4:here 5:there 6:ahead 7:found 8:now 9:both 10:now_here 11:came -/
def d_meeting_rows : Def := { ar := 4, sl := 12, own := [7], cel := [], body :=
  [.par [4, 5, 6, 7] [.var 1, .var 2, .bin .mul (.lst [.tup [.con (.int 0), .con (.int 1)]]) (.attr (.var 0) 1), .lst []],
  .for_ (.nm 8) (some .range) [.bin .add (.var 3) (.con (.int 1))]
  [.asg (.nm 9) (.idx (.call 16 [.var 4, .var 5]) (.con (.int 0))),
  .app (.var 7) (.bi .tuple [.lc (.tup [.nm 10, .nm 11]) (some .zip) [.call 28 [.var 9], .var 6] [] (.call 11 [.var 10, .var 11])]),
  .asg (.nm 6) (.call 28 [.call 22 [.var 0, .var 9]]),
  .par [4, 5] [.call 22 [.var 0, .var 4], .call 22 [.var 0, .var 5]]],
  .ret (.mv 7)] }
/-- 39 stopped_so_far(timetable): 0:timetable 1:found 2:row -/
def d_stopped_so_far : Def := { ar := 1, sl := 3, own := [1], cel := [], body :=
  [.asg (.nm 1) (.lst [.tup [.con (.int 0), .con (.int 1)]]),
  .for_ (.nm 2) none [.var 0]
  [.app (.var 1) (.call 10 [.idx (.var 1) (.neg (.con (.int 1))), .call 13 [.bi .list [.var 2]]])],
  .ret (.slc (.var 1) (some (.con (.int 1))) none)] }
/-- 40 parted_at(walk, one, other, moment): 0:walk 1:one 2:other 3:moment -/
def d_parted_at : Def := { ar := 4, sl := 4, own := [], cel := [], body :=
  [.ex (.call 35 [.var 0, .var 1, .var 2, .var 3, .con (.int 200)]),
  .ret (.call 36 [.call 23 [.var 0, .var 1, .var 3], .call 23 [.var 0, .var 2, .var 3]])] }
/-- 41 meeting_table(walk, one, other, moment): 0:walk 1:one 2:other 3:moment -/
def d_meeting_table : Def := { ar := 4, sl := 4, own := [], cel := [], body :=
  [.ex (.call 35 [.var 0, .var 1, .var 2, .var 3, .con (.int 40)]),
  .ret (.call 38 [.var 0, .var 1, .var 2, .var 3])] }
/-- 42 is_meeting(walk, one, other, moment, thing): 0:walk 1:one 2:other 3:moment 4:thing 5:item -/
def d_is_meeting : Def := { ar := 5, sl := 6, own := [], cel := [], body :=
  [.ex (.call 35 [.var 0, .var 1, .var 2, .var 3, .con (.int 40)]),
  .ite (.or (.not (.call 27 [.attr (.var 0) 1, .var 4])) (.cmp .ne (.bi .len [.var 4]) (.bin .add (.var 3) (.con (.int 1)))))
  [.ret (.con (.bl false))]
  [],
  .ite (.or (.cmp .isnot (.call 31 [.var 0, .var 1, .var 4]) (.con .non)) (.cmp .isnot (.call 31 [.var 0, .var 2, .var 4]) (.con .non)))
  [.ret (.con (.bl false))]
  [],
  .ret (.cmp .eq (.call 39 [.var 4]) (.lc (.nm 5) none [.call 37 [.var 0, .var 1, .var 2, .var 3]] [] (.call 11 [.tup [.con (.int 1), .con (.int 1)], .var 5])))] }
/-- 43 _law_begun(script): 0:script 1:large 2:cell -/
def d_law_begun : Def := { ar := 1, sl := 3, own := [1], cel := [], body :=
  [.asg (.nm 1) (.lc (.nm 2) none [.var 0] [.cmp .ge (.bi .abs [.var 2]) (.bin .pow (.con (.int 10)) (.con (.int 18)))] (.bin .sub (.bi .abs [.var 2]) (.bin .pow (.con (.int 10)) (.con (.int 18))))),
  .ret (.dict [.con (.str [108, 97, 114, 103, 101]), .mv 1, .con (.str [114, 101, 115, 116]), .con (.int 0), .con (.str [99, 101, 108, 108, 115]), .lc (.nm 2) none [.var 0] [] (.bi .abs [.var 2]), .con (.str [116, 117, 114, 110]), .con (.int 0)])] }
/-- 44 _law_mixed(draw): 0:draw 1:turn 2:found 3:great 4:blend 5:cell -/
def d_law_mixed : Def := { ar := 1, sl := 6, own := [], cel := [], body :=
  [.set (.var 0) (.con (.str [116, 117, 114, 110])) (.bin .add (.idx (.var 0) (.con (.str [116, 117, 114, 110]))) (.con (.int 1))),
  .par [1, 2] [.bi .int [.idx (.var 0) (.con (.str [116, 117, 114, 110]))], .con (.int 0)],
  .for_ (.nm 3) none [.lst [.con (.int 2147483647), .con (.int 2147483629), .con (.int 2147483587)]]
  [.asg (.nm 4) (.bin .mod (.bin .add (.bin .mul (.var 1) (.con (.int 48271))) (.bin .fdiv (.var 3) (.con (.int 11)))) (.var 3)),
  .for_ (.nm 5) none [.idx (.var 0) (.con (.str [99, 101, 108, 108, 115]))]
  [.asg (.nm 4) (.bin .mod (.bin .add (.bin .add (.bin .mul (.var 4) (.con (.int 69621))) (.bi .int [.var 5])) (.var 1)) (.var 3))],
  .asg (.nm 2) (.bin .add (.bin .mul (.var 2) (.con (.int 2147483659))) (.bin .mod (.bin .pow (.var 4) (.con (.int 5))) (.var 3)))],
  .ret (.var 2)] }
/-- 45 _law_take(draw, amount): 0:draw 1:amount 2:found -/
def d_law_take : Def := { ar := 2, sl := 3, own := [], cel := [], body :=
  [.ite (.cmp .eq (.idx (.var 0) (.con (.str [114, 101, 115, 116]))) (.con (.int 0)))
  [.set (.var 0) (.con (.str [114, 101, 115, 116])) (.ife (.cmp .ne (.idx (.var 0) (.con (.str [108, 97, 114, 103, 101]))) (.lst [])) (.pop (.idx (.var 0) (.con (.str [108, 97, 114, 103, 101]))) [.con (.int 0)]) (.call 44 [.var 0]))]
  [],
  .asg (.nm 2) (.bin .mod (.bi .int [.idx (.var 0) (.con (.str [114, 101, 115, 116]))]) (.var 1)),
  .set (.var 0) (.con (.str [114, 101, 115, 116])) (.bin .fdiv (.bi .int [.idx (.var 0) (.con (.str [114, 101, 115, 116]))]) (.var 1)),
  .ret (.var 2)] }
/-- 46 _law_pick(draw, some): 0:draw 1:some -/
def d_law_pick : Def := { ar := 2, sl := 2, own := [], cel := [], body :=
  [.ret (.idx (.var 1) (.call 45 [.var 0, .bi .len [.var 1]]))] }
/-- 47 _law_common(one, other): 0:one 1:other -/
def d_law_common : Def := { ar := 2, sl := 2, own := [], cel := [], body :=
  [.par [0, 1] [.bi .abs [.var 0], .bi .abs [.var 1]],
  .whl (.cmp .ne (.var 1) (.con (.int 0)))
  [.par [0, 1] [.var 1, .bin .mod (.var 0) (.var 1)]],
  .ret (.var 0)] }
/-- 48 _law_ratio(above, below): 0:above 1:below 2:divisor -/
def d_law_ratio : Def := { ar := 2, sl := 3, own := [], cel := [], body :=
  [.asg (.nm 2) (.ife (.cmp .gt (.var 1) (.con (.int 0))) (.call 47 [.var 0, .var 1]) (.bin .sub (.con (.int 0)) (.call 47 [.var 0, .var 1]))),
  .ret (.tup [.bin .fdiv (.var 0) (.var 2), .bin .fdiv (.var 1) (.var 2)])] }
/-- 49 _law_plus(one, other): 0:one 1:other -/
def d_law_plus : Def := { ar := 2, sl := 2, own := [], cel := [], body :=
  [.ret (.call 48 [.bin .add (.bin .mul (.idx (.var 0) (.con (.int 0))) (.idx (.var 1) (.con (.int 1)))) (.bin .mul (.idx (.var 1) (.con (.int 0))) (.idx (.var 0) (.con (.int 1)))), .bin .mul (.idx (.var 0) (.con (.int 1))) (.idx (.var 1) (.con (.int 1)))])] }
/-- 50 _law_times(one, other): 0:one 1:other -/
def d_law_times : Def := { ar := 2, sl := 2, own := [], cel := [], body :=
  [.ret (.call 48 [.bin .mul (.idx (.var 0) (.con (.int 0))) (.idx (.var 1) (.con (.int 0))), .bin .mul (.idx (.var 0) (.con (.int 1))) (.idx (.var 1) (.con (.int 1)))])] }
/-- 51 _law_total(ratios): 0:ratios 1:found 2:ratio -/
def d_law_total : Def := { ar := 1, sl := 3, own := [], cel := [], body :=
  [.asg (.nm 1) (.tup [.con (.int 0), .con (.int 1)]),
  .for_ (.nm 2) none [.var 0]
  [.asg (.nm 1) (.call 49 [.var 1, .var 2])],
  .ret (.var 1)] }
/-- 52 _law_above(one, other): 0:one 1:other -/
def d_law_above : Def := { ar := 2, sl := 2, own := [], cel := [], body :=
  [.ret (.cmp .gt (.bin .mul (.idx (.var 0) (.con (.int 0))) (.idx (.var 1) (.con (.int 1)))) (.bin .mul (.idx (.var 1) (.con (.int 0))) (.idx (.var 0) (.con (.int 1)))))] }
/-- 53 _law_rows(draw, most): 0:draw 1:most 2:many 3:way 4:rows 5:place 6:numbers 7:spot -/
def d_law_rows : Def := { ar := 2, sl := 8, own := [4, 6], cel := [], body :=
  [.par [2, 3] [.bin .add (.con (.int 1)) (.call 45 [.var 0, .var 1]), .call 45 [.var 0, .con (.int 6)]],
  .asg (.nm 4) (.lst []),
  .for_ (.nm 5) (some .range) [.var 2]
  [.asg (.nm 6) (.lc (.nm 7) (some .range) [.var 2] [] (.ife (.cmp .notin (.var 3) (.lst [.con (.int 0), .con (.int 1)])) (.call 46 [.var 0, .lst [.con (.int 0), .con (.int 0), .con (.int 1), .con (.int 2), .con (.int 3), .con (.int 9)]]) (.con (.int 0)))),
  .ite (.cmp .eq (.var 3) (.con (.int 1)))
  [.asg (.nm 6) (.ife (.cmp .eq (.bin .mod (.var 2) (.con (.int 2))) (.con (.int 0))) (.lc (.nm 7) (some .range) [.var 2] [] (.ife (.cmp .eq (.bin .mod (.bin .sub (.var 7) (.var 5)) (.con (.int 2))) (.con (.int 1))) (.call 46 [.var 0, .lst [.con (.int 0), .con (.int 1), .con (.int 2)]]) (.con (.int 0)))) (.mv 6))]
  [],
  .set (.var 6) (.bin .mod (.bin .add (.var 5) (.con (.int 1))) (.var 2)) (.bin .add (.bin .add (.idx (.var 6) (.bin .mod (.bin .add (.var 5) (.con (.int 1))) (.var 2))) (.con (.int 1))) (.call 45 [.var 0, .con (.int 2)])),
  .ite (.cmp .eq (.var 3) (.con (.int 2)))
  [.set (.var 6) (.var 5) (.bin .add (.bi .sum [.var 6]) (.call 45 [.var 0, .con (.int 3)]))]
  [],
  .app (.var 4) (.tup [.bi .sum [.var 6], .bi .tuple [.var 6]])],
  .ret (.mv 4)] }
/-- 54 _law_step(rows, ratios): 0:rows 1:ratios 2:found 3:spot 4:ratio 5:row -/
def d_law_step : Def := { ar := 2, sl := 6, own := [2], cel := [], body :=
  [.asg (.nm 2) (.lst []),
  .for_ (.nm 3) (some .range) [.bi .len [.var 0]]
  [.app (.var 2) (.call 51 [.lc (.tup [.nm 4, .nm 5]) (some .zip) [.var 1, .var 0] [] (.call 50 [.var 4, .call 48 [.idx (.idx (.var 5) (.con (.int 1))) (.var 3), .idx (.var 5) (.con (.int 0))]])])],
  .ret (.mv 2)] }
/-- 55 _law_minus(one, other): 0:one 1:other -/
def d_law_minus : Def := { ar := 2, sl := 2, own := [], cel := [], body :=
  [.ret (.call 48 [.bin .sub (.bin .mul (.idx (.var 0) (.con (.int 0))) (.idx (.var 1) (.con (.int 1)))) (.bin .mul (.idx (.var 1) (.con (.int 0))) (.idx (.var 0) (.con (.int 1)))), .bin .mul (.idx (.var 0) (.con (.int 1))) (.idx (.var 1) (.con (.int 1)))])] }
/-- 56 _law_upper(one, other): 0:one 1:other -/
def d_law_upper : Def := { ar := 2, sl := 2, own := [], cel := [], body :=
  [.ret (.ife (.call 52 [.var 0, .var 1]) (.var 0) (.var 1))] }
/-- 57 _law_same(found, due): 0:found 1:due 2:one 3:other -/
def d_law_same : Def := { ar := 2, sl := 4, own := [], cel := [], body :=
  [.ite (.bi .isinst [.var 1, .tup [.con (.ty "tuple"), .con (.ty "list")]])
  [.ite (.or (.cmp .ne (.bi .isinst [.var 0, .con (.ty "tuple")]) (.bi .isinst [.var 1, .con (.ty "tuple")])) (.or (.cmp .ne (.bi .isinst [.var 0, .con (.ty "list")]) (.bi .isinst [.var 1, .con (.ty "list")])) (.cmp .ne (.bi .len [.var 0]) (.bi .len [.var 1]))))
  [.ret (.con (.bl false))]
  [],
  .ret (.cmp .eq (.lc (.tup [.nm 2, .nm 3]) (some .zip) [.var 0, .var 1] [.not (.call 57 [.var 2, .var 3])] (.con (.int 1))) (.lst []))]
  [],
  .ite (.cmp .is (.var 1) (.con .non))
  [.ret (.cmp .is (.var 0) (.con .non))]
  [],
  .ite (.or (.bi .isinst [.var 1, .con (.ty "bool")]) (.bi .isinst [.var 0, .con (.ty "bool")]))
  [.ret (.and (.bi .isinst [.var 1, .con (.ty "bool")]) (.and (.bi .isinst [.var 0, .con (.ty "bool")]) (.cmp .eq (.var 0) (.var 1))))]
  [],
  .ret (.and (.bi .isinst [.var 0, .con (.ty "int")]) (.cmp .eq (.var 0) (.var 1)))] }
/-- 58 _law_pair_of(ratios): 0:ratios 1:whole 2:ratio 3:numbers 4:divisor 5:number -/
def d_law_pair_of : Def := { ar := 1, sl := 6, own := [], cel := [], body :=
  [.asg (.nm 1) (.con (.int 1)),
  .for_ (.nm 2) none [.var 0]
  [.asg (.nm 1) (.bin .mul (.bin .fdiv (.var 1) (.call 47 [.var 1, .idx (.var 2) (.con (.int 1))])) (.idx (.var 2) (.con (.int 1))))],
  .asg (.nm 3) (.lc (.nm 2) none [.var 0] [] (.bin .mul (.idx (.var 2) (.con (.int 0))) (.bin .fdiv (.var 1) (.idx (.var 2) (.con (.int 1)))))),
  .asg (.nm 4) (.var 1),
  .for_ (.nm 5) none [.var 3]
  [.asg (.nm 4) (.call 47 [.var 4, .var 5])],
  .ret (.tup [.bin .fdiv (.var 1) (.var 4), .bi .tuple [.lc (.nm 5) none [.var 3] [] (.bin .fdiv (.var 5) (.var 4))]])] }
/-- 59 _law_ratios(pair): 0:pair 1:number -/
def d_law_ratios : Def := { ar := 1, sl := 2, own := [], cel := [], body :=
  [.ret (.lc (.nm 1) none [.idx (.var 0) (.con (.int 1))] [] (.call 48 [.var 1, .idx (.var 0) (.con (.int 0))]))] }
/-- 60 _law_drawn_share(draw, many): 0:draw 1:many 2:numbers 3:place 4:number -/
def d_law_drawn_share : Def := { ar := 2, sl := 5, own := [2], cel := [], body :=
  [.asg (.nm 2) (.lc (.nm 3) (some .range) [.var 1] [] (.ife (.cmp .gt (.call 45 [.var 0, .con (.int 4)]) (.con (.int 0))) (.call 46 [.var 0, .lst [.con (.int 0), .con (.int 1), .con (.int 1), .con (.int 2), .con (.int 3)]]) (.con (.int 0)))),
  .ite (.cmp .eq (.bi .sum [.var 2]) (.con (.int 0)))
  [.set (.var 2) (.call 45 [.var 0, .var 1]) (.con (.int 1))]
  [],
  .ret (.call 58 [.lc (.nm 4) none [.var 2] [] (.call 48 [.var 4, .bi .sum [.var 2]])])] }
/-- 61 _law_kept_rows(draw, most): 0:draw 1:most 2:many 3:way 4:found 5:place 6:numbers 7:spot -/
def d_law_kept_rows : Def := { ar := 2, sl := 8, own := [4, 6], cel := [], body :=
  [.par [2, 3] [.bin .add (.con (.int 1)) (.call 45 [.var 0, .var 1]), .call 45 [.var 0, .con (.int 5)]],
  .ite (.cmp .eq (.var 3) (.con (.int 0)))
  [.ret (.call 53 [.var 0, .var 1])]
  [],
  .asg (.nm 4) (.lst []),
  .for_ (.nm 5) (some .range) [.var 2]
  [.asg (.nm 6) (.lc (.nm 7) (some .range) [.var 2] [] (.ife (.or (.cmp .lt (.var 3) (.con (.int 4))) (.cmp .ne (.var 7) (.var 5))) (.call 46 [.var 0, .lst [.con (.int 0), .con (.int 0), .con (.int 0), .con (.int 1), .con (.int 1), .con (.int 2), .con (.int 5)]]) (.con (.int 0)))),
  .ite (.cmp .eq (.bi .sum [.var 6]) (.con (.int 0)))
  [.set (.var 6) (.call 45 [.var 0, .var 2]) (.con (.int 1))]
  [],
  .app (.var 4) (.tup [.bi .sum [.var 6], .bi .tuple [.var 6]])],
  .ret (.mv 4)] }
/-- 62 _law_parting(one, other): 0:one 1:other 2:here 3:there -/
def d_law_parting : Def := { ar := 2, sl := 4, own := [], cel := [], body :=
  [.ret (.call 51 [.lc (.tup [.nm 2, .nm 3]) (some .zip) [.var 0, .var 1] [] (.call 56 [.tup [.con (.int 0), .con (.int 1)], .call 55 [.var 2, .var 3]])])] }
/-- 63 _law_is_ratio(thing): 0:thing 1:one -/
def d_law_is_ratio : Def := { ar := 1, sl := 2, own := [], cel := [], body :=
  [.ite (.or (.not (.bi .isinst [.var 0, .con (.ty "tuple")])) (.or (.cmp .ne (.bi .len [.var 0]) (.con (.int 2))) (.cmp .ne (.lc (.nm 1) none [.var 0] [.or (.not (.bi .isinst [.var 1, .con (.ty "int")])) (.bi .isinst [.var 1, .con (.ty "bool")])] (.con (.int 1))) (.lst []))))
  [.ret (.con (.bl false))]
  [],
  .ret (.and (.cmp .ge (.idx (.var 0) (.con (.int 1))) (.con (.int 1))) (.cmp .eq (.call 47 [.idx (.var 0) (.con (.int 0)), .idx (.var 0) (.con (.int 1))]) (.con (.int 1))))] }
/-- 64 _law_is_row(many, thing): 0:many 1:thing 2:one -/
def d_law_is_row : Def := { ar := 2, sl := 3, own := [], cel := [], body :=
  [.ret (.and (.bi .isinst [.var 1, .con (.ty "tuple")]) (.and (.cmp .eq (.bi .len [.var 1]) (.var 0)) (.cmp .eq (.lc (.nm 2) none [.var 1] [.not (.call 63 [.var 2])] (.con (.int 1))) (.lst []))))] }
/-- 65 _law_is_possible(rows, start, table): 0:rows 1:start 2:table 3:here 4:row 5:come 6:stop 7:item -/
def d_law_is_possible : Def := { ar := 3, sl := 8, own := [], cel := [], body :=
  [.asg (.nm 3) (.bi .list [.var 1]),
  .for_ (.nm 4) none [.var 2]
  [.asg (.nm 3) (.lc (.tup [.nm 5, .nm 6]) (some .zip) [.var 3, .var 4] [] (.call 55 [.var 5, .var 6])),
  .ite (.cmp .ne (.lc (.nm 7) none [.var 3] [.cmp .lt (.idx (.var 7) (.con (.int 0))) (.con (.int 0))] (.con (.int 1))) (.lst []))
  [.ret (.con (.bl false))]
  [],
  .asg (.nm 3) (.call 54 [.var 0, .var 3])],
  .ret (.con (.bl true))] }
/-- 66 _law_is_right(rows, one, other, moment, thing): 0:rows 1:one 2:other 3:moment 4:thing 5:row 6:item 7:met 8:here 9:there -/
def d_law_is_right : Def := { ar := 5, sl := 10, own := [], cel := [], body :=
  [.ite (.or (.not (.bi .isinst [.var 4, .tup [.con (.ty "list"), .con (.ty "tuple")]])) (.cmp .ne (.bi .len [.var 4]) (.bin .add (.var 3) (.con (.int 1)))))
  [.ret (.con (.bl false))]
  [],
  .for_ (.nm 5) none [.var 4]
  [.ite (.or (.not (.call 64 [.bi .len [.var 0], .var 5])) (.cmp .ne (.lc (.nm 6) none [.var 5] [.cmp .lt (.idx (.var 6) (.con (.int 0))) (.con (.int 0))] (.con (.int 1))) (.lst [])))
  [.ret (.con (.bl false))]
  []],
  .ite (.or (.not (.call 65 [.var 0, .var 1, .var 4])) (.not (.call 65 [.var 0, .var 2, .var 4])))
  [.ret (.con (.bl false))]
  [],
  .par [7, 8, 9] [.tup [.con (.int 0), .con (.int 1)], .bi .list [.var 1], .bi .list [.var 2]],
  .for_ (.nm 5) none [.var 4]
  [.asg (.nm 7) (.call 49 [.var 7, .call 51 [.bi .list [.var 5]]]),
  .ite (.cmp .ne (.var 7) (.call 55 [.tup [.con (.int 1), .con (.int 1)], .call 62 [.var 8, .var 9]]))
  [.ret (.con (.bl false))]
  [],
  .par [8, 9] [.call 54 [.var 0, .var 8], .call 54 [.var 0, .var 9]]],
  .ret (.con (.bl true))] }
/-- 67 _law_near(draw, table): 0:draw 1:table 2:at 3:place 4:way 5:row 6:spot 7:line 8:part 9:less 10:later -/
def d_law_near : Def := { ar := 2, sl := 11, own := [], cel := [], body :=
  [.par [2, 3, 4] [.call 45 [.var 0, .bi .len [.var 1]], .call 45 [.var 0, .bi .len [.idx (.var 1) (.con (.int 0))]], .call 45 [.var 0, .con (.int 9)]],
  .par [5, 6] [.idx (.var 1) (.var 2), .call 45 [.var 0, .bi .len [.idx (.var 1) (.con (.int 0))]]],
  .ite (.cmp .eq (.var 4) (.con (.int 0)))
  [.ret (.call 46 [.var 0, .lst [.con .non, .lst [], .tup [], .slc (.var 1) none (some (.neg (.con (.int 1)))), .bin .add (.var 1) (.slc (.var 1) (some (.neg (.con (.int 1)))) none), .bi .tuple [.var 1], .con (.int 5), .dict [], .lc (.nm 7) none [.var 1] [] (.bi .list [.var 7]), .bin .mul (.lst [.slc (.var 5) none (some (.neg (.con (.int 1))))]) (.bi .len [.var 1])]])]
  [],
  .ite (.cmp .eq (.var 4) (.con (.int 1)))
  [.ret (.bin .add (.bin .add (.slc (.var 1) none (some (.var 2))) (.lst [.bin .add (.bin .add (.slc (.var 5) none (some (.var 3))) (.tup [.call 46 [.var 0, .lst [.con .non, .con (.int 0), .tup [.con (.int 0), .con (.int 2)], .tup [.neg (.con (.int 1)), .con (.int 2)], .tup [.con (.bl true), .con (.int 1)], .con (.str [48]), .tup [.con (.int 1), .con (.int 0)], .lst [.con (.int 0), .con (.int 1)]]]])) (.slc (.var 5) (some (.bin .add (.var 3) (.con (.int 1)))) none)])) (.slc (.var 1) (some (.bin .add (.var 2) (.con (.int 1)))) none))]
  [],
  .asg (.nm 8) (.call 50 [.idx (.var 5) (.var 3), .call 46 [.var 0, .lst [.tup [.con (.int 1), .con (.int 2)], .tup [.con (.int 1), .con (.int 1)], .tup [.con (.int 1), .con (.int 3)]]]]),
  .asg (.nm 9) (.bin .add (.bin .add (.slc (.var 5) none (some (.var 3))) (.tup [.call 55 [.idx (.var 5) (.var 3), .var 8]])) (.slc (.var 5) (some (.bin .add (.var 3) (.con (.int 1)))) none)),
  .ite (.cmp .lt (.var 4) (.con (.int 4)))
  [.ret (.bin .add (.bin .add (.slc (.var 1) none (some (.var 2))) (.lst [.bin .add (.bin .add (.slc (.var 9) none (some (.var 6))) (.tup [.call 49 [.idx (.var 9) (.var 6), .var 8]])) (.slc (.var 9) (some (.bin .add (.var 6) (.con (.int 1)))) none)])) (.slc (.var 1) (some (.bin .add (.var 2) (.con (.int 1)))) none))]
  [],
  .ite (.and (.cmp .lt (.var 4) (.con (.int 6))) (.cmp .lt (.bin .add (.var 2) (.con (.int 1))) (.bi .len [.var 1])))
  [.asg (.nm 10) (.idx (.var 1) (.bin .add (.var 2) (.con (.int 1)))),
  .ret (.bin .add (.bin .add (.slc (.var 1) none (some (.var 2))) (.lst [.var 9, .bin .add (.bin .add (.slc (.var 10) none (some (.var 6))) (.tup [.call 49 [.idx (.var 10) (.var 6), .var 8]])) (.slc (.var 10) (some (.bin .add (.var 6) (.con (.int 1)))) none)])) (.slc (.var 1) (some (.bin .add (.var 2) (.con (.int 2)))) none))]
  [],
  .ite (.cmp .eq (.var 4) (.con (.int 6)))
  [.ret (.bin .add (.bin .add (.slc (.var 1) none (some (.var 2))) (.lst [.var 9])) (.slc (.var 1) (some (.bin .add (.var 2) (.con (.int 1)))) none))]
  [],
  .ret (.ife (.cmp .eq (.var 4) (.con (.int 7))) (.bin .add (.bin .add (.slc (.var 1) none (some (.var 2))) (.lst [.bin .add (.bin .add (.slc (.var 5) none (some (.var 3))) (.tup [.call 49 [.idx (.var 5) (.var 3), .tup [.con (.int 1), .con (.int 9)]]])) (.slc (.var 5) (some (.bin .add (.var 3) (.con (.int 1)))) none)])) (.slc (.var 1) (some (.bin .add (.var 2) (.con (.int 1)))) none)) (.var 1))] }
/-- 68 _law_right(draw): 0:draw 1:rows 2:many 3:walk 4:moment 5:one 6:other 7:told 8:row 9:thing 10:lap 11:right -/
def d_law_right : Def := { ar := 1, sl := 12, own := [], cel := [], body :=
  [.asg (.nm 1) (.call 61 [.var 0, .con (.int 4)]),
  .par [2, 3, 4] [.bi .len [.var 1], .mk 7 [.var 1], .call 45 [.var 0, .con (.int 6)]],
  .par [5, 6] [.call 60 [.var 0, .var 2], .call 60 [.var 0, .var 2]],
  .asg (.nm 7) (.bi .list [.call 41 [.var 3, .var 5, .var 6, .var 4]]),
  .ite (.cmp .ne (.call 51 [.lc (.nm 8) none [.var 7] [] (.call 51 [.bi .list [.var 8]])]) (.call 55 [.tup [.con (.int 1), .con (.int 1)], .call 40 [.var 3, .var 5, .var 6, .var 4]]))
  [.ret (.con (.bl false))]
  [],
  .for_ (.nm 9) none [.bin .add (.lst [.var 7, .bi .tuple [.var 7]]) (.lc (.nm 10) (some .range) [.con (.int 8)] [] (.call 67 [.var 0, .var 7]))]
  [.asg (.nm 11) (.call 66 [.var 1, .call 59 [.var 5], .call 59 [.var 6], .var 4, .var 9]),
  .ite (.and (.var 11) (.cmp .ne (.bi .list [.var 9]) (.var 7)))
  [.ret (.con (.bl false))]
  [],
  .ite (.not (.call 57 [.lst [.call 42 [.var 3, .var 5, .var 6, .var 4, .var 9], .calk 42 [4, 3, 2, 1, 0] [.var 9, .var 4, .var 6, .var 5, .var 3]], .bin .mul (.lst [.var 11]) (.con (.int 2))]))
  [.ret (.con (.bl false))]
  []],
  .ret (.cmp .is (.call 42 [.var 3, .var 5, .var 6, .var 4, .var 7]) (.con (.bl true)))] }
/-- 69 law(script): 0:script 1:draw 2:lap -/
def d_law : Def := { ar := 1, sl := 3, own := [], cel := [1], body :=
  [.asg (.nm 1) (.call 43 [.var 0]),
  .for_ (.nm 2) (some .range) [.bin .add (.con (.int 3)) (.bi .min [.bi .len [.var 0], .con (.int 6)])]
  [.ite (.not (.call 68 [.var 1]))
  [.ret (.con (.bl false))]
  []],
  .ret (.con (.bl true))] }
def prog : Prog := { defs := [d_is_number, d_is_between, d_is_list, d_is_row, d_is_count_row, d_divisor_of, d_multiple_of, d_least_pair, d_ratio_of, d_is_ratio, d_sum_of, d_less_of, d_product_of, d_total_of, d_is_pair_of, d_is_share_of, d_apart_of, d_is_chance_row, d_Walkxx_initxx, d_Walkxx_eqxx, d_need_walk, d_table_of, d_gone_on, d_gone_far, d_is_losing, d_is_ratio_row, d_is_chance_tuple, d_is_timetable, d_ratios_of, d_behind_step, d_comes_and_goes, d_first_lack, d_need_kept, d_need_pair, d_need_moment_to, d_need_task, d_parted_of, d_parted_list, d_meeting_rows, d_stopped_so_far, d_parted_at, d_meeting_table, d_is_meeting, d_law_begun, d_law_mixed, d_law_take, d_law_pick, d_law_common, d_law_ratio, d_law_plus, d_law_times, d_law_total, d_law_above, d_law_rows, d_law_step, d_law_minus, d_law_upper, d_law_same, d_law_pair_of, d_law_ratios, d_law_drawn_share, d_law_kept_rows, d_law_parting, d_law_is_ratio, d_law_is_row, d_law_is_possible, d_law_is_right, d_law_near, d_law_right, d_law], ini := [(7, 18)] }
end K48
end Py
end

section
set_option Elab.async false
set_option linter.all false
set_option maxRecDepth 100000
/-! Y0: a law's data, for its head. -/
namespace PyS
open PySem L2
/-- what the names of the file stand for -/
structure Gx where
  fns : List (Str × Nat)
  nums : List (Str × Int)
  cls : List (Str × Nat)
  mks : List (Str × Nat)
  kws : List (Str × Nat × Nat × List Str × List Nat)
  nm : Nat → Str
  na : Nat
def blts : List Str := ["len", "abs", "int", "list", "tuple", "sum", "all", "any", "min", "max", "isinstance", "range", "enumerate", "zip", "bool", "str", "dict"]
/-- attribute names, each with its number -/
def nmOf (l : List Str) (f : Nat) : Str := match l[f]? with
  | some x => x
  | none => ⟨#[0x110000 + f]⟩
/-- a law's data -/
structure Pk where
  G : Gx
  P : Py.Prog
  fn : List He.DefD
  ps : List (List Str)
  N : List (List Str)
  cn : List (Nat × Str)
  nms : List Str
/-- the facts that the head is asked for, beside the defs -/
def Pk.fa (k : Pk) : List He.Fa := blts.map .free ++ k.G.fns.map (fun p => .glo p.1) ++ k.G.kws.map (fun p => .glo p.1) ++ k.G.nums.map (fun p => .int p.1 p.2) ++ k.G.cls.map (fun p => .glo p.1) ++ k.G.mks.map (fun p => .mkr p.1) ++ k.G.mks.map (fun p => .glo p.1) ++ k.cn.map (fun p => .cls p.2)
def eqM (a b : Option Bool) : Bool := decide (a = b)
/-- .. of the classes -/
def Pk.ex (k : Pk) (K : PySem.W.Frag) : Bool :=
  He.eqO (PySem.W.specialIn K (.builtin "object.__class__") "__get__") (some (some (.builtin "getset_descriptor.__get__"))) && eqM (PySem.W.takesIn K (.builtin "object.__class__")) (some true) &&
  k.cn.all fun p => He.eqO (PySem.W.findIn K (.ref (He.ga K p.2)) "__class__") (some (some (.builtin "object.__class__"))) && eqM (PySem.W.mroIn K (He.ga K p.2) (.type "object")) (some true) &&
    ["NoneType", "bool", "int", "str", "tuple", "list", "dict"].all (fun n => eqM (PySem.W.kitOne K (.type n) (.ref (He.ga K p.2))) (some false)) &&
    ["int", "bool", "str", "tuple", "list", "dict"].all (fun n => eqM (PySem.W.kitOne K (.ref (He.ga K p.2)) (.type n)) (some false)) &&
    k.cn.all (fun p' => eqM (PySem.W.kitOne K (.ref (He.ga K p.2)) (.ref (He.ga K p'.2))) (some (p.1 == p'.1))) &&
    k.nms.all (fun x => He.eqO (PySem.W.findIn K (.ref (He.ga K p.2)) x) (some none))
end PyS
end

section
set_option Elab.async false
set_option linter.all false
set_option maxRecDepth 100000
set_option maxHeartbeats 0
namespace PyS.K48
open PySem L2
def top (i : Nat) : Stmt := PySem.Challenge.pw_bestatall_k48_whole_only_one_meeting.main.body.getD i (.Pass ⟨0, 0, 0, 0⟩)
def fn : List He.DefD := ([⟨("is_number", none), "is_number", "is_number", defArgs (top 9), defBody (top 9), defScope (top 9), [], []⟩, ⟨("is_between", none), "is_between", "is_between", defArgs (top 10), defBody (top 10), defScope (top 10), [], []⟩, ⟨("is_list", none), "is_list", "is_list", defArgs (top 11), defBody (top 11), defScope (top 11), [], []⟩, ⟨("is_row", none), "is_row", "is_row", defArgs (top 12), defBody (top 12), defScope (top 12), [], []⟩, ⟨("is_count_row", none), "is_count_row", "is_count_row", defArgs (top 13), defBody (top 13), defScope (top 13), [], []⟩, ⟨("divisor_of", none), "divisor_of", "divisor_of", defArgs (top 14), defBody (top 14), defScope (top 14), [], []⟩, ⟨("multiple_of", none), "multiple_of", "multiple_of", defArgs (top 15), defBody (top 15), defScope (top 15), [], []⟩, ⟨("least_pair", none), "least_pair", "least_pair", defArgs (top 16), defBody (top 16), defScope (top 16), [], []⟩, ⟨("ratio_of", none), "ratio_of", "ratio_of", defArgs (top 18), defBody (top 18), defScope (top 18), [], []⟩, ⟨("is_ratio", none), "is_ratio", "is_ratio", defArgs (top 19), defBody (top 19), defScope (top 19), [], []⟩, ⟨("sum_of", none), "sum_of", "sum_of", defArgs (top 20), defBody (top 20), defScope (top 20), [], []⟩, ⟨("less_of", none), "less_of", "less_of", defArgs (top 21), defBody (top 21), defScope (top 21), [], []⟩, ⟨("product_of", none), "product_of", "product_of", defArgs (top 22), defBody (top 22), defScope (top 22), [], []⟩, ⟨("total_of", none), "total_of", "total_of", defArgs (top 23), defBody (top 23), defScope (top 23), [], []⟩, ⟨("is_pair_of", none), "is_pair_of", "is_pair_of", defArgs (top 25), defBody (top 25), defScope (top 25), [], []⟩, ⟨("is_share_of", none), "is_share_of", "is_share_of", defArgs (top 26), defBody (top 26), defScope (top 26), [], []⟩, ⟨("apart_of", none), "apart_of", "apart_of", defArgs (top 27), defBody (top 27), defScope (top 27), [], []⟩, ⟨("is_chance_row", none), "is_chance_row", "is_chance_row", defArgs (top 31), defBody (top 31), defScope (top 31), [], []⟩, ⟨("Walk", some "__init__"), "__init__", "Walk.__init__", defArgs (inClass (top 32) 0), defBody (inClass (top 32) 0), defScope (inClass (top 32) 0), [], []⟩, ⟨("Walk", some "__eq__"), "__eq__", "Walk.__eq__", defArgs (inClass (top 32) 1), defBody (inClass (top 32) 1), defScope (inClass (top 32) 1), [], []⟩] : List He.DefD) ++ ([⟨("need_walk", none), "need_walk", "need_walk", defArgs (top 33), defBody (top 33), defScope (top 33), [], []⟩, ⟨("table_of", none), "table_of", "table_of", defArgs (top 34), defBody (top 34), defScope (top 34), [], []⟩, ⟨("gone_on", none), "gone_on", "gone_on", defArgs (top 35), defBody (top 35), defScope (top 35), [], []⟩, ⟨("gone_far", none), "gone_far", "gone_far", defArgs (top 36), defBody (top 36), defScope (top 36), [], []⟩, ⟨("is_losing", none), "is_losing", "is_losing", defArgs (top 37), defBody (top 37), defScope (top 37), [], []⟩, ⟨("is_ratio_row", none), "is_ratio_row", "is_ratio_row", defArgs (top 40), defBody (top 40), defScope (top 40), [], []⟩, ⟨("is_chance_tuple", none), "is_chance_tuple", "is_chance_tuple", defArgs (top 41), defBody (top 41), defScope (top 41), [], []⟩, ⟨("is_timetable", none), "is_timetable", "is_timetable", defArgs (top 42), defBody (top 42), defScope (top 42), [], []⟩, ⟨("ratios_of", none), "ratios_of", "ratios_of", defArgs (top 43), defBody (top 43), defScope (top 43), [], []⟩, ⟨("behind_step", none), "behind_step", "behind_step", defArgs (top 44), defBody (top 44), defScope (top 44), [], []⟩, ⟨("comes_and_goes", none), "comes_and_goes", "comes_and_goes", defArgs (top 45), defBody (top 45), defScope (top 45), [], []⟩, ⟨("first_lack", none), "first_lack", "first_lack", defArgs (top 46), defBody (top 46), defScope (top 46), [], []⟩, ⟨("need_kept", none), "need_kept", "need_kept", defArgs (top 49), defBody (top 49), defScope (top 49), [], []⟩, ⟨("need_pair", none), "need_pair", "need_pair", defArgs (top 50), defBody (top 50), defScope (top 50), [], []⟩, ⟨("need_moment_to", none), "need_moment_to", "need_moment_to", defArgs (top 51), defBody (top 51), defScope (top 51), [], []⟩, ⟨("need_task", none), "need_task", "need_task", defArgs (top 52), defBody (top 52), defScope (top 52), [], []⟩, ⟨("parted_of", none), "parted_of", "parted_of", defArgs (top 53), defBody (top 53), defScope (top 53), [], []⟩, ⟨("parted_list", none), "parted_list", "parted_list", defArgs (top 54), defBody (top 54), defScope (top 54), [], []⟩, ⟨("meeting_rows", none), "meeting_rows", "meeting_rows", defArgs (top 55), defBody (top 55), defScope (top 55), [], []⟩, ⟨("stopped_so_far", none), "stopped_so_far", "stopped_so_far", defArgs (top 56), defBody (top 56), defScope (top 56), [], []⟩] : List He.DefD) ++ ([⟨("parted_at", none), "parted_at", "parted_at", defArgs (top 57), defBody (top 57), defScope (top 57), [], []⟩, ⟨("meeting_table", none), "meeting_table", "meeting_table", defArgs (top 58), defBody (top 58), defScope (top 58), [], []⟩, ⟨("is_meeting", none), "is_meeting", "is_meeting", defArgs (top 59), defBody (top 59), defScope (top 59), [], []⟩, ⟨("_law_begun", none), "_law_begun", "_law_begun", defArgs (top 61), defBody (top 61), defScope (top 61), [], []⟩, ⟨("_law_mixed", none), "_law_mixed", "_law_mixed", defArgs (top 62), defBody (top 62), defScope (top 62), [], []⟩, ⟨("_law_take", none), "_law_take", "_law_take", defArgs (top 63), defBody (top 63), defScope (top 63), [], []⟩, ⟨("_law_pick", none), "_law_pick", "_law_pick", defArgs (top 64), defBody (top 64), defScope (top 64), [], []⟩, ⟨("_law_common", none), "_law_common", "_law_common", defArgs (top 65), defBody (top 65), defScope (top 65), [], []⟩, ⟨("_law_ratio", none), "_law_ratio", "_law_ratio", defArgs (top 66), defBody (top 66), defScope (top 66), [], []⟩, ⟨("_law_plus", none), "_law_plus", "_law_plus", defArgs (top 67), defBody (top 67), defScope (top 67), [], []⟩, ⟨("_law_times", none), "_law_times", "_law_times", defArgs (top 68), defBody (top 68), defScope (top 68), [], []⟩, ⟨("_law_total", none), "_law_total", "_law_total", defArgs (top 69), defBody (top 69), defScope (top 69), [], []⟩, ⟨("_law_above", none), "_law_above", "_law_above", defArgs (top 70), defBody (top 70), defScope (top 70), [], []⟩, ⟨("_law_rows", none), "_law_rows", "_law_rows", defArgs (top 71), defBody (top 71), defScope (top 71), [], []⟩, ⟨("_law_step", none), "_law_step", "_law_step", defArgs (top 72), defBody (top 72), defScope (top 72), [], []⟩, ⟨("_law_minus", none), "_law_minus", "_law_minus", defArgs (top 73), defBody (top 73), defScope (top 73), [], []⟩, ⟨("_law_upper", none), "_law_upper", "_law_upper", defArgs (top 74), defBody (top 74), defScope (top 74), [], []⟩, ⟨("_law_same", none), "_law_same", "_law_same", defArgs (top 75), defBody (top 75), defScope (top 75), [], []⟩, ⟨("_law_pair_of", none), "_law_pair_of", "_law_pair_of", defArgs (top 76), defBody (top 76), defScope (top 76), [], []⟩, ⟨("_law_ratios", none), "_law_ratios", "_law_ratios", defArgs (top 77), defBody (top 77), defScope (top 77), [], []⟩] : List He.DefD) ++ ([⟨("_law_drawn_share", none), "_law_drawn_share", "_law_drawn_share", defArgs (top 78), defBody (top 78), defScope (top 78), [], []⟩, ⟨("_law_kept_rows", none), "_law_kept_rows", "_law_kept_rows", defArgs (top 79), defBody (top 79), defScope (top 79), [], []⟩, ⟨("_law_parting", none), "_law_parting", "_law_parting", defArgs (top 80), defBody (top 80), defScope (top 80), [], []⟩, ⟨("_law_is_ratio", none), "_law_is_ratio", "_law_is_ratio", defArgs (top 81), defBody (top 81), defScope (top 81), [], []⟩, ⟨("_law_is_row", none), "_law_is_row", "_law_is_row", defArgs (top 82), defBody (top 82), defScope (top 82), [], []⟩, ⟨("_law_is_possible", none), "_law_is_possible", "_law_is_possible", defArgs (top 83), defBody (top 83), defScope (top 83), [], []⟩, ⟨("_law_is_right", none), "_law_is_right", "_law_is_right", defArgs (top 84), defBody (top 84), defScope (top 84), [], []⟩, ⟨("_law_near", none), "_law_near", "_law_near", defArgs (top 85), defBody (top 85), defScope (top 85), [], []⟩, ⟨("_law_right", none), "_law_right", "_law_right", defArgs (top 86), defBody (top 86), defScope (top 86), [], []⟩, ⟨("law", none), "law", "law", defArgs (top 87), defBody (top 87), defScope (top 87), [], []⟩] : List He.DefD)
def ps : List (List Str) := ([["thing"], ["thing", "low", "high"], ["thing"], ["thing", "many"], ["thing", "many"], ["numbers"], ["numbers"], ["scale", "numbers"], ["above", "below"], ["thing"], ["one", "other"], ["one", "other"], ["one", "other"], ["ratios"], ["many", "thing"], ["many", "thing"], ["one", "other"], ["many", "thing"], ["self", "rows"], ["self", "other"], ["walk"], ["walk"], ["walk", "pair"], ["walk", "pair", "moment"], ["walk"], ["many", "thing"], ["many", "thing"], ["many", "thing"], ["pair"], ["walk", "ratios"]] : List (List Str)) ++ ([["walk", "start", "timetable"], ["walk", "start", "timetable"], ["walk"], ["walk", "one", "other"], ["moment", "most"], ["walk", "one", "other", "moment", "most"], ["one", "other"], ["walk", "one", "other", "moment"], ["walk", "one", "other", "moment"], ["timetable"], ["walk", "one", "other", "moment"], ["walk", "one", "other", "moment"], ["walk", "one", "other", "moment", "thing"], ["script"], ["draw"], ["draw", "amount"], ["draw", "some"], ["one", "other"], ["above", "below"], ["one", "other"], ["one", "other"], ["ratios"], ["one", "other"], ["draw", "most"], ["rows", "ratios"], ["one", "other"], ["one", "other"], ["found", "due"], ["ratios"], ["pair"]] : List (List Str)) ++ ([["draw", "many"], ["draw", "most"], ["one", "other"], ["thing"], ["many", "thing"], ["rows", "start", "table"], ["rows", "one", "other", "moment", "thing"], ["draw", "table"], ["draw"], ["script"]] : List (List Str))
def N : List (List Str) := ([["thing"], ["thing", "low", "high"], ["thing"], ["thing", "many", "item"], ["thing", "many", "item"], ["numbers", "found", "number", "here", "there"], ["numbers", "found", "number"], ["scale", "numbers", "found", "item"], ["above", "below", "found"], ["thing"], ["one", "other"], ["one", "other"], ["one", "other"], ["ratios", "found", "ratio_here"], ["many", "thing"], ["many", "thing"], ["one", "other", "scale", "here", "there", "item", "both", "pair", "first", "least", "second"], ["many", "thing"], ["self", "rows", "row", "total", "numbers"], ["self", "other"], ["walk"], ["walk", "total", "row", "item"], ["walk", "pair", "total", "table", "numbers", "k", "spot"], ["walk", "pair", "moment", "found", "lap"], ["walk", "total", "numbers"], ["many", "thing", "item"], ["many", "thing", "item"], ["many", "thing", "row"], ["pair", "item"], ["walk", "ratios", "found", "spot", "parts", "here", "row"]] : List (List Str)) ++ ([["walk", "start", "timetable", "here", "found", "stops", "on", "one", "other"], ["walk", "start", "timetable", "moment", "pair", "place", "item"], ["walk"], ["walk", "one", "other"], ["moment", "most"], ["walk", "one", "other", "moment", "most"], ["one", "other", "scale", "numbers"], ["walk", "one", "other", "moment", "here", "there", "found", "lap"], ["walk", "one", "other", "moment", "here", "there", "ahead", "found", "now", "both", "now_here", "came"], ["timetable", "found", "row"], ["walk", "one", "other", "moment"], ["walk", "one", "other", "moment"], ["walk", "one", "other", "moment", "thing", "item"], ["script", "large", "cell"], ["draw", "turn", "found", "great", "blend", "cell"], ["draw", "amount", "found"], ["draw", "some"], ["one", "other"], ["above", "below", "divisor"], ["one", "other"], ["one", "other"], ["ratios", "found", "ratio"], ["one", "other"], ["draw", "most", "many", "way", "rows", "place", "numbers", "spot"], ["rows", "ratios", "found", "spot", "ratio", "row"], ["one", "other"], ["one", "other"], ["found", "due", "one", "other"], ["ratios", "whole", "ratio", "numbers", "divisor", "number"], ["pair", "number"]] : List (List Str)) ++ ([["draw", "many", "numbers", "place", "number"], ["draw", "most", "many", "way", "found", "place", "numbers", "spot"], ["one", "other", "here", "there"], ["thing", "one"], ["many", "thing", "one"], ["rows", "start", "table", "here", "row", "come", "stop", "item"], ["rows", "one", "other", "moment", "thing", "row", "item", "met", "here", "there"], ["draw", "table", "at", "place", "way", "row", "spot", "line", "part", "less", "later"], ["draw", "rows", "many", "walk", "moment", "one", "other", "told", "row", "thing", "lap", "right"], ["script", "draw", "lap"]] : List (List Str))
def fns : List (Str × Nat) := ([("is_number", 0), ("is_between", 1), ("is_list", 2), ("is_row", 3), ("is_count_row", 4), ("divisor_of", 5), ("multiple_of", 6), ("least_pair", 7), ("ratio_of", 8), ("is_ratio", 9), ("sum_of", 10), ("less_of", 11), ("product_of", 12), ("total_of", 13), ("is_pair_of", 14), ("is_share_of", 15), ("apart_of", 16), ("is_chance_row", 17), ("need_walk", 20), ("table_of", 21), ("gone_on", 22), ("gone_far", 23), ("is_losing", 24), ("is_ratio_row", 25), ("is_chance_tuple", 26), ("is_timetable", 27), ("ratios_of", 28), ("behind_step", 29), ("comes_and_goes", 30), ("first_lack", 31)] : List (Str × Nat)) ++ ([("need_kept", 32), ("need_pair", 33), ("need_moment_to", 34), ("need_task", 35), ("parted_of", 36), ("parted_list", 37), ("meeting_rows", 38), ("stopped_so_far", 39), ("parted_at", 40), ("meeting_table", 41), ("is_meeting", 42), ("_law_begun", 43), ("_law_mixed", 44), ("_law_take", 45), ("_law_pick", 46), ("_law_common", 47), ("_law_ratio", 48), ("_law_plus", 49), ("_law_times", 50), ("_law_total", 51), ("_law_above", 52), ("_law_rows", 53), ("_law_step", 54), ("_law_minus", 55), ("_law_upper", 56), ("_law_same", 57), ("_law_pair_of", 58), ("_law_ratios", 59), ("_law_drawn_share", 60), ("_law_kept_rows", 61)] : List (Str × Nat)) ++ ([("_law_parting", 62), ("_law_is_ratio", 63), ("_law_is_row", 64), ("_law_is_possible", 65), ("_law_is_right", 66), ("_law_near", 67), ("_law_right", 68), ("law", 69)] : List (Str × Nat))
def kws : List (Str × Nat × Nat × List Str × List Nat) := [("is_meeting", 42, 0, ["thing", "moment", "other", "one", "walk"], [4, 3, 2, 1, 0])]
def nums : List (Str × Int) := [("MOST_PLACES", 8), ("MOST_MOMENT", 200), ("MOST_MOMENTS", 41), ("MOST_TABLED", 40)]
def cls : List (Str × Nat) := [("Walk", 7)]
def cn : List (Nat × Str) := [(7, "Walk")]
def nms : List Str := ["rows", "many"]
def G : Gx := ⟨fns, nums, cls, cls, kws, nmOf nms, nms.length⟩
def pk : Pk := ⟨G, Py.K48.prog, fn, ps, N, cn, nms⟩
def loose : List Str := (["StopError", "BadMoment", "BadOne", "BadOther", "BadRows", "BadWalk", "Loses", "is_number", "is_between", "is_list", "is_row", "is_count_row", "divisor_of", "multiple_of", "least_pair", "ratio_of", "is_ratio", "sum_of", "less_of", "product_of", "total_of", "is_pair_of", "is_share_of", "apart_of", "MOST_PLACES", "MOST_MOMENT", "is_chance_row", "Walk", "need_walk", "table_of"] : List Str) ++ (["gone_on", "gone_far", "is_losing", "MOST_MOMENTS", "is_ratio_row", "is_chance_tuple", "is_timetable", "ratios_of", "behind_step", "comes_and_goes", "first_lack", "MOST_TABLED", "need_kept", "need_pair", "need_moment_to", "need_task", "parted_of", "parted_list", "meeting_rows", "stopped_so_far", "parted_at", "meeting_table", "is_meeting", "_law_begun", "_law_mixed", "_law_take", "_law_pick", "_law_common", "_law_ratio", "_law_plus"] : List Str) ++ (["_law_times", "_law_total", "_law_above", "_law_rows", "_law_step", "_law_minus", "_law_upper", "_law_same", "_law_pair_of", "_law_ratios", "_law_drawn_share", "_law_kept_rows", "_law_parting", "_law_is_ratio", "_law_is_row", "_law_is_possible", "_law_is_right", "_law_near", "_law_right"] : List Str)
end PyS.K48
end

section
set_option Elab.async false
set_option linter.all false
set_option maxRecDepth 100000
set_option maxHeartbeats 0
namespace PyS.K48
open PySem L2
abbrev R : PySem.W.OpenRow := PySem.W.OpenLaw.row PySem.Challenge.rw_bestatall_k48_whole_only_one_meeting
abbrev hk : PySem.W.Hook := He.hookX 4 pk.fa pk.fn [] [] pk.ex
def ob (s : PySem.W.SharedT) : He.AlX := He.obsX 4 pk.fa pk.fn [] [] pk.ex (HandSHeadRun.getT s)
theorem ob_eq (s : PySem.W.SharedT) : ob s = hk.obs s.abs := He.obsX_eq (HandSHeadRun.getT_eq s)
theorem run (w : World) : HandSHeadRun.RunEq R (PySem.W.view R.prog [87]) hk ob 20000 loose w := by
  intro os
  kernel_rfl
end PyS.K48
end

section
set_option Elab.async false
set_option linter.all false
set_option maxRecDepth 100000
set_option maxHeartbeats 2000000
/-! S1: how the plain data stand in the heap. -/
namespace PyS
open PySem L2

/-- whose an owned object is -/
inductive Root where
  | slot (i : Nat) | cell (n : Nat) | tmp
  deriving DecidableEq
abbrev Lab := Addr → Option (Root × List Nat)
/-- what the text's names stand for -/
structure Tb where
  K : PySem.W.Frag
  cls : Nat → Option Addr
  fn : Nat → Option Addr
  nm : Nat → Str
  na : Nat
/-- the heap, what of it is frozen, whose the rest is, where the cells lie -/
structure Wd where
  G : Hp
  φ : List Addr
  H : Hp
  lab : Lab
def kD : Key → Py.D
  | .inl i => .int i
  | .inr x => .str x.cps.toList

variable (T : Tb)
mutual
inductive Rep (G : Hp) (φ : List Addr) : V → Py.D → Prop
  | non : Rep G φ .non .non
  | bl (b : Bool) : Rep G φ (.bl b) (.bl b)
  | int (i : Int) : Rep G φ (.int i) (.int i)
  | str (s : List Nat) : Rep G φ (.str ⟨s.toArray⟩) (.str s)
  | ty (n : String) : Rep G φ (.ty n) (.ty n)
  | tup {a : Addr} {xs : List V} {ds : List Py.D} : G a = some (.tup xs) → Reps G φ xs ds → Rep G φ (.ref a) (.tup ds)
  | lst {a : Addr} {xs : List V} {ds : List Py.D} : G a = some (.lst xs) → Reps G φ xs ds → Rep G φ (.ref a) (.lst ds)
  | dic {a : Addr} {kvs : List (Key × V)} {l : List (Py.D × Py.D)} : G a = some (.dK kvs) → RepK G φ kvs l → Rep G φ (.ref a) (.dic l)
  | ins {a C dx : Addr} {fs : List (Str × V)} {c : Nat} {l : List (Nat × Py.D)} : T.cls c = some C → G a = some (.ins C dx fs) → RepF G φ fs l → Rep G φ (.ref a) (.ins c l)
  | fn {a : Addr} {f : Nat} : T.fn f = some a → Rep G φ (.ref a) (.fn f)
  | cls {a : Addr} {c : Nat} : T.cls c = some a → Rep G φ (.ref a) (.cls c)
  | cell {a : Addr} {n : Nat} : φ[n]? = some a → Rep G φ (.ref a) (.cell n)
  | scr {a : Addr} {xs : List V} {ds : List Py.D} : SqL T.K G a xs → Reps G φ xs ds → Rep G φ (.ref a) (.scr ds)
inductive Reps (G : Hp) (φ : List Addr) : List V → List Py.D → Prop
  | nil : Reps G φ [] []
  | cons {v : V} {vs : List V} {d : Py.D} {ds : List Py.D} : Rep G φ v d → Reps G φ vs ds → Reps G φ (v :: vs) (d :: ds)
inductive RepK (G : Hp) (φ : List Addr) : List (Key × V) → List (Py.D × Py.D) → Prop
  | nil : RepK G φ [] []
  | cons {k : Key} {v : V} {vs : List (Key × V)} {d : Py.D} {ds : List (Py.D × Py.D)} : Rep G φ v d → RepK G φ vs ds → RepK G φ ((k, v) :: vs) ((kD k, d) :: ds)
inductive RepF (G : Hp) (φ : List Addr) : List (Str × V) → List (Nat × Py.D) → Prop
  | nil : RepF G φ [] []
  | cons {f : Nat} {v : V} {vs : List (Str × V)} {d : Py.D} {ds : List (Nat × Py.D)} : Rep G φ v d → RepF G φ vs ds → RepF G φ ((T.nm f, v) :: vs) ((f, d) :: ds)
end
mutual
inductive RepO (w : Wd) (r : Root) : List Nat → V → Py.O → Prop
  | d {π : List Nat} {v : V} {x : Py.D} : Rep T w.G w.φ v x → RepO w r π v (.d x)
  | lst {π : List Nat} {a : Addr} {xs : List V} {os : List Py.O} : w.lab a = some (r, π) → w.H a = some (.lst xs) → RepOs w r π 0 xs os → RepO w r π (.ref a) (.lst os)
  | dic {π : List Nat} {a : Addr} {kvs : List (Key × V)} {l : List (Py.D × Py.O)} : w.lab a = some (r, π) → w.H a = some (.dK kvs) → RepOk w r π 0 kvs l → RepO w r π (.ref a) (.dic l)
  | ins {π : List Nat} {a C dx : Addr} {fs : List (Str × V)} {c : Nat} {l : List (Nat × Py.O)} : w.lab a = some (r, π) → T.cls c = some C → w.H a = some (.ins C dx fs) → RepOf w r π 0 fs l → RepO w r π (.ref a) (.ins c l)
inductive RepOs (w : Wd) (r : Root) : List Nat → Nat → List V → List Py.O → Prop
  | nil {π : List Nat} {j : Nat} : RepOs w r π j [] []
  | cons {π : List Nat} {j : Nat} {v : V} {vs : List V} {o : Py.O} {os : List Py.O} : RepO w r (π ++ [j]) v o → RepOs w r π (j + 1) vs os → RepOs w r π j (v :: vs) (o :: os)
inductive RepOk (w : Wd) (r : Root) : List Nat → Nat → List (Key × V) → List (Py.D × Py.O) → Prop
  | nil {π : List Nat} {j : Nat} : RepOk w r π j [] []
  | cons {π : List Nat} {j : Nat} {k : Key} {v : V} {vs : List (Key × V)} {o : Py.O} {os : List (Py.D × Py.O)} : RepO w r (π ++ [j]) v o → RepOk w r π (j + 1) vs os → RepOk w r π j ((k, v) :: vs) ((kD k, o) :: os)
inductive RepOf (w : Wd) (r : Root) : List Nat → Nat → List (Str × V) → List (Nat × Py.O) → Prop
  | nil {π : List Nat} {j : Nat} : RepOf w r π j [] []
  | cons {π : List Nat} {j : Nat} {f : Nat} {v : V} {vs : List (Str × V)} {o : Py.O} {os : List (Nat × Py.O)} : RepO w r (π ++ [j]) v o → RepOf w r π (j + 1) vs os → RepOf w r π j ((T.nm f, v) :: vs) ((f, o) :: os)
end
variable {T : Tb}
/-- G grows -/
def GLe (G G' : Hp) : Prop := ∀ a o, G a = some o → G' a = some o
def PLe (φ φ' : List Addr) : Prop := ∀ (n : Nat) (a : Addr), φ[n]? = some a → φ'[n]? = some a
theorem GLe.refl (G : Hp) : GLe G G := fun _ _ h => h
theorem GLe.trans {G G1 G2 : Hp} (a : GLe G G1) (b : GLe G1 G2) : GLe G G2 := fun x o h => b x o (a x o h)
theorem PLe.refl (G : List Addr) : PLe G G := fun _ _ h => h
theorem PLe.trans {G G1 G2 : List Addr} (a : PLe G G1) (b : PLe G1 G2) : PLe G G2 := fun x o h => b x o (a x o h)
theorem GLe.rd {G G' : Hp} (e : GLe G G') {a : Addr} {u : HO} (h : Rd G a u) : Rd G' a u := by
  rcases h with h | ⟨o, h⟩
  · exact .inl (e a _ h)
  · exact .inr ⟨o, e a _ h⟩
theorem GLe.sqT {G G' : Hp} (e : GLe G G') {K : PySem.W.Frag} {a : Addr} {xs : List V} (h : SqT K G a xs) : SqT K G' a xs := h.elim (fun h => .inl (e.rd h)) .inr
theorem GLe.sqL {G G' : Hp} (e : GLe G G') {K : PySem.W.Frag} {a : Addr} {xs : List V} (h : SqL K G a xs) : SqL K G' a xs := h.elim (fun h => .inl (e.rd h)) .inr
mutual
theorem Rep.mono {G G' : Hp} {φ φ' : List Addr} (e : GLe G G') (f : PLe φ φ') : ∀ {v : V} {d : Py.D}, Rep T G φ v d → Rep T G' φ' v d
  | _, _, .non => .non
  | _, _, .bl b => .bl b
  | _, _, .int b => .int b
  | _, _, .str b => .str b
  | _, _, .ty b => .ty b
  | _, _, .tup h r => .tup (e _ _ h) (r.mono e f)
  | _, _, .lst h r => .lst (e _ _ h) (r.mono e f)
  | _, _, .dic h r => .dic (e _ _ h) (r.mono e f)
  | _, _, .ins c h r => .ins c (e _ _ h) (r.mono e f)
  | _, _, .fn h => .fn h
  | _, _, .cls h => .cls h
  | _, _, .cell h => .cell (f _ _ h)
  | _, _, .scr h r => .scr (e.sqL h) (r.mono e f)
theorem Reps.mono {G G' : Hp} {φ φ' : List Addr} (e : GLe G G') (f : PLe φ φ') : ∀ {v : List V} {d : List Py.D}, Reps T G φ v d → Reps T G' φ' v d
  | _, _, .nil => .nil
  | _, _, .cons h r => .cons (h.mono e f) (r.mono e f)
theorem RepK.mono {G G' : Hp} {φ φ' : List Addr} (e : GLe G G') (f : PLe φ φ') : ∀ {v : List (Key × V)} {d : List (Py.D × Py.D)}, RepK T G φ v d → RepK T G' φ' v d
  | _, _, .nil => .nil
  | _, _, .cons h r => .cons (h.mono e f) (r.mono e f)
theorem RepF.mono {G G' : Hp} {φ φ' : List Addr} (e : GLe G G') (f : PLe φ φ') : ∀ {v : List (Str × V)} {d : List (Nat × Py.D)}, RepF T G φ v d → RepF T G' φ' v d
  | _, _, .nil => .nil
  | _, _, .cons h r => .cons (h.mono e f) (r.mono e f)
end
/-- an owned object is what it was, under another root -/
structure Moves (w w' : Wd) (r r' : Root) : Prop where
  g : GLe w.G w'.G
  f : PLe w.φ w'.φ
  l : ∀ a π, w.lab a = some (r, π) → w'.lab a = some (r', π) ∧ ∀ o, w.H a = some o → w'.H a = some o
mutual
theorem RepO.move {w w' : Wd} {r r' : Root} (k : Moves w w' r r') : ∀ {π : List Nat} {v : V} {o : Py.O}, RepO T w r π v o → RepO T w' r' π v o
  | _, _, _, .d h => .d (h.mono k.g k.f)
  | _, _, _, .lst a b c => .lst (k.l _ _ a).1 ((k.l _ _ a).2 _ b) (c.move k)
  | _, _, _, .dic a b c => .dic (k.l _ _ a).1 ((k.l _ _ a).2 _ b) (c.move k)
  | _, _, _, .ins a t b c => .ins (k.l _ _ a).1 t ((k.l _ _ a).2 _ b) (c.move k)
theorem RepOs.move {w w' : Wd} {r r' : Root} (k : Moves w w' r r') : ∀ {π : List Nat} {j : Nat} {v : List V} {o : List Py.O}, RepOs T w r π j v o → RepOs T w' r' π j v o
  | _, _, _, _, .nil => .nil
  | _, _, _, _, .cons a b => .cons (a.move k) (b.move k)
theorem RepOk.move {w w' : Wd} {r r' : Root} (k : Moves w w' r r') : ∀ {π : List Nat} {j : Nat} {v : List (Key × V)} {o : List (Py.D × Py.O)}, RepOk T w r π j v o → RepOk T w' r' π j v o
  | _, _, _, _, .nil => .nil
  | _, _, _, _, .cons a b => .cons (a.move k) (b.move k)
theorem RepOf.move {w w' : Wd} {r r' : Root} (k : Moves w w' r r') : ∀ {π : List Nat} {j : Nat} {v : List (Str × V)} {o : List (Nat × Py.O)}, RepOf T w r π j v o → RepOf T w' r' π j v o
  | _, _, _, _, .nil => .nil
  | _, _, _, _, .cons a b => .cons (a.move k) (b.move k)
end
/-- all that root r holds, frozen -/
def frzG (w : Wd) (r : Root) : Hp := fun a => match w.lab a with
  | some (r', _) => if r' = r then w.H a else w.G a
  | none => w.G a
def dropL (r : Root) (l : Lab) : Lab := fun a => match l a with
  | some (r', π) => if r' = r then none else some (r', π)
  | none => none
def frz (w : Wd) (r : Root) : Wd := { w with G := frzG w r, lab := dropL r w.lab }
theorem frzG_at {w : Wd} {r : Root} {a : Addr} {π : List Nat} (h : w.lab a = some (r, π)) : frzG w r a = w.H a := by
  unfold frzG
  rw [h]
  simp
theorem frzG_ne {w : Wd} {r : Root} {a : Addr} (h : ∀ π, w.lab a ≠ some (r, π)) : frzG w r a = w.G a := by
  unfold frzG
  split
  · rename_i r' π e
    split
    · rename_i e2
      subst e2
      exact absurd e (h π)
    · rfl
  · rfl
theorem dropL_at {r : Root} {l : Lab} {a : Addr} {π : List Nat} (h : l a = some (r, π)) : dropL r l a = none := by
  unfold dropL
  rw [h]
  simp
theorem dropL_ne {r : Root} {l : Lab} {a : Addr} (h : ∀ π, l a ≠ some (r, π)) : dropL r l a = l a := by
  unfold dropL
  split
  · rename_i r' π e
    split
    · rename_i e2
      subst e2
      exact absurd e (h π)
    · exact e.symm
  · rename_i e
    exact e.symm
theorem dropL_none {r : Root} {l : Lab} {a : Addr} (h : l a = none) : dropL r l a = none := by
  unfold dropL
  rw [h]
theorem dropL_some {r : Root} {l : Lab} {a : Addr} {x : Root × List Nat} (h : dropL r l a = some x) : l a = some x ∧ x.1 ≠ r := by
  unfold dropL at h
  split at h
  · rename_i r' π e
    split at h
    · cases h
    · rename_i n
      cases h
      exact ⟨e, n⟩
  · cases h
/-- what is labelled is not frozen, and is there -/
structure LabOk (w : Wd) : Prop where
  gh : ∀ a o, w.G a = some o → w.H a = some o
  lg : ∀ a r, w.lab a = some r → w.G a = none ∧ w.H a ≠ none
theorem LabOk.gle {w : Wd} (k : LabOk w) (r : Root) : GLe w.G (frzG w r) := fun a o h => by
  by_cases q : ∃ π, w.lab a = some (r, π)
  · obtain ⟨π, e⟩ := q
    rw [(k.lg a _ e).1] at h
    cases h
  · rw [frzG_ne (fun π e => q ⟨π, e⟩)]
    exact h
mutual
theorem RepO.frz {w : Wd} (k : LabOk w) {r : Root} : ∀ {π : List Nat} {v : V} {o : Py.O}, RepO T w r π v o → Rep T (frzG w r) w.φ v o.toD
  | _, _, _, .d h => h.mono (k.gle r) (PLe.refl _)
  | _, _, _, .lst a b c => by
    rw [Py.O.toD]
    exact .lst ((frzG_at a).trans b) (c.frz k)
  | _, _, _, .dic a b c => by
    rw [Py.O.toD]
    exact .dic ((frzG_at a).trans b) (c.frz k)
  | _, _, _, .ins a t b c => by
    rw [Py.O.toD]
    exact .ins t ((frzG_at a).trans b) (c.frz k)
theorem RepOs.frz {w : Wd} (k : LabOk w) {r : Root} : ∀ {π : List Nat} {j : Nat} {v : List V} {o : List Py.O}, RepOs T w r π j v o → Reps T (frzG w r) w.φ v (Py.O.toDs o)
  | _, _, _, _, .nil => by
    rw [Py.O.toDs]
    exact .nil
  | _, _, _, _, .cons a b => by
    rw [Py.O.toDs]
    exact .cons (a.frz k) (b.frz k)
theorem RepOk.frz {w : Wd} (k : LabOk w) {r : Root} : ∀ {π : List Nat} {j : Nat} {v : List (Key × V)} {o : List (Py.D × Py.O)}, RepOk T w r π j v o → RepK T (frzG w r) w.φ v (Py.O.toKs o)
  | _, _, _, _, .nil => by
    rw [Py.O.toKs]
    exact .nil
  | _, _, _, _, .cons a b => by
    rw [Py.O.toKs]
    exact .cons (a.frz k) (b.frz k)
theorem RepOf.frz {w : Wd} (k : LabOk w) {r : Root} : ∀ {π : List Nat} {j : Nat} {v : List (Str × V)} {o : List (Nat × Py.O)}, RepOf T w r π j v o → RepF T (frzG w r) w.φ v (Py.O.toFs o)
  | _, _, _, _, .nil => by
    rw [Py.O.toFs]
    exact .nil
  | _, _, _, _, .cons a b => by
    rw [Py.O.toFs]
    exact .cons (a.frz k) (b.frz k)
end

/-! ### states and steps -/
/-- the heap behind: what is hidden stays -/
structure Stp (w w' : Wd) : Prop where
  g : GLe w.G w'.G
  f : PLe w.φ w'.φ
  h : ∀ a o, w.H a = some o → w.lab a = none → w'.H a = some o ∧ w'.lab a = none ∧ w'.G a = w.G a
  t : ∀ a, w.H a ≠ none → w'.H a ≠ none
theorem Stp.refl (w : Wd) : Stp w w := ⟨GLe.refl _, PLe.refl _, fun _ _ h l => ⟨h, l, rfl⟩, fun _ h => h⟩
theorem Stp.trans {a b c : Wd} (x : Stp a b) (y : Stp b c) : Stp a c :=
  ⟨x.g.trans y.g, x.f.trans y.f, fun p o h l => by
    obtain ⟨h1, l1, g1⟩ := x.h p o h l
    obtain ⟨h2, l2, g2⟩ := y.h p o h1 l1
    exact ⟨h2, l2, g2.trans g1⟩, fun p h => y.t p (x.t p h)⟩
/-- the state's names and cells stand so -/
structure RS (T : Tb) (w : Wd) (σ : L2.St) (s : Py.St) : Prop extends LabOk w where
  env : ∀ (i : Nat) (o : Py.O), s.env[i]? = some (some o) → ∃ v, σ[i]? = some (some v) ∧ RepO T w (.slot i) [] v o
  sto : ∀ (n : Nat) (o : Py.O), s.sto[n]? = some o → ∃ a, w.φ[n]? = some a ∧ RepO T w (.cell n) [] (.ref a) o
  len : w.φ.length = s.sto.length
  el : s.env.length = σ.length
/-- a value that nobody else holds -/
def Res (T : Tb) (w0 w : Wd) (v : V) (o : Py.O) : Prop :=
  ∃ l : Lab, (∀ a r, l a = some r → r.1 = .tmp ∧ w.lab a = none ∧ w.G a = none ∧ w.H a ≠ none ∧ (w0.H a = none ∨ w0.lab a ≠ none)) ∧ RepO T { w with lab := l } .tmp [] v o
theorem Res.d {w0 w : Wd} {v : V} {x : Py.D} (h : Rep T w.G w.φ v x) : Res T w0 w v (.d x) := ⟨fun _ => none, fun _ _ e => (nomatch e), .d h⟩
theorem Res.of_d {w0 w : Wd} {v : V} {x : Py.D} (h : Res T w0 w v (.d x)) : Rep T w.G w.φ v x := by
  obtain ⟨l, _, r⟩ := h
  cases r with
  | d r => exact r
/-- a value seen in place -/
def View (T : Tb) (w : Wd) (v : V) (o : Py.O) : Prop := ∃ (l : Lab) (r : Root) (π : List Nat), RepO T { w with lab := l } r π v o
theorem Res.view {w0 w : Wd} {v : V} {o : Py.O} (h : Res T w0 w v o) : View T w v o := by
  obtain ⟨l, _, r⟩ := h
  exact ⟨l, .tmp, [], r⟩
theorem View.mono {w w' : Wd} {v : V} {o : Py.O} (h : View T w v o) (g : GLe w.G w'.G) (f : PLe w.φ w'.φ) (e : GLe w.H w'.H) : View T w' v o := by
  obtain ⟨l, r, π, h⟩ := h
  refine ⟨l, r, π, RepO.move ?_ h⟩
  exact ⟨g, f, fun a π q => ⟨q, fun o z => e a o z⟩⟩
/-- a result is carried over a step -/
theorem Res.step {w0 w w' : Wd} {v : V} {o : Py.O} (h : Res T w0 w v o) (s : Stp w w') : Res T w0 w' v o := by
  obtain ⟨l, a, r⟩ := h
  refine ⟨l, fun p x e => ?_, RepO.move (w := { w with lab := l }) (w' := { w' with lab := l }) ⟨s.g, s.f, fun p π q => ⟨q, fun o z => ?_⟩⟩ r⟩
  · obtain ⟨a1, a2, a3, a4, a5⟩ := a p x e
    cases z : w.H p with
    | none => exact absurd z a4
    | some u =>
      obtain ⟨b1, b2, b3⟩ := s.h p u z a2
      exact ⟨a1, b2, b3.trans a3, (by rw [b1]; exact fun q => nomatch q), a5⟩
  · obtain ⟨a1, a2, a3, a4, a5⟩ := a p _ q
    exact (s.h p o z a2).1
/-- .. seen from an earlier start -/
theorem Res.from {w0 w1 w : Wd} {v : V} {o : Py.O} (h : Res T w1 w v o) (s : Stp w0 w1) : Res T w0 w v o := by
  obtain ⟨l, a, r⟩ := h
  refine ⟨l, fun p x e => ?_, r⟩
  obtain ⟨a1, a2, a3, a4, a5⟩ := a p x e
  refine ⟨a1, a2, a3, a4, ?_⟩
  cases z : w0.H p with
  | none => exact .inl rfl
  | some u =>
    refine .inr fun q => ?_
    obtain ⟨b1, b2, b3⟩ := s.h p u z q
    rcases a5 with a5 | a5
    · rw [b1] at a5
      cases a5
    · exact a5 b2
/-- an owned result becomes data -/
theorem Res.toD {w0 w : Wd} {v : V} {o : Py.O} {σ : L2.St} {s : Py.St} (h : Res T w0 w v o) (st : Stp w0 w) (rs : RS T w σ s) : ∃ w', w'.H = w.H ∧ Stp w0 w' ∧ RS T w' σ s ∧ Rep T w'.G w'.φ v o.toD ∧ w'.φ = w.φ ∧ GLe w.G w'.G ∧ w'.lab = w.lab := by
  obtain ⟨l, a, r⟩ := h
  have k : LabOk { w with lab := l } := ⟨rs.gh, fun p x e => ⟨(a p x e).2.2.1, (a p x e).2.2.2.1⟩⟩
  have hg : GLe w.G (frzG { w with lab := l } .tmp) := k.gle .tmp
  have hl : ∀ p, w.lab p ≠ none → frzG { w with lab := l } .tmp p = w.G p := fun p q => frzG_ne fun π e => q (a p _ e).2.1
  refine ⟨{ w with G := frzG { w with lab := l } .tmp }, rfl, ⟨st.g.trans hg, st.f, fun p u hu hn => ?_, st.t⟩, ⟨⟨fun p u hu => ?_, fun p x e => ?_⟩, fun i u hu => ?_, fun n u hu => ?_, rs.len, rs.el⟩, r.frz k, rfl, hg, rfl⟩
  · obtain ⟨b1, b2, b3⟩ := st.h p u hu hn
    refine ⟨b1, b2, ?_⟩
    show frzG { w with lab := l } .tmp p = w0.G p
    rw [← b3]
    refine frzG_ne fun π e => ?_
    rcases (a p _ e).2.2.2.2 with q | q
    · rw [q] at hu
      cases hu
    · exact q hn
  · by_cases q : ∃ π, l p = some (.tmp, π)
    · obtain ⟨π, q⟩ := q
      have e : frzG { w with lab := l } .tmp p = w.H p := frzG_at (w := { w with lab := l }) q
      exact e.symm.trans hu
    · have e : frzG { w with lab := l } .tmp p = w.G p := frzG_ne (w := { w with lab := l }) fun π z => q ⟨π, z⟩
      exact rs.gh p u (e.symm.trans hu)
  · refine ⟨?_, (rs.lg p x e).2⟩
    show frzG { w with lab := l } .tmp p = none
    rw [hl p (by rw [show w.lab p = some x from e]; exact fun z => nomatch z)]
    exact (rs.lg p x e).1
  · obtain ⟨v, e1, e2⟩ := rs.env i u hu
    refine ⟨v, e1, RepO.move ?_ e2⟩
    exact ⟨hg, PLe.refl _, fun p π q => ⟨q, fun _ z => z⟩⟩
  · obtain ⟨v, e1, e2⟩ := rs.sto n u hu
    refine ⟨v, e1, RepO.move ?_ e2⟩
    exact ⟨hg, PLe.refl _, fun p π q => ⟨q, fun _ z => z⟩⟩
/-- an owned result becomes what name i holds -/
theorem Res.store {w0 w : Wd} {v : V} {o : Py.O} {σ : L2.St} {s : Py.St} {i : Nat} (h : Res T w0 w v o) (st : Stp w0 w) (rs : RS T w σ s) (hi : i < σ.length) :
    ∃ w', w'.H = w.H ∧ Stp w0 w' ∧ RS T w' (σ.set i (some v)) { s with env := s.env.set i (some o) } := by
  obtain ⟨l, a, r⟩ := h
  let lab' : Lab := fun p => match l p with
    | some (_, π) => some (.slot i, π)
    | none => dropL (.slot i) w.lab p
  have l1 : ∀ {p r π}, l p = some (r, π) → lab' p = some (.slot i, π) := fun {p r π} e => by
    show (match l p with | some (_, π) => some (Root.slot i, π) | none => dropL (.slot i) w.lab p) = _
    rw [e]
  have l0 : ∀ {p}, l p = none → lab' p = dropL (.slot i) w.lab p := fun {p} e => by
    show (match l p with | some (_, π) => some (Root.slot i, π) | none => dropL (.slot i) w.lab p) = _
    rw [e]
  have other : ∀ r', r' ≠ .slot i → Moves w { w with lab := lab' } r' r' := fun r' hr => ⟨GLe.refl _, PLe.refl _, fun p π q => ⟨?_, fun _ z => z⟩⟩
  · refine ⟨{ w with lab := lab' }, rfl, ⟨st.g, st.f, fun p u hu hn => ?_, st.t⟩, ⟨⟨rs.gh, fun p x e => ?_⟩, fun j u hu => ?_, fun n u hu => ?_, rs.len, ?_⟩⟩
    · obtain ⟨b1, b2, b3⟩ := st.h p u hu hn
      refine ⟨b1, ?_, b3⟩
      cases q : l p with
      | none =>
        show lab' p = none
        rw [l0 q]
        exact dropL_none b2
      | some x =>
        rcases (a p x q).2.2.2.2 with z | z
        · rw [z] at hu
          cases hu
        · exact absurd hn z
    · cases q : l p with
      | none =>
        have e : lab' p = some x := e
        rw [l0 q] at e
        exact rs.lg p x (dropL_some e).1
      | some y => exact ⟨(a p y q).2.2.1, (a p y q).2.2.2.1⟩
    · by_cases hj : j = i
      · subst hj
        have hje : j < s.env.length := by rw [rs.el]; exact hi
        rw [List.getElem?_set_self hje] at hu
        cases hu
        refine ⟨v, by rw [List.getElem?_set_self hi], RepO.move ?_ r⟩
        exact ⟨GLe.refl _, PLe.refl _, fun p π q => ⟨l1 q, fun _ z => z⟩⟩
      · rw [List.getElem?_set_ne (Ne.symm hj)] at hu
        obtain ⟨v', e1, e2⟩ := rs.env j u hu
        refine ⟨v', by rw [List.getElem?_set_ne (Ne.symm hj)]; exact e1, RepO.move (other _ ?_) e2⟩
        exact fun z => hj (Root.slot.inj z)
    · obtain ⟨v', e1, e2⟩ := rs.sto n u hu
      refine ⟨v', e1, RepO.move (other _ ?_) e2⟩
      exact fun z => nomatch z
    · show (s.env.set i (some o)).length = (σ.set i (some v)).length
      rw [List.length_set, List.length_set]
      exact rs.el
  · cases z : l p with
    | none =>
      show lab' p = _
      rw [l0 z, dropL_ne fun π' e => ?_]
      · exact q
      · rw [q] at e
        exact hr (Prod.mk.inj (Option.some.inj e)).1
    | some y =>
      rw [(a p y z).2.1] at q
      cases q
end PyS
end

section
set_option Elab.async false
set_option linter.all false
set_option maxRecDepth 100000
set_option maxHeartbeats 2000000
/-! S2: what the interpreter tells of an expression the expression does. -/
namespace PyS
open PySem L2
variable {T : Tb}

/-! ### data seen at the heap -/
inductive At (T : Tb) (w : Wd) : V → Py.D → Prop
  | g {v : V} {d : Py.D} : Rep T w.G w.φ v d → At T w v d
  | lst {a : Addr} {xs : List V} {ds : List Py.D} : w.H a = some (.lst xs) → Reps T w.G w.φ xs ds → At T w (.ref a) (.lst ds)
  | dic {a : Addr} {kvs : List (Key × V)} {l : List (Py.D × Py.D)} : w.H a = some (.dK kvs) → RepK T w.G w.φ kvs l → At T w (.ref a) (.dic l)
theorem RepOs.pures {w : Wd} {r : Root} : ∀ {os : List Py.O} {π : List Nat} {j : Nat} {vs : List V} {ds : List Py.D}, RepOs T w r π j vs os → Py.O.pures os = some ds → Reps T w.G w.φ vs ds
  | [], _, _, _, _, .nil, h => by
    cases h
    exact .nil
  | .d x :: os, _, _, _, _, .cons (.d a) b, h => by
    rw [Py.O.pures] at h
    cases e : Py.O.pures os with
    | none => rw [e] at h; cases h
    | some z =>
      rw [e] at h
      cases h
      exact .cons a (b.pures e)
  | .lst _ :: _, _, _, _, _, _, h => by cases h
  | .dic _ :: _, _, _, _, _, _, h => by cases h
  | .ins _ _ :: _, _, _, _, _, _, h => by cases h
theorem RepOk.pures {w : Wd} {r : Root} : ∀ {os : List (Py.D × Py.O)} {π : List Nat} {j : Nat} {vs : List (Key × V)} {ds : List (Py.D × Py.D)}, RepOk T w r π j vs os → Py.O.pureKs os = some ds → RepK T w.G w.φ vs ds
  | [], _, _, _, _, .nil, h => by
    cases h
    exact .nil
  | (k, .d x) :: os, _, _, _, _, q, h => by
    cases q with
    | cons a b =>
    cases a with
    | d a =>
    rw [Py.O.pureKs] at h
    cases e : Py.O.pureKs os with
    | none => rw [e] at h; cases h
    | some z =>
      rw [e] at h
      cases h
      exact .cons a (b.pures e)
  | (_, .lst _) :: _, _, _, _, _, _, h => by cases h
  | (_, .dic _) :: _, _, _, _, _, _, h => by cases h
  | (_, .ins _ _) :: _, _, _, _, _, _, h => by cases h
theorem View.at {w : Wd} {v : V} {o : Py.O} {d : Py.D} (h : View T w v o) (f : o.flat = some d) : At T w v d := by
  obtain ⟨l, r, π, h⟩ := h
  cases h with
  | d h =>
    cases f
    exact .g h
  | @lst π a xs os h1 h2 h3 =>
    rw [Py.O.flat] at f
    cases e : Py.O.pures os with
    | none => rw [e] at f; cases f
    | some z =>
      rw [e] at f
      cases f
      exact .lst h2 (h3.pures e)
  | @dic π a xs os h1 h2 h3 =>
    rw [Py.O.flat] at f
    cases e : Py.O.pureKs os with
    | none => rw [e] at f; cases f
    | some z =>
      rw [e] at f
      cases f
      exact .dic h2 (h3.pures e)
  | ins h1 h2 h3 h4 => cases f
theorem At.mono {w w' : Wd} {v : V} {d : Py.D} (h : At T w v d) (g : GLe w.G w'.G) (f : PLe w.φ w'.φ) (e : GLe w.H w'.H) : At T w' v d := by
  cases h with
  | g h => exact .g (h.mono g f)
  | lst a b => exact .lst (e _ _ a) (b.mono g f)
  | dic a b => exact .dic (e _ _ a) (b.mono g f)
theorem At.int {w : Wd} {v : V} {i : Int} (h : At T w v (.int i)) : v = .int i := by
  cases h with
  | g h => cases h; rfl
theorem At.bl {w : Wd} {v : V} {i : Bool} (h : At T w v (.bl i)) : v = .bl i := by
  cases h with
  | g h => cases h; rfl
theorem At.lst' {w : Wd} {v : V} {ds : List Py.D} (k : LabOk w) (h : At T w v (.lst ds)) : ∃ a xs, v = .ref a ∧ w.H a = some (.lst xs) ∧ Reps T w.G w.φ xs ds := by
  cases h with
  | g h =>
    cases h with
    | lst a b => exact ⟨_, _, rfl, k.gh _ _ a, b⟩
  | lst a b => exact ⟨_, _, rfl, a, b⟩
theorem At.tup' {w : Wd} {v : V} {ds : List Py.D} (k : LabOk w) (h : At T w v (.tup ds)) : ∃ a xs, v = .ref a ∧ w.H a = some (.tup xs) ∧ Reps T w.G w.φ xs ds := by
  cases h with
  | g h =>
    cases h with
    | tup a b => exact ⟨_, _, rfl, k.gh _ _ a, b⟩
theorem Reps.length : ∀ {G : Hp} {φ : List Addr} {vs : List V} {ds : List Py.D}, Reps T G φ vs ds → vs.length = ds.length
  | _, _, _, _, .nil => rfl
  | _, _, _, _, .cons _ b => by rw [List.length_cons, List.length_cons, b.length]
theorem Reps.append : ∀ {G : Hp} {φ : List Addr} {vs us : List V} {ds es : List Py.D}, Reps T G φ vs ds → Reps T G φ us es → Reps T G φ (vs ++ us) (ds ++ es)
  | _, _, _, _, _, _, .nil, b => b
  | _, _, _, _, _, _, .cons a c, b => .cons a (c.append b)
theorem Reps.get : ∀ {G : Hp} {φ : List Addr} {vs : List V} {ds : List Py.D} {i : Nat} {d : Py.D}, Reps T G φ vs ds → ds[i]? = some d → ∃ v, vs[i]? = some v ∧ Rep T G φ v d
  | _, _, _, _, _, _, .nil, e => by simp at e
  | _, _, _, _, 0, _, .cons a _, e => by
    simp at e
    subst e
    exact ⟨_, rfl, a⟩
  | _, _, _, _, i + 1, _, .cons _ b, e => by
    obtain ⟨v, h1, h2⟩ := b.get (i := i) (by simpa using e)
    exact ⟨v, by simpa using h1, h2⟩
theorem Reps.drop : ∀ {G : Hp} {φ : List Addr} {vs : List V} {ds : List Py.D} (n : Nat), Reps T G φ vs ds → Reps T G φ (vs.drop n) (ds.drop n)
  | _, _, _, _, 0, r => r
  | _, _, _, _, _ + 1, .nil => .nil
  | _, _, _, _, n + 1, .cons _ t => Reps.drop n t
theorem Reps.take : ∀ {G : Hp} {φ : List Addr} {vs : List V} {ds : List Py.D} (n : Nat), Reps T G φ vs ds → Reps T G φ (vs.take n) (ds.take n)
  | _, _, _, _, 0, r => .nil
  | _, _, _, _, _ + 1, .nil => .nil
  | _, _, _, _, n + 1, .cons a t => .cons a (Reps.take n t)
theorem Reps.rep {G : Hp} {φ : List Addr} {vs : List V} {ds : List Py.D} (h : Reps T G φ vs ds) : ∀ k : Nat, Reps T G φ (List.replicate k vs).flatten (List.replicate k ds).flatten
  | 0 => .nil
  | k + 1 => by
    rw [List.replicate_succ, List.replicate_succ, List.flatten_cons, List.flatten_cons]
    exact h.append (h.rep k)
theorem Reps.intsD : ∀ {G : Hp} {φ : List Addr} {ds : List Py.D} {vs : List V} {ns : List Int}, Reps T G φ vs ds → Py.intsD ds = some ns → vs = ns.map V.int
  | _, _, [], _, _, .nil, h => by
    cases h
    rfl
  | _, _, .int i :: ds, _, _, .cons (.int _) b, h => by
    rw [Py.intsD] at h
    cases e : Py.intsD ds with
    | none => rw [e] at h; cases h
    | some z =>
      rw [e] at h
      cases h
      rw [b.intsD e]
      rfl
theorem Reps.bls : ∀ {G : Hp} {φ : List Addr} {ds : List Py.D} {vs : List V} {ns : List Bool}, Reps T G φ vs ds → Py.bls ds = some ns → vs = ns.map V.bl
  | _, _, [], _, _, .nil, h => by
    cases h
    rfl
  | _, _, .bl i :: ds, _, _, .cons (.bl _) b, h => by
    rw [Py.bls] at h
    cases e : Py.bls ds with
    | none => rw [e] at h; cases h
    | some z =>
      rw [e] at h
      cases h
      rw [b.bls e]
      rfl

/-! ### new objects -/
theorem upd_gle {H : Hp} {p : Addr} {o : HO} (h : H p = none) : GLe H (upd H p o) := fun a u e => by
  rw [upd_ne (ne_of_none e h)]
  exact e
theorem gle_ne {H H' : Hp} (e : GLe H H') {a : Addr} (h : H a ≠ none) : H' a ≠ none := fun z => by
  cases q : H a with
  | none => exact h q
  | some u =>
    rw [e a u q] at z
    cases z
theorem RS.alloc {w : Wd} {σ : L2.St} {s : Py.St} (rs : RS T w σ s) {p : Addr} (hp : w.H p = none) (o : HO) :
    Stp w { w with H := upd w.H p o } ∧ RS T { w with H := upd w.H p o } σ s := by
  have hg : GLe w.H (upd w.H p o) := upd_gle hp
  refine ⟨⟨GLe.refl _, PLe.refl _, fun a u h l => ⟨hg a u h, l, rfl⟩, fun a h => gle_ne hg h⟩, ⟨⟨fun a u h => hg a u (rs.gh a u h), fun a r h => ⟨(rs.lg a r h).1, gle_ne hg (rs.lg a r h).2⟩⟩, fun i u h => ?_, fun n u h => ?_, rs.len, rs.el⟩⟩
  · obtain ⟨v, e1, e2⟩ := rs.env i u h
    refine ⟨v, e1, RepO.move ?_ e2⟩
    exact ⟨GLe.refl _, PLe.refl _, fun a π q => ⟨q, fun o' z => hg a o' z⟩⟩
  · obtain ⟨v, e1, e2⟩ := rs.sto n u h
    refine ⟨v, e1, RepO.move ?_ e2⟩
    exact ⟨GLe.refl _, PLe.refl _, fun a π q => ⟨q, fun o' z => hg a o' z⟩⟩
theorem Reps.os {w : Wd} {r : Root} : ∀ {vs : List V} {ds : List Py.D} {π : List Nat} {j : Nat}, Reps T w.G w.φ vs ds → RepOs T w r π j vs (ds.map .d)
  | _, _, _, _, .nil => .nil
  | _, _, _, _, .cons a b => .cons (.d a) b.os
/-- a new list -/
theorem RS.newL {w : Wd} {σ : L2.St} {s : Py.St} (rs : RS T w σ s) {p : Addr} (hp : w.H p = none) {xs : List V} {ds : List Py.D} (r : Reps T w.G w.φ xs ds) :
    Res T w { w with H := upd w.H p (.lst xs) } (.ref p) (.lst (ds.map .d)) := by
  refine ⟨fun a => if a = p then some (.tmp, []) else none, fun a x e => ?_, .lst (by simp) upd_same (Reps.os (w := { w with H := upd w.H p (.lst xs), lab := fun a => if a = p then some (.tmp, []) else none }) r)⟩
  replace e : (if a = p then some (Root.tmp, ([] : List Nat)) else none) = some x := e
  by_cases q : a = p
  · rw [if_pos q] at e
    subst q
    cases e
    refine ⟨rfl, ?_, ?_, (by show upd w.H a (.lst xs) a ≠ none; rw [upd_same]; exact fun z => nomatch z), .inl hp⟩
    · cases z : w.lab a with
      | none => rfl
      | some r => exact absurd hp (rs.lg a r z).2
    · cases z : w.G a with
      | none => rfl
      | some u => rw [rs.gh a u z] at hp; cases hp
  · rw [if_neg q] at e
    cases e
/-- a new tuple: it is frozen at once -/
theorem RS.newT {w : Wd} {σ : L2.St} {s : Py.St} (rs : RS T w σ s) {p : Addr} (hp : w.H p = none) {xs : List V} {ds : List Py.D} (r : Reps T w.G w.φ xs ds) :
    ∃ w' : Wd, w'.H = upd w.H p (.tup xs) ∧ Stp w w' ∧ RS T w' σ s ∧ Rep T w'.G w'.φ (.ref p) (.tup ds) := by
  obtain ⟨a1, a2⟩ := rs.alloc hp (.tup xs)
  have hG : w.G p = none := by
    cases z : w.G p with
    | none => rfl
    | some u => rw [rs.gh p u z] at hp; cases hp
  have hg : GLe w.G (upd w.G p (.tup xs)) := upd_gle hG
  have hl : ∀ a r, w.lab a = some r → a ≠ p := fun a r h z => by
    subst z
    exact (rs.lg a r h).2 hp
  refine ⟨{ w with H := upd w.H p (.tup xs), G := upd w.G p (.tup xs) }, rfl, ⟨hg, PLe.refl _, fun a u h l => ?_, a1.t⟩, ⟨⟨fun a u h => ?_, fun a r h => ⟨?_, (a2.lg a r h).2⟩⟩, fun i u h => ?_, fun n u h => ?_, rs.len, rs.el⟩, .tup upd_same (r.mono hg (PLe.refl _))⟩
  · obtain ⟨b1, b2, _⟩ := a1.h a u h l
    refine ⟨b1, b2, ?_⟩
    show upd w.G p (.tup xs) a = w.G a
    exact upd_ne (ne_of_none h hp)
  · by_cases q : a = p
    · subst q
      have h' : upd w.G a (.tup xs) a = some u := h
      rw [upd_same] at h'
      cases h'
      exact upd_same
    · have h' : upd w.G p (.tup xs) a = some u := h
      rw [upd_ne q] at h'
      show upd w.H p (.tup xs) a = some u
      rw [upd_ne q]
      exact rs.gh a u h'
  · show upd w.G p (.tup xs) a = none
    rw [upd_ne (hl a r h)]
    exact (rs.lg a r h).1
  · obtain ⟨v, e1, e2⟩ := a2.env i u h
    refine ⟨v, e1, RepO.move ?_ e2⟩
    exact ⟨hg, PLe.refl _, fun a π q => ⟨q, fun o' z => z⟩⟩
  · obtain ⟨v, e1, e2⟩ := a2.sto n u h
    refine ⟨v, e1, RepO.move ?_ e2⟩
    exact ⟨hg, PLe.refl _, fun a π q => ⟨q, fun o' z => z⟩⟩
/-- what name i holds is frozen -/
theorem RS.freezeX {w : Wd} {σ : L2.St} {s : Py.St} (rs : RS T w σ s) {i : Nat} {o : Py.O} (h : s.env[i]? = some (some o)) :
    ∃ v, σ[i]? = some (some v) ∧ Stp w (frz w (.slot i)) ∧ RS T (frz w (.slot i)) σ { s with env := s.env.set i (some (.d o.toD)) } ∧ Rep T (frz w (.slot i)).G (frz w (.slot i)).φ v o.toD := by
  obtain ⟨v, e1, e2⟩ := rs.env i o h
  have hg := rs.toLabOk.gle (.slot i)
  have hr := e2.frz rs.toLabOk
  refine ⟨v, e1, ⟨hg, PLe.refl _, fun a u h l => ⟨h, dropL_none l, frzG_ne fun π z => by rw [l] at z; cases z⟩, fun _ h => h⟩, ⟨⟨fun a u z => ?_, fun a r z => ?_⟩, fun j u z => ?_, fun n u z => ?_, rs.len, by rw [← rs.el]; exact List.length_set⟩, hr⟩
  · by_cases q : ∃ π, w.lab a = some (.slot i, π)
    · obtain ⟨π, q⟩ := q
      have z' : frzG w (.slot i) a = some u := z
      rw [frzG_at q] at z'
      exact z'
    · have z' : frzG w (.slot i) a = some u := z
      rw [frzG_ne fun π e => q ⟨π, e⟩] at z'
      exact rs.gh a u z'
  · obtain ⟨z1, z2⟩ := dropL_some z
    refine ⟨?_, (rs.lg a r z1).2⟩
    show frzG w (.slot i) a = none
    rw [frzG_ne fun π e => ?_]
    · exact (rs.lg a r z1).1
    · rw [z1] at e
      cases e
      exact z2 rfl
  · by_cases hj : j = i
    · subst hj
      have hlt : j < s.env.length := (List.getElem?_eq_some_iff.mp h).1
      rw [List.getElem?_set_self hlt] at z
      cases z
      exact ⟨v, e1, .d hr⟩
    · rw [List.getElem?_set_ne (Ne.symm hj)] at z
      obtain ⟨v', z1, z2⟩ := rs.env j u z
      refine ⟨v', z1, RepO.move ?_ z2⟩
      refine ⟨hg, PLe.refl _, fun a π q => ⟨?_, fun _ z => z⟩⟩
      refine (dropL_ne fun π' e => ?_).trans q
      rw [q] at e
      cases e
      exact hj rfl
  · obtain ⟨v', z1, z2⟩ := rs.sto n u z
    refine ⟨v', z1, RepO.move ?_ z2⟩
    refine ⟨hg, PLe.refl _, fun a π q => ⟨?_, fun _ z => z⟩⟩
    refine (dropL_ne fun π' e => ?_).trans q
    rw [q] at e
    cases e

theorem RS.freeze {w : Wd} {σ : L2.St} {s : Py.St} (rs : RS T w σ s) {i : Nat} {o : Py.O} (h : s.env[i]? = some (some o)) :
    ∃ v w', σ[i]? = some (some v) ∧ w'.H = w.H ∧ Stp w w' ∧ RS T w' σ { s with env := s.env.set i (some (.d o.toD)) } ∧ Rep T w'.G w'.φ v o.toD := by
  obtain ⟨v, a, b, d, e⟩ := rs.freezeX h
  exact ⟨v, frz w (.slot i), a, rfl, b, d, e⟩

/-! ### the statement -/
/-- what e does, whatever is asked -/
def WE (X : Cx) (e : Expr) : TE := fun σ H Q => ∀ (pins : List (Addr × Obj)) (s : Shared), Inv X pins σ H s → wpAny (model X.prog X.w) X.A (eval e X.env) (EP X pins σ Q) X.xe s
theorem pe_self {X : Cx} {e : Expr} : PE X e (WE X e) := ⟨fun pins s σ H Q I h => h pins s I⟩
theorem WE.of {X : Cx} {e : Expr} {t : TE} (p : PE X e t) {σ : L2.St} {H : Hp} {Q : VK} (h : t σ H Q) : WE X e σ H Q := fun pins s I => p.run pins s σ H Q I h
def WA (X : Cx) (es : List Expr) : TA := fun σ H Q => ∀ (pos : Pos) (pins : List (Addr × Obj)) (s : Shared), Inv X pins σ H s → wpAny (model X.prog X.w) X.A (spliced (backTo pos (starEach es X.env))) (AP X pins σ Q) X.xe s
theorem pa_self {X : Cx} {e : List Expr} : PA X e (WA X e) := ⟨fun pos pins s σ H Q I h => h pos pins s I⟩
theorem WA.of {X : Cx} {e : List Expr} {t : TA} (p : PA X e t) {σ : L2.St} {H : Hp} {Q : List V → Hp → Prop} (h : t σ H Q) : WA X e σ H Q := fun pos pins s I => p.run pos pins s σ H Q I h
def WT (X : Cx) (e : Expr) : TT := fun σ H Q => ∀ (pins : List (Addr × Obj)) (s : Shared), Inv X pins σ H s → wpAny (model X.prog X.w) X.A (isTrue e X.env (eval e X.env)) (TP X pins σ Q) X.xe s
theorem pt_self {X : Cx} {e : Expr} : PT X e (WT X e) := ⟨fun pins s σ H Q I h => h pins s I⟩
theorem WT.of {X : Cx} {e : Expr} {t : TT} (p : PT X e t) {σ : L2.St} {H : Hp} {Q : Bool → Hp → Prop} (h : t σ H Q) : WT X e σ H Q := fun pins s I => p.run pins s σ H Q I h

def PO (T : Tb) (m : Bool) (E : Py.E) (w w' : Wd) (v : V) (o : Py.O) : Prop := if (m && E.place) = true then View T w' v o else Res T w w' v o
theorem PO.view {m : Bool} {E : Py.E} {w w' : Wd} {v : V} {o : Py.O} (h : PO T m E w w' v o) : View T w' v o := by
  unfold PO at h
  split at h
  · exact h
  · exact h.view
theorem PO.res {E : Py.E} {w w' : Wd} {v : V} {o : Py.O} (h : PO T false E w w' v o) : Res T w w' v o := h
theorem PO.of {m : Bool} {E : Py.E} {w w' : Wd} {v : V} {o : Py.O} (h : Res T w w' v o) : PO T m E w w' v o := by
  unfold PO
  split
  · exact h.view
  · exact h
theorem PO.fresh {m : Bool} {E : Py.E} {w w' : Wd} {v : V} {o : Py.O} (h : PO T m E w w' v o) (n : E.place = false) : Res T w w' v o := by
  unfold PO at h
  rw [n, Bool.and_false] at h
  exact h
theorem PO.rep {m : Bool} {E : Py.E} {w w' : Wd} {v : V} {x : Py.D} (h : PO T m E w w' v (.d x)) : Rep T w'.G w'.φ v x := by
  obtain ⟨l, r, π, q⟩ := h.view
  cases q with
  | d q => exact q
def Qt (E : Py.E) (w w' : Wd) : Prop := E.quiet = true → GLe w.H w'.H
/-- e does what the interpreter tells of E -/
def SimE (T : Tb) (c : Py.Cx) (X : Cx) (e : Expr) (E : Py.E) : Prop :=
  ∀ (m : Bool) (w : Wd) (σ : L2.St) (s : Py.St) (o : Py.O) (s' : Py.St), RS T w σ s → Py.ev c m E s = some (o, s') →
    ∀ Q : VK, (∀ v w', Stp w w' → RS T w' σ s' → Qt E w w' → PO T m E w w' v o → Q v w'.H) → WE X e σ w.H Q
def SimT (T : Tb) (c : Py.Cx) (X : Cx) (e : Expr) (E : Py.E) : Prop :=
  ∀ (w : Wd) (σ : L2.St) (s : Py.St) (b : Bool) (s' : Py.St), RS T w σ s → Py.ev c false E s = some (.d (.bl b), s') →
    ∀ Q : Bool → Hp → Prop, (∀ w', Stp w w' → RS T w' σ s' → Qt E w w' → Q b w'.H) → WT X e σ w.H Q
def SimEs (T : Tb) (c : Py.Cx) (X : Cx) (es : List Expr) (Es : List Py.E) : Prop :=
  ∀ (w : Wd) (σ : L2.St) (s : Py.St) (ds : List Py.D) (s' : Py.St), RS T w σ s → Py.evs c Es s = some (ds, s') →
    ∀ Q : List V → Hp → Prop, (∀ vs w', Stp w w' → RS T w' σ s' → (Py.E.quiet.go Es = true → GLe w.H w'.H) → Reps T w'.G w'.φ vs ds → Q vs w'.H) → WA X es σ w.H Q

section
variable {c : Py.Cx} {X : Cx}
theorem Qt.refl {E : Py.E} {w : Wd} : Qt E w w := fun _ => GLe.refl _

/-! ### constants, names -/
theorem sim_con {e : Expr} {v : V} {d : Py.D} (p : PE X e (tC v)) (r : ∀ G φ, Rep T G φ v d) : SimE T c X e (.con d) := by
  intro m w σ s o s' rs e Q q
  simp only [Py.ev, Option.some.injEq, Prod.mk.injEq] at e
  obtain ⟨rfl, rfl⟩ := e
  exact WE.of p (q _ w (Stp.refl _) rs Qt.refl (PO.of (Res.d (r _ _))))
theorem sim_var {e : Expr} {i : Nat} (p : PE X e (tVar i)) : SimE T c X e (.var i) := by
  intro m w σ s o s' rs e Q q
  simp only [Py.ev] at e
  cases h : s.env[i]? with
  | none => rw [h] at e; cases e
  | some z =>
    rw [h] at e
    cases z with
    | none => cases e
    | some u =>
      cases m with
      | false =>
        simp only [Bool.false_eq_true, if_false, Option.some.injEq, Prod.mk.injEq] at e
        obtain ⟨rfl, rfl⟩ := e
        obtain ⟨v, w', e1, e2, e3, e4, e5⟩ := rs.freeze h
        refine WE.of p ⟨v, e1, ?_⟩
        rw [← e2]
        exact q v w' e3 e4 (fun _ => by rw [e2]; exact GLe.refl _) (PO.of (Res.d e5))
      | true =>
        simp only [if_true] at e
        obtain ⟨v, e1, e2⟩ := rs.env i u h
        have fin : ∀ o', View T w v o' → Q v w.H → WE X _ σ w.H Q := fun o' _ hq => WE.of p ⟨v, e1, hq⟩
        split at e
        · rename_i n
          cases hs : s.sto[n]? with
          | none => rw [hs] at e; cases e
          | some y =>
            rw [hs] at e
            simp only [Option.map_some, Option.some.injEq, Prod.mk.injEq] at e
            obtain ⟨rfl, rfl⟩ := e
            obtain ⟨a, f1, f2⟩ := rs.sto n y hs
            cases e2 with
            | d e2 =>
              cases e2 with
              | cell g =>
                rw [f1] at g
                cases g
                exact WE.of p ⟨_, e1, q _ w (Stp.refl _) rs Qt.refl (show PO T true _ w w _ _ from ⟨w.lab, _, _, f2⟩)⟩
        · simp only [Option.some.injEq, Prod.mk.injEq] at e
          obtain ⟨rfl, rfl⟩ := e
          exact WE.of p ⟨_, e1, q _ w (Stp.refl _) rs Qt.refl (show PO T true _ w w _ _ from ⟨w.lab, _, _, e2⟩)⟩
/-! ### argument lists, displays -/
theorem sims_nil : SimEs T c X [] [] := by
  intro w σ s ds s' rs e Q q
  simp only [Py.evs, Option.some.injEq, Prod.mk.injEq] at e
  obtain ⟨rfl, rfl⟩ := e
  exact WA.of pa_nil (q [] w (Stp.refl _) rs (fun _ => GLe.refl _) .nil)
def notStar : Expr → Bool
  | .Starred _ _ => false
  | _ => true
theorem starEach_not {e : Expr} (h : notStar e = true) (es : List Expr) (env : Env) : starEach (e :: es) env = (false, eval e env) :: starEach es env := by
  cases e <;> first | rfl | cases h
def isStarE : Py.E → Bool
  | .star _ => true
  | _ => false
theorem evs_cons {E : Py.E} {Es : List Py.E} {s : Py.St} (h : isStarE E = false) : Py.evs c (E :: Es) s = match Py.ev c false E s with
    | some (o, s1) => match Py.evs c Es s1 with
      | some (ds, s2) => some (o.toD :: ds, s2)
      | none => none
    | none => none := by
  cases E <;> first | rfl | cases h
theorem quiet_go_cons {E : Py.E} {Es : List Py.E} (h : Py.E.quiet.go (E :: Es) = true) : E.quiet = true ∧ Py.E.quiet.go Es = true := by
  rw [Py.E.quiet.go, Bool.and_eq_true] at h
  exact h
theorem sims_cons {e : Expr} {es : List Expr} {E : Py.E} {Es : List Py.E} (n : notStar e = true) (n' : isStarE E = false) (h : SimE T c X e E) (hs : SimEs T c X es Es) : SimEs T c X (e :: es) (E :: Es) := by
  intro w σ s ds s' rs ev Q q
  rw [evs_cons n'] at ev
  cases e1 : Py.ev c false E s with
  | none => rw [e1] at ev; cases ev
  | some p =>
    obtain ⟨o, s1⟩ := p
    rw [e1] at ev
    simp only at ev
    cases e2 : Py.evs c Es s1 with
    | none => rw [e2] at ev; cases ev
    | some p2 =>
      obtain ⟨ds2, s2⟩ := p2
      rw [e2] at ev
      simp only [Option.some.injEq, Prod.mk.injEq] at ev
      obtain ⟨rfl, rfl⟩ := ev
      refine WA.of (pa_cons pe_self pa_self (starEach_not n es X.env)) ?_
      refine h false w σ s o s1 rs e1 _ fun v w1 st1 rs1 q1 p1 => ?_
      obtain ⟨w2, h2, st2, rs2, r2, f2, g2, l2⟩ := p1.res.toD st1 rs1
      rw [← h2]
      refine hs w2 σ s1 ds2 s2 rs2 e2 _ fun vs w3 st3 rs3 q3 r3 => ?_
      refine q (v :: vs) w3 (st2.trans st3) rs3 (fun qq => ?_) (.cons (r2.mono st3.g st3.f) r3)
      obtain ⟨qa, qb⟩ := quiet_go_cons qq
      have := q1 qa
      rw [← h2] at this
      exact this.trans (q3 qb)
theorem lenOk_le {n : Nat} (h : Py.lenOk n = true) : n ≤ sizeLine := by
  unfold Py.lenOk at h
  have := of_decide_eq_true h
  exact this
theorem sim_tup {es : List Expr} {Es : List Py.E} {k : Nat} {pos : Pos} (h : SimEs T c X es Es) : SimE T c X (.Tuple es k pos) (.tup Es) := by
  intro m w σ s o s' rs ev Q q
  simp only [Py.ev] at ev
  cases e1 : Py.evs c Es s with
  | none => rw [e1] at ev; cases ev
  | some p =>
    obtain ⟨ds, s1⟩ := p
    rw [e1] at ev
    simp only at ev
    split at ev
    · rename_i hz
      simp only [Option.some.injEq, Prod.mk.injEq] at ev
      obtain ⟨rfl, rfl⟩ := ev
      refine WE.of (pe_tup pa_self) ?_
      refine h w σ s ds _ rs e1 _ fun vs w1 st1 rs1 q1 r1 => ⟨(by rw [r1.length]; exact lenOk_le hz), fun p hp => ?_⟩
      obtain ⟨w2, h2, st2, rs2, r2⟩ := rs1.newT hp r1
      rw [← h2]
      refine q _ w2 (st1.trans st2) rs2 (fun qq => ?_) (PO.of (Res.d r2))
      rw [h2]
      exact (q1 (by simpa only [Py.E.quiet] using qq)).trans (upd_gle hp)
    · cases ev
theorem sim_lst {es : List Expr} {Es : List Py.E} {pos : Pos} (h : SimEs T c X es Es) : SimE T c X (.List es pos) (.lst Es) := by
  intro m w σ s o s' rs ev Q q
  simp only [Py.ev] at ev
  cases e1 : Py.evs c Es s with
  | none => rw [e1] at ev; cases ev
  | some p =>
    obtain ⟨ds, s1⟩ := p
    rw [e1] at ev
    simp only at ev
    split at ev
    · rename_i hz
      simp only [Option.some.injEq, Prod.mk.injEq] at ev
      obtain ⟨rfl, rfl⟩ := ev
      refine WE.of (pe_lst pa_self) ?_
      refine h w σ s ds _ rs e1 _ fun vs w1 st1 rs1 q1 r1 => ⟨(by rw [r1.length]; exact lenOk_le hz), fun p hp => ?_⟩
      obtain ⟨a1, a2⟩ := rs1.alloc hp (.lst vs)
      refine q (.ref p) { w1 with H := upd w1.H p (.lst vs) } (st1.trans a1) a2 (fun qq => ?_) (PO.of ((rs1.newL hp r1).from st1))
      exact (q1 (by simpa only [Py.E.quiet] using qq)).trans (upd_gle hp)
    · cases ev
end
end PyS
end

section
set_option Elab.async false
set_option linter.all false
set_option maxRecDepth 100000
set_option maxHeartbeats 2000000
/-! S3: operators, comparisons, tests. -/
namespace PyS
open PySem L2
variable {T : Tb}
section
variable {c : Py.Cx} {X : Cx}
/-- a seen value is still seen behind the second part -/
theorem PO.keep {m : Bool} {E : Py.E} {w w1 w2 : Wd} {v : V} {o : Py.O} (p : PO T m E w w1 v o) (st : Stp w1 w2) (h : o.isD = true ∨ GLe w1.H w2.H ∨ E.place = false) : View T w2 v o := by
  rcases h with h | h | h
  · cases o with
    | d x => exact ⟨fun _ => none, .tmp, [], .d (p.rep.mono st.g st.f)⟩
    | lst _ => cases h
    | dic _ => cases h
    | ins _ _ => cases h
  · exact p.view.mono st.g st.f h
  · exact ((p.fresh h).step st).view
theorem keep_of {o : Py.O} {b a : Py.E} {w1 w2 : Wd} (h : (o.isD || b.quiet || !a.place) = true) (q : Qt b w1 w2) : o.isD = true ∨ GLe w1.H w2.H ∨ a.place = false := by
  rw [Bool.or_eq_true, Bool.or_eq_true] at h
  rcases h with (h | h) | h
  · exact .inl h
  · exact .inr (.inl (q h))
  · refine .inr (.inr ?_)
    cases z : a.place with
    | false => rfl
    | true => rw [z] at h; cases h
/-- what an operator's rule gives for f -/
def OpSim (T : Tb) (f : Py.D → Py.D → Option Py.O) (r : R2) : Prop := ∀ (x y : Py.D) (z : Py.O), f x y = some z → ∀ (w : Wd) (σ : L2.St) (s : Py.St) (v u : V), RS T w σ s → At T w v x → At T w u y →
  ∀ Q : VK, (∀ v' w', Stp w w' → RS T w' σ s → GLe w.H w'.H → Res T w w' v' z → Q v' w'.H) → r v u w.H Q
theorem ev_bin {f : Py.D → Py.D → Option Py.O} {A B : Py.E} {s s' : Py.St} {o : Py.O}
    (e : (match Py.ev c true A s with
      | some (oa, s1) => if (oa.isD || B.quiet || !A.place) = true then match Py.ev c true B s1 with
        | some (ob, s2) => match oa.flat, ob.flat with
          | some x, some y => (f x y).map fun o => (o, s2)
          | _, _ => none
        | none => none else none
      | none => none) = some (o, s')) :
    ∃ oa s1 ob x y, Py.ev c true A s = some (oa, s1) ∧ (oa.isD || B.quiet || !A.place) = true ∧ Py.ev c true B s1 = some (ob, s') ∧ oa.flat = some x ∧ ob.flat = some y ∧ f x y = some o := by
  split at e
  · rename_i oa s1 h1
    split at e
    · rename_i h2
      split at e
      · rename_i ob s2 h3
        split at e
        · rename_i x y h4 h5
          cases h6 : f x y with
          | none => rw [h6] at e; cases e
          | some z =>
            rw [h6] at e
            simp only [Option.map_some, Option.some.injEq, Prod.mk.injEq] at e
            obtain ⟨rfl, rfl⟩ := e
            exact ⟨oa, s1, ob, x, y, h1, h2, h3, h4, h5, h6⟩
        · cases e
      · cases e
    · cases e
  · cases e
theorem two {a b : Expr} {A B : Py.E} {r : R2} {f : Py.D → Py.D → Option Py.O} (hf : OpSim T f r) (ha : SimE T c X a A) (hb : SimE T c X b B)
    {w : Wd} {σ : L2.St} {s s1 s' : Py.St} {oa ob o : Py.O} {x y : Py.D} (rs : RS T w σ s) (h1 : Py.ev c true A s = some (oa, s1)) (h2 : (oa.isD || B.quiet || !A.place) = true) (h3 : Py.ev c true B s1 = some (ob, s')) (h4 : oa.flat = some x) (h5 : ob.flat = some y) (h6 : f x y = some o)
    {Q : VK} (q : ∀ v w', Stp w w' → RS T w' σ s' → (A.quiet = true → B.quiet = true → GLe w.H w'.H) → Res T w w' v o → Q v w'.H) : tOp r (WE X a) (WE X b) σ w.H Q := by
  refine ha true w σ s oa s1 rs h1 _ fun v w1 st1 rs1 q1 p1 => ?_
  refine hb true w1 σ s1 ob s' rs1 h3 _ fun u w2 st2 rs2 q2 p2 => ?_
  have k1 := p1.keep st2 (keep_of h2 q2)
  refine hf x y o h6 w2 σ s' v u rs2 (k1.at h4) (p2.view.at h5) Q fun v' w3 st3 rs3 g3 r3 => ?_
  exact q v' w3 ((st1.trans st2).trans st3) rs3 (fun qa qb => ((q1 qa).trans (q2 qb)).trans g3) (r3.from (st1.trans st2))
theorem sim_bin {a b : Expr} {A B : Py.E} {op : Py.Bop} {p : Operator} {pos : Pos} {r : R2} (ho : OpR X (binaryOp p) r) (hf : OpSim T (Py.bop op) r) (ha : SimE T c X a A) (hb : SimE T c X b B) : SimE T c X (.BinOp a p b pos) (.bin op A B) := by
  intro m w σ s o s' rs ev Q q
  simp only [Py.ev] at ev
  obtain ⟨oa, s1, ob, x, y, h1, h2, h3, h4, h5, h6⟩ := ev_bin ev
  refine WE.of (pe_op ho pe_self pe_self) (two hf ha hb rs h1 h2 h3 h4 h5 h6 fun v w' st' rs' q' r' => ?_)
  refine q v w' st' rs' (fun qq => ?_) (PO.of r')
  simp only [Py.E.quiet, Bool.and_eq_true] at qq
  exact q' qq.1 qq.2
def copO (op : Py.Cop) (x y : Py.D) : Option Py.O := (Py.cop op x y).map fun b => .d (.bl b)
def notSet : Expr → Bool
  | .Set _ _ _ => false
  | _ => true
theorem nomark' {b : Expr} (h : notSet b = true) (op : CmpOp) : behindInMarks op b = false := by
  cases b <;> first | rfl | cases h
theorem ev_cmp {op : Py.Cop} {A B : Py.E} {s : Py.St} : Py.ev c m (.cmp op A B) s = (match Py.ev c true A s with
      | some (oa, s1) => if (oa.isD || B.quiet || !A.place) = true then match Py.ev c true B s1 with
        | some (ob, s2) => match oa.flat, ob.flat with
          | some x, some y => (copO op x y).map fun o => (o, s2)
          | _, _ => none
        | none => none else none
      | none => none) := by
  simp only [Py.ev, copO, Option.map_map]
  rfl
theorem sim_cmp {a b : Expr} {A B : Py.E} {op : Py.Cop} {p : CmpOp} {pos : Pos} {r : R2} (ho : OpR X (compareOp p) r) (hf : OpSim T (copO op) r) (hn : notSet b = true) (ha : SimE T c X a A) (hb : SimE T c X b B) : SimE T c X (.Compare a [p] [b] pos) (.cmp op A B) := by
  intro m w σ s o s' rs ev Q q
  rw [ev_cmp] at ev
  obtain ⟨oa, s1, ob, x, y, h1, h2, h3, h4, h5, h6⟩ := ev_bin ev
  refine WE.of (pe_cmpR ho pe_self pe_self (nomark' hn p)) (two hf ha hb rs h1 h2 h3 h4 h5 h6 fun v w' st' rs' q' r' => ?_)
  refine q v w' st' rs' (fun qq => ?_) (PO.of r')
  simp only [Py.E.quiet, Bool.and_eq_true] at qq
  exact q' qq.1 qq.2
theorem simT_cmp {a b : Expr} {A B : Py.E} {op : Py.Cop} {p : CmpOp} {pos : Pos} {r : R2} (ho : OpR X (compareOp p) r) (hf : OpSim T (copO op) r) (hn : notSet b = true) (ha : SimE T c X a A) (hb : SimE T c X b B) : SimT T c X (.Compare a [p] [b] pos) (.cmp op A B) := by
  intro w σ s z s' rs ev Q q
  rw [ev_cmp] at ev
  obtain ⟨oa, s1, ob, x, y, h1, h2, h3, h4, h5, h6⟩ := ev_bin ev
  refine WT.of (pt_cmpR ho pe_self pe_self (nomark' hn p)) ?_
  refine two hf ha hb rs h1 h2 h3 h4 h5 h6 fun v w' st' rs' q' r' => ?_
  refine ⟨z, ?_, q w' st' rs' (fun qq => ?_)⟩
  · have := r'.of_d
    cases this
    rfl
  · simp only [Py.E.quiet, Bool.and_eq_true] at qq
    exact q' qq.1 qq.2
/-- a test of a value -/
def plainT : Expr → Bool
  | .BoolOp _ _ _ | .UnaryOp _ _ _ | .Compare _ _ _ _ | .IfExp _ _ _ _ | .NamedExpr _ _ _ | .Constant _ _ _ | .Tuple _ _ _ | .Await _ _ => false
  | _ => true
theorem Res.bl {w0 w : Wd} {v : V} {b : Bool} (h : Res T w0 w v (.d (.bl b))) : v = .bl b := by
  have := h.of_d
  cases this
  rfl
theorem Res.int {w0 w : Wd} {v : V} {b : Int} (h : Res T w0 w v (.d (.int b))) : v = .int b := by
  have := h.of_d
  cases this
  rfl
theorem simT_val {e : Expr} {E : Py.E} (he : ∀ whole, isTrue e X.env whole = (do let v ← whole; standAt e.pos; holding [v] (truthy v))) (h : SimE T c X e E) : SimT T c X e E := by
  intro w σ s z s' rs ev Q q
  refine WT.of (pt_val pe_self he) ?_
  refine h false w σ s _ s' rs ev _ fun v w1 st1 rs1 q1 p1 => ?_
  exact ⟨z, p1.res.bl, q w1 st1 rs1 q1⟩
theorem sim_neg {e : Expr} {E : Py.E} {pos : Pos} (h : SimE T c X e E) : SimE T c X (.UnaryOp .USub e pos) (.neg E) := by
  intro m w σ s o s' rs ev Q q
  simp only [Py.ev] at ev
  split at ev
  · rename_i i s1 e1
    simp only [Option.some.injEq, Prod.mk.injEq] at ev
    obtain ⟨rfl, rfl⟩ := ev
    refine WE.of (pe_un un_neg pe_self) ?_
    refine h false w σ s _ _ rs e1 _ fun v w1 st1 rs1 q1 p1 => ⟨i, p1.res.int, ?_⟩
    exact q _ w1 st1 rs1 (fun qq => q1 (by simpa only [Py.E.quiet] using qq)) (PO.of (Res.d (.int _)))
  · cases ev
/-! ### not, and, or -/
theorem sim_not {e : Expr} {E : Py.E} {pos : Pos} (h : SimE T c X e E) : SimE T c X (.UnaryOp .Not e pos) (.not E) := by
  intro m w σ s o s' rs ev Q q
  simp only [Py.ev] at ev
  split at ev
  · rename_i i s1 e1
    simp only [Option.some.injEq, Prod.mk.injEq] at ev
    obtain ⟨rfl, rfl⟩ := ev
    refine WE.of (pe_not pe_self) ?_
    refine h false w σ s _ _ rs e1 _ fun v w1 st1 rs1 q1 p1 => ⟨i, p1.res.bl, ?_⟩
    exact q _ w1 st1 rs1 (fun qq => q1 (by simpa only [Py.E.quiet] using qq)) (PO.of (Res.d (.bl _)))
  · cases ev
theorem simT_not {e : Expr} {E : Py.E} {pos : Pos} (h : SimT T c X e E) : SimT T c X (.UnaryOp .Not e pos) (.not E) := by
  intro w σ s z s' rs ev Q q
  simp only [Py.ev] at ev
  split at ev
  · rename_i i s1 e1
    simp only [Option.some.injEq, Prod.mk.injEq, Py.O.d.injEq, Py.D.bl.injEq] at ev
    obtain ⟨rfl, rfl⟩ := ev
    refine WT.of (pt_not pt_self) ?_
    refine h w σ s _ _ rs e1 _ fun w1 st1 rs1 q1 => ?_
    exact q w1 st1 rs1 (fun qq => q1 (by simpa only [Py.E.quiet] using qq))
  · cases ev
theorem sim_one {op : BoolOp} {e : Expr} {E : Py.E} {pos : Pos} (h : SimE T c X e E) : SimE T c X (.BoolOp op [e] pos) E := by
  intro m w σ s o s' rs ev Q q
  exact WE.of (pe_one pe_self) (h m w σ s o s' rs ev Q q)
theorem sim_and {a b : Expr} {rest : List Expr} {A B : Py.E} {pos : Pos} (ha : SimE T c X a A) (hb : SimE T c X (.BoolOp .And (b :: rest) pos) B) : SimE T c X (.BoolOp .And (a :: b :: rest) pos) (.and A B) := by
  intro m w σ s o s' rs ev Q q
  simp only [Py.ev] at ev
  refine WE.of (pe_and pe_self pe_self) ?_
  split at ev
  · rename_i s1 e1
    split at ev
    · rename_i z s2 e2
      simp only [Option.some.injEq, Prod.mk.injEq] at ev
      obtain ⟨rfl, rfl⟩ := ev
      refine ha false w σ s _ _ rs e1 _ fun v w1 st1 rs1 q1 p1 => ⟨true, p1.res.bl, ?_⟩
      show WE X (.BoolOp .And (b :: rest) pos) σ w1.H Q
      refine hb false w1 σ s1 _ _ rs1 e2 _ fun u w2 st2 rs2 q2 p2 => ?_
      rw [p2.res.bl]
      refine q _ w2 (st1.trans st2) rs2 (fun qq => ?_) (PO.of (Res.d (.bl _)))
      simp only [Py.E.quiet, Bool.and_eq_true] at qq
      exact (q1 qq.1).trans (q2 qq.2)
    · cases ev
  · rename_i s1 e1
    simp only [Option.some.injEq, Prod.mk.injEq] at ev
    obtain ⟨rfl, rfl⟩ := ev
    refine ha false w σ s _ _ rs e1 _ fun v w1 st1 rs1 q1 p1 => ⟨false, p1.res.bl, ?_⟩
    show Q (.bl false) w1.H
    refine q _ w1 st1 rs1 (fun qq => ?_) (PO.of (Res.d (.bl _)))
    simp only [Py.E.quiet, Bool.and_eq_true] at qq
    exact q1 qq.1
  · cases ev
theorem sim_or {a b : Expr} {rest : List Expr} {A B : Py.E} {pos : Pos} (ha : SimE T c X a A) (hb : SimE T c X (.BoolOp .Or (b :: rest) pos) B) : SimE T c X (.BoolOp .Or (a :: b :: rest) pos) (.or A B) := by
  intro m w σ s o s' rs ev Q q
  simp only [Py.ev] at ev
  refine WE.of (pe_or pe_self pe_self) ?_
  split at ev
  · rename_i s1 e1
    split at ev
    · rename_i z s2 e2
      simp only [Option.some.injEq, Prod.mk.injEq] at ev
      obtain ⟨rfl, rfl⟩ := ev
      refine ha false w σ s _ _ rs e1 _ fun v w1 st1 rs1 q1 p1 => ⟨false, p1.res.bl, ?_⟩
      show WE X (.BoolOp .Or (b :: rest) pos) σ w1.H Q
      refine hb false w1 σ s1 _ _ rs1 e2 _ fun u w2 st2 rs2 q2 p2 => ?_
      rw [p2.res.bl]
      refine q _ w2 (st1.trans st2) rs2 (fun qq => ?_) (PO.of (Res.d (.bl _)))
      simp only [Py.E.quiet, Bool.and_eq_true] at qq
      exact (q1 qq.1).trans (q2 qq.2)
    · cases ev
  · rename_i s1 e1
    simp only [Option.some.injEq, Prod.mk.injEq] at ev
    obtain ⟨rfl, rfl⟩ := ev
    refine ha false w σ s _ _ rs e1 _ fun v w1 st1 rs1 q1 p1 => ⟨true, p1.res.bl, ?_⟩
    show Q (.bl true) w1.H
    refine q _ w1 st1 rs1 (fun qq => ?_) (PO.of (Res.d (.bl _)))
    simp only [Py.E.quiet, Bool.and_eq_true] at qq
    exact q1 qq.1
  · cases ev
/-- a test whatever its whole is -/
def SimW (T : Tb) (c : Py.Cx) (X : Cx) (e : Expr) (E : Py.E) : Prop :=
  ∀ (w : Wd) (σ : L2.St) (s : Py.St) (b : Bool) (s' : Py.St), RS T w σ s → Py.ev c false E s = some (.d (.bl b), s') →
    ∀ Q : Bool → Hp → Prop, (∀ w', Stp w w' → RS T w' σ s' → Qt E w w' → Q b w'.H) → ∀ (whole : Sem Value) (pins : List (Addr × Obj)) (sh : Shared), Inv X pins σ w.H sh → wpAny (model X.prog X.w) X.A (isTrue e X.env whole) (TP X pins σ Q) X.xe sh
def WW (X : Cx) (e : Expr) : TT := fun σ H Q => ∀ (whole : Sem Value) (pins : List (Addr × Obj)) (s : Shared), Inv X pins σ H s → wpAny (model X.prog X.w) X.A (isTrue e X.env whole) (TP X pins σ Q) X.xe s
theorem pw_self {e : Expr} : PW X e (WW X e) := ⟨fun whole pins s σ H Q I h => h whole pins s I⟩
theorem simW_and1 {e : Expr} {E : Py.E} {pos : Pos} (h : SimT T c X e E) : SimW T c X (.BoolOp .And [e] pos) E := by
  intro w σ s z s' rs ev Q q whole pins sh I
  exact (pw_and1 (pos := pos) pt_self).run whole pins sh σ w.H Q I (h w σ s z s' rs ev Q q)
theorem simW_or1 {e : Expr} {E : Py.E} {pos : Pos} (h : SimT T c X e E) : SimW T c X (.BoolOp .Or [e] pos) E := by
  intro w σ s z s' rs ev Q q whole pins sh I
  exact (pw_or1 (pos := pos) pt_self).run whole pins sh σ w.H Q I (h w σ s z s' rs ev Q q)
theorem simW_and {a b : Expr} {rest : List Expr} {A B : Py.E} {pos : Pos} (ha : SimT T c X a A) (hb : SimW T c X (.BoolOp .And (b :: rest) pos) B) : SimW T c X (.BoolOp .And (a :: b :: rest) pos) (.and A B) := by
  intro w σ s z s' rs ev Q q whole pins sh I
  refine (pw_and pt_self pw_self).run whole pins sh σ w.H Q I ?_
  simp only [Py.ev] at ev
  split at ev
  · rename_i s1 e1
    split at ev
    · rename_i z s2 e2
      simp only [Option.some.injEq, Prod.mk.injEq, Py.O.d.injEq, Py.D.bl.injEq] at ev
      obtain ⟨rfl, rfl⟩ := ev
      refine ha w σ s _ _ rs e1 _ fun w1 st1 rs1 q1 => ?_
      show WW X (.BoolOp .And (b :: rest) pos) σ w1.H Q
      refine hb w1 σ s1 _ _ rs1 e2 _ fun w2 st2 rs2 q2 => ?_
      refine q w2 (st1.trans st2) rs2 (fun qq => ?_)
      simp only [Py.E.quiet, Bool.and_eq_true] at qq
      exact (q1 qq.1).trans (q2 qq.2)
    · cases ev
  · rename_i s1 e1
    simp only [Option.some.injEq, Prod.mk.injEq, Py.O.d.injEq, Py.D.bl.injEq] at ev
    obtain ⟨rfl, rfl⟩ := ev
    refine ha w σ s _ _ rs e1 _ fun w1 st1 rs1 q1 => ?_
    show Q false w1.H
    refine q w1 st1 rs1 (fun qq => ?_)
    simp only [Py.E.quiet, Bool.and_eq_true] at qq
    exact q1 qq.1
  · cases ev
theorem simW_or {a b : Expr} {rest : List Expr} {A B : Py.E} {pos : Pos} (ha : SimT T c X a A) (hb : SimW T c X (.BoolOp .Or (b :: rest) pos) B) : SimW T c X (.BoolOp .Or (a :: b :: rest) pos) (.or A B) := by
  intro w σ s z s' rs ev Q q whole pins sh I
  refine (pw_or pt_self pw_self).run whole pins sh σ w.H Q I ?_
  simp only [Py.ev] at ev
  split at ev
  · rename_i s1 e1
    split at ev
    · rename_i z s2 e2
      simp only [Option.some.injEq, Prod.mk.injEq, Py.O.d.injEq, Py.D.bl.injEq] at ev
      obtain ⟨rfl, rfl⟩ := ev
      refine ha w σ s _ _ rs e1 _ fun w1 st1 rs1 q1 => ?_
      show WW X (.BoolOp .Or (b :: rest) pos) σ w1.H Q
      refine hb w1 σ s1 _ _ rs1 e2 _ fun w2 st2 rs2 q2 => ?_
      refine q w2 (st1.trans st2) rs2 (fun qq => ?_)
      simp only [Py.E.quiet, Bool.and_eq_true] at qq
      exact (q1 qq.1).trans (q2 qq.2)
    · cases ev
  · rename_i s1 e1
    simp only [Option.some.injEq, Prod.mk.injEq, Py.O.d.injEq, Py.D.bl.injEq] at ev
    obtain ⟨rfl, rfl⟩ := ev
    refine ha w σ s _ _ rs e1 _ fun w1 st1 rs1 q1 => ?_
    show Q true w1.H
    refine q w1 st1 rs1 (fun qq => ?_)
    simp only [Py.E.quiet, Bool.and_eq_true] at qq
    exact q1 qq.1
  · cases ev
theorem simT_W {e : Expr} {E : Py.E} (h : SimW T c X e E) : SimT T c X e E := fun w σ s b s' rs ev Q q pins sh I => h w σ s b s' rs ev Q q _ pins sh I
theorem sim_ife {t a b : Expr} {C A B : Py.E} {pos : Pos} (ht : SimT T c X t C) (ha : SimE T c X a A) (hb : SimE T c X b B) : SimE T c X (.IfExp t a b pos) (.ife C A B) := by
  intro m w σ s o s' rs ev Q q
  simp only [Py.ev] at ev
  refine WE.of (pe_ifExp pt_self pe_self pe_self) ?_
  split at ev
  · rename_i s1 e1
    refine ht w σ s _ _ rs e1 _ fun w1 st1 rs1 q1 => ?_
    show WE X a σ w1.H Q
    exact ha false w1 σ s1 _ _ rs1 ev _ fun v w2 st2 rs2 q2 p2 => q v w2 (st1.trans st2) rs2 (fun qq => by simp only [Py.E.quiet] at qq; cases qq) (PO.of (p2.res.from st1))
  · rename_i s1 e1
    refine ht w σ s _ _ rs e1 _ fun w1 st1 rs1 q1 => ?_
    show WE X b σ w1.H Q
    exact hb false w1 σ s1 _ _ rs1 ev _ fun v w2 st2 rs2 q2 p2 => q v w2 (st1.trans st2) rs2 (fun qq => by simp only [Py.E.quiet] at qq; cases qq) (PO.of (p2.res.from st1))
  · cases ev
end
end PyS
end

section
set_option Elab.async false
set_option linter.all false
set_option maxRecDepth 100000
set_option maxHeartbeats 2000000
/-! S4: what the operators' rules give. -/
namespace PyS
open PySem L2
variable {T : Tb}
section
variable {X : Cx}
theorem Stp.here {w : Wd} {σ : L2.St} {s : Py.St} (rs : RS T w σ s) {Q : VK} {v : V} {z : Py.O} (q : ∀ v' w', Stp w w' → RS T w' σ s → GLe w.H w'.H → Res T w w' v' z → Q v' w'.H) (r : Res T w w v z) : Q v w.H := q v w (Stp.refl w) rs (GLe.refl _) r

def CDivB (_ j : Int) : Prop := j ≠ 0 ∧ j.natAbs.log2 < 9000
theorem op_fdivB : OpR X (binaryOp .FloorDiv) (rI CDivB fun i j => .int (i.fdiv j)) := opI fun i j _ _ _ _ _ hc q => PyProof.Rows.floordiv_int hc.1 q (.inl (PyProof.noPylong_of_log2 hc.2))
theorem log2_lt_pow {a b : Nat} (h0 : 0 < b) (h : a < 2 ^ b) : a.log2 < b := PySem.Flt.log2_lt_of h0 h
theorem lineA_log {a : Nat} (h : a < Py.lineA) : a.log2 < 400000 := by
  unfold Py.lineA at h
  exact log2_lt_pow (by omega) h
theorem lineB_log {a : Nat} (h : a < Py.lineB) : a.log2 < 9000 := by
  unfold Py.lineB at h
  exact log2_lt_pow (by omega) h
def rAddI : R2 := rI0 fun i j => .int (i + j)
def rAdd (K : PySem.W.Frag) : R2 := fun x y H Q => rAddI x y H Q ∨ (rCat x y H Q ∨ rCatA K x y H Q)
theorem op_addA : OpR X (binaryOp .Add) (rAdd X.K) := OpR.or op_add (OpR.or op_cat op_catA)
def rSub : R2 := rI0 fun i j => .int (i - j)
theorem op_subA : OpR X (binaryOp .Sub) rSub := op_sub
def rMulI : R2 := rI CMulW fun i j => .int (i * j)
def rMul (K : PySem.W.Frag) : R2 := fun x y H Q => rMulI x y H Q ∨ (rRep x y H Q ∨ rRepT K x y H Q)
theorem op_mulA : OpR X (binaryOp .Mult) (rMul X.K) := OpR.or op_mulW (OpR.or op_rep op_repT)
def rFdiv : R2 := rI CDivB fun i j => .int (i.fdiv j)
theorem op_fdivA : OpR X (binaryOp .FloorDiv) rFdiv := op_fdivB
def rMod : R2 := rI (fun _ j => j ≠ 0) fun i j => .int (i.fmod j)
theorem op_modA : OpR X (binaryOp .Mod) rMod := op_modN
def rPow : R2 := rI CPow fun i j => .int (i ^ j.toNat)
theorem op_powA : OpR X (binaryOp .Pow) rPow := op_pow

theorem Reps.nil_iff {G : Hp} {φ : List Addr} {vs : List V} {ds : List Py.D} (h : Reps T G φ vs ds) : vs = [] ↔ ds = [] := by
  cases h with
  | nil => exact ⟨fun _ => rfl, fun _ => rfl⟩
  | cons _ _ => exact ⟨fun z => (nomatch z), fun z => (nomatch z)⟩
theorem Reps.ne {G : Hp} {φ : List Addr} {vs : List V} {ds : List Py.D} (h : Reps T G φ vs ds) (n : vs ≠ []) : ds ≠ [] := fun z => n (h.nil_iff.mpr z)
theorem os_add : OpSim T (Py.bop .add) (rAdd T.K) := by
  intro x y z e w σ s v u rs hv hu Q q
  cases x <;> cases y <;> first | (cases e; done) | skip
  · simp only [Py.bop, Option.some.injEq] at e
    subst e
    rw [hv.int, hu.int]
    exact .inl ⟨_, _, rfl, rfl, Stp.here rs q (Res.d (.int _))⟩
  · rename_i a b
    simp only [Py.bop] at e
    split at e
    · rename_i hz
      cases e
      obtain ⟨p1, xs, rfl, h1, r1⟩ := hv.tup' rs.toLabOk
      obtain ⟨p2, ys, rfl, h2, r2⟩ := hu.tup' rs.toLabOk
      have g1 : Rep T w.G w.φ (.ref p1) (.tup a) := by
        cases hv with
        | g h => exact h
      have g2 : Rep T w.G w.φ (.ref p2) (.tup b) := by
        cases hu with
        | g h => exact h
      refine .inr (.inr ⟨p1, p2, xs, ys, rfl, rfl, SqT.of h1, SqT.of h2, (by rw [r1.length, r2.length]; exact lenOk_le hz), fun n => ?_, fun n1 n2 => ?_, fun n1 n2 p hp => ?_⟩)
      · have : a = [] := r1.nil_iff.mp n
        subst this
        exact Stp.here rs q (Res.d (by rw [List.nil_append]; exact g2))
      · have : b = [] := r2.nil_iff.mp n2
        subst this
        exact Stp.here rs q (Res.d (by rw [List.append_nil]; exact g1))
      · obtain ⟨w2, e2, st2, rs2, r2⟩ := rs.newT hp (r1.append r2)
        rw [← e2]
        exact q _ w2 st2 rs2 (by rw [e2]; exact upd_gle hp) (Res.d r2)
    · cases e
  · simp only [Py.bop] at e
    split at e
    · rename_i hz
      cases e
      obtain ⟨p1, xs, rfl, h1, r1⟩ := hv.lst' rs.toLabOk
      obtain ⟨p2, ys, rfl, h2, r2⟩ := hu.lst' rs.toLabOk
      refine .inr (.inl ⟨p1, p2, xs, ys, rfl, rfl, h1, h2, (by rw [r1.length, r2.length]; exact lenOk_le hz), fun p hp => ?_⟩)
      obtain ⟨a1, a2⟩ := rs.alloc hp (.lst (xs ++ ys))
      exact q (.ref p) _ a1 a2 (upd_gle hp) (rs.newL hp (r1.append r2))
    · cases e
theorem os_sub : OpSim T (Py.bop .sub) rSub := by
  intro x y z e w σ s v u rs hv hu Q q
  cases x <;> cases y <;> first | (cases e; done) | skip
  simp only [Py.bop, Option.some.injEq] at e
  subst e
  rw [hv.int, hu.int]
  exact ⟨_, _, rfl, rfl, Stp.here rs q (Res.d (.int _))⟩
theorem os_fdiv : OpSim T (Py.bop .fdiv) rFdiv := by
  intro x y z e w σ s v u rs hv hu Q q
  cases x <;> cases y <;> first | (cases e; done) | skip
  simp only [Py.bop] at e
  split at e
  · rename_i h
    cases e
    simp only [Py.divOk, Bool.and_eq_true, decide_eq_true_eq] at h
    rw [hv.int, hu.int]
    exact ⟨_, _, rfl, rfl, ⟨h.1, lineB_log h.2⟩, Stp.here rs q (Res.d (.int _))⟩
  · cases e
theorem os_mod : OpSim T (Py.bop .mod) rMod := by
  intro x y z e w σ s v u rs hv hu Q q
  cases x <;> cases y <;> first | (cases e; done) | skip
  simp only [Py.bop] at e
  split at e
  · cases e
  · rename_i h
    cases e
    rw [hv.int, hu.int]
    exact ⟨_, _, rfl, rfl, h, Stp.here rs q (Res.d (.int _))⟩
theorem os_pow : OpSim T (Py.bop .pow) rPow := by
  intro x y z e w σ s v u rs hv hu Q q
  cases x <;> cases y <;> first | (cases e; done) | skip
  simp only [Py.bop] at e
  split at e
  · rename_i h
    cases e
    simp only [Bool.and_eq_true, decide_eq_true_eq] at h
    rw [hv.int, hu.int]
    exact ⟨_, _, rfl, rfl, ⟨h.1.1, Int.le_trans h.1.2 (by decide), h.2⟩, Stp.here rs q (Res.d (.int _))⟩
  · cases e
theorem os_mul : OpSim T (Py.bop .mul) (rMul T.K) := by
  intro x y z e w σ s v u rs hv hu Q q
  cases x <;> cases y <;> first | (cases e; done) | skip
  · simp only [Py.bop] at e
    split at e
    · rename_i h
      cases e
      simp only [Py.mulOk, Bool.and_eq_true, decide_eq_true_eq] at h
      rw [hv.int, hu.int]
      have h1 := lineA_log h.1
      have h2 := lineA_log h.2
      exact .inl ⟨_, _, rfl, rfl, Nat.lt_of_lt_of_le (Nat.add_lt_add h1 h2) (by decide), Stp.here rs q (Res.d (.int _))⟩
    · cases e
  · simp only [Py.bop] at e
    split at e
    · rename_i h
      cases e
      simp only [Bool.and_eq_true, decide_eq_true_eq, Bool.not_eq_true'] at h
      obtain ⟨p1, xs, rfl, h1, r1⟩ := hv.tup' rs.toLabOk
      rw [hu.int]
      refine .inr (.inr ⟨p1, _, xs, rfl, rfl, SqT.of h1, fun n => ?_, h.1.1.1, h.1.1.2, (by rw [r1.length]; exact h.1.2), fun p hp => ?_⟩)
      · have := r1.nil_iff.mp n
        rw [this] at h
        cases h.2
      · obtain ⟨w2, e2, st2, rs2, r2⟩ := rs.newT hp (r1.rep _)
        rw [← e2]
        exact q _ w2 st2 rs2 (by rw [e2]; exact upd_gle hp) (Res.d r2)
    · cases e
  · simp only [Py.bop] at e
    split at e
    · rename_i h
      cases e
      simp only [Bool.and_eq_true, decide_eq_true_eq, Bool.not_eq_true'] at h
      obtain ⟨p1, xs, rfl, h1, r1⟩ := hv.lst' rs.toLabOk
      rw [hu.int]
      have hk := lenOk_le h.1.2
      have hs : (sizeLine : Nat) = 16777216 := by decide
      refine .inr (.inl ⟨p1, _, xs, rfl, rfl, h1, ?_, ?_, (by rw [r1.length]; exact lenOk_le h.2), fun p hp => ?_⟩)
      · have := h.1.1
        omega
      · rw [hs] at hk
        omega
      · obtain ⟨a1, a2⟩ := rs.alloc hp (.lst (List.replicate _ xs).flatten)
        exact q (.ref p) _ a1 a2 (upd_gle hp) (rs.newL hp (r1.rep _))
    · cases e

/-! ### comparisons -/
def intCop (op : Py.Cop) (p : Int → Int → Bool) : Prop := (∀ i j, Py.cop op (.int i) (.int j) = some (p i j)) ∧ ∀ x y b, Py.cop op x y = some b → ∃ i j, x = .int i ∧ y = .int j
theorem os_int {op : Py.Cop} {p : Int → Int → Bool} (h : intCop op p) : OpSim T (copO op) (rI0 fun i j => .bl (p i j)) := by
  intro x y z e w σ s v u rs hv hu Q q
  unfold copO at e
  cases hc : Py.cop op x y with
  | none => rw [hc] at e; cases e
  | some b =>
    rw [hc] at e
    cases e
    obtain ⟨i, j, rfl, rfl⟩ := h.2 x y b hc
    rw [h.1 i j] at hc
    cases hc
    rw [hv.int, hu.int]
    exact ⟨_, _, rfl, rfl, Stp.here rs q (Res.d (.bl _))⟩
theorem ic_lt : intCop .lt fun i j => decide (i < j) := ⟨fun _ _ => rfl, fun x y b e => by
  cases x <;> cases y <;> first | (cases e; done) | exact ⟨_, _, rfl, rfl⟩⟩
theorem ic_le : intCop .le fun i j => decide (i ≤ j) := ⟨fun _ _ => rfl, fun x y b e => by
  cases x <;> cases y <;> first | (cases e; done) | exact ⟨_, _, rfl, rfl⟩⟩
theorem ic_gt : intCop .gt fun i j => decide (j < i) := ⟨fun _ _ => rfl, fun x y b e => by
  cases x <;> cases y <;> first | (cases e; done) | exact ⟨_, _, rfl, rfl⟩⟩
theorem ic_ge : intCop .ge fun i j => decide (j ≤ i) := ⟨fun _ _ => rfl, fun x y b e => by
  cases x <;> cases y <;> first | (cases e; done) | exact ⟨_, _, rfl, rfl⟩⟩
mutual
/-- as the library's data -/
def toPy : Py.D → PyData
  | .bl b => .bool b
  | .int i => .int i
  | .str s => .str ⟨s.toArray⟩
  | .tup l => .tuple (toPys l)
  | .lst l => .list (toPys l)
  | _ => .none
def toPys : List Py.D → List PyData
  | [] => []
  | x :: xs => toPy x :: toPys xs
end
mutual
theorem plain_lay : ∀ {d : Py.D}, d.plain = true → (toPy d).canLay0 = true
  | .non, _ => rfl
  | .bl _, _ => rfl
  | .int _, _ => rfl
  | .str s, h => by
    simp only [Py.D.plain, Bool.and_eq_true, decide_eq_true_eq] at h
    have h2 := h.2
    simp only [toPy, PyData.canLay0, PyData.strOk]
    simpa using h2
  | .tup l, h => by
    rw [Py.D.plain] at h
    rw [toPy, PyData.canLay0]
    exact plains_lay h
  | .lst l, h => by
    rw [Py.D.plain] at h
    rw [toPy, PyData.canLay0]
    exact plains_lay h
  | .ty _, h => by cases h
  | .dic _, h => by cases h
  | .ins _ _, h => by cases h
  | .fn _, h => by cases h
  | .cls _, h => by cases h
  | .cell _, h => by cases h
  | .scr _, h => by cases h
theorem plains_lay : ∀ {d : List Py.D}, Py.D.plains d = true → PyData.canLayAll0 (toPys d) = true
  | [], _ => rfl
  | x :: xs, h => by
    rw [Py.D.plains, Bool.and_eq_true] at h
    rw [toPys, PyData.canLayAll0, plain_lay h.1, plains_lay h.2]
    rfl
end
mutual
theorem py_depth : ∀ (d : Py.D), (toPy d).depth = d.depth
  | .non => rfl
  | .bl _ => rfl
  | .int _ => rfl
  | .str _ => rfl
  | .ty _ => rfl
  | .dic _ => rfl
  | .ins _ _ => rfl
  | .fn _ => rfl
  | .cls _ => rfl
  | .cell _ => rfl
  | .scr _ => rfl
  | .tup l => by rw [toPy, PyData.depth, Py.D.depth, pys_depth]
  | .lst l => by rw [toPy, PyData.depth, Py.D.depth, pys_depth]
theorem pys_depth : ∀ (d : List Py.D), PyData.depthAll (toPys d) = Py.D.depths d
  | [] => rfl
  | x :: xs => by rw [toPys, PyData.depthAll, Py.D.depths, py_depth, pys_depth]
end
mutual
theorem py_eqv : ∀ (x y : Py.D), x.plain = true → y.plain = true → PyData.eqv (toPy x) (toPy y) = Py.D.eqv x y
  | x, y, hx, hy => by
    cases x <;> cases y <;> first
      | (cases hx; done)
      | (cases hy; done)
      | (simp only [toPy, PyData.eqv, Py.D.eqv]; done)
      | skip
    · simp only [toPy, PyData.eqv, Py.D.eqv]
      rename_i a b
      by_cases e : a = b
      · rw [e, beq_self_eq_true, beq_self_eq_true]
      · rw [beq_eq_false_iff_ne.mpr e]
        refine beq_eq_false_iff_ne.mpr fun z => e ?_
        have := congrArg (fun (x : Str) => x.cps.toList) z
        simpa using this
    · simp only [toPy, PyData.eqv, Py.D.eqv]
      exact pys_eqv _ _ (by rwa [Py.D.plain] at hx) (by rwa [Py.D.plain] at hy)
    · simp only [toPy, PyData.eqv, Py.D.eqv]
      exact pys_eqv _ _ (by rwa [Py.D.plain] at hx) (by rwa [Py.D.plain] at hy)
theorem pys_eqv : ∀ (x y : List Py.D), Py.D.plains x = true → Py.D.plains y = true → PyData.eqvAll (toPys x) (toPys y) = Py.D.eqvs x y
  | [], [], _, _ => rfl
  | [], _ :: _, _, _ => rfl
  | _ :: _, [], _, _ => rfl
  | x :: xs, y :: ys, hx, hy => by
    rw [Py.D.plains, Bool.and_eq_true] at hx hy
    rw [toPys, toPys, PyData.eqvAll, Py.D.eqvs, py_eqv x y hx.1 hy.1, pys_eqv xs ys hx.2 hy.2]
end
end
end PyS
end

section
set_option Elab.async false
set_option linter.all false
set_option maxRecDepth 100000
set_option maxHeartbeats 2000000
/-! S5: ==, in, is; items and slices. -/
namespace PyS
open PySem L2
variable {T : Tb}
/-! ### data as the library's deep data -/
mutual
theorem Rep.dp {G H : Hp} {φ : List Addr} {K : PySem.W.Frag} (g : GLe G H) : ∀ {v : V} {d : Py.D}, Rep T G φ v d → d.plain = true → Dp K H v (toPy d)
  | _, _, .non, _ => .non
  | _, _, .bl b, _ => .bl b
  | _, _, .int i, _ => .int i
  | _, _, .str s, _ => .str _
  | _, _, .tup h r, p => by
    rw [toPy]
    exact .tup (SqT.of (g _ _ h)) (r.dps g (by rwa [Py.D.plain] at p))
  | _, _, .lst h r, p => by
    rw [toPy]
    exact .lst (SqL.of (g _ _ h)) (r.dps g (by rwa [Py.D.plain] at p))
  | _, _, .ty _, p => by cases p
  | _, _, .dic _ _, p => by cases p
  | _, _, .ins _ _ _, p => by cases p
  | _, _, .fn _, p => by cases p
  | _, _, .cls _, p => by cases p
  | _, _, .cell _, p => by cases p
  | _, _, .scr _ _, p => by cases p
theorem Reps.dps {G H : Hp} {φ : List Addr} {K : PySem.W.Frag} (g : GLe G H) : ∀ {v : List V} {d : List Py.D}, Reps T G φ v d → Py.D.plains d = true → DpAll K H v (toPys d)
  | _, _, .nil, _ => .nil
  | _, _, .cons a b, p => by
    rw [Py.D.plains, Bool.and_eq_true] at p
    rw [toPys]
    exact .cons (a.dp g p.1) (b.dps g p.2)
end
theorem At.dp {w : Wd} {K : PySem.W.Frag} (k : LabOk w) {v : V} {d : Py.D} (h : At T w v d) (p : d.plain = true) : Dp K w.H v (toPy d) := by
  cases h with
  | g h => exact h.dp k.gh p
  | lst a b =>
    rw [toPy]
    exact .lst (SqL.of a) (b.dps k.gh (by rwa [Py.D.plain] at p))
  | dic a b => cases p
theorem shaped_of {d : Py.D} (p : d.plain = true) (h : d.depth ≤ 64) : SeqAt.shaped (toPy d) = true := by
  unfold SeqAt.shaped
  rw [plain_lay p, py_depth]
  simpa using h
theorem os_eq : OpSim T (copO .eq) (rEqD T.K) := by
  intro x y z e w σ s v u rs hv hu Q q
  unfold copO at e
  simp only [Py.cop] at e
  split at e
  · rename_i h
    cases e
    simp only [Py.eqOk, Bool.and_eq_true, decide_eq_true_eq] at h
    refine ⟨_, _, hv.dp rs.toLabOk h.1.1.1, hu.dp rs.toLabOk h.1.1.2, shaped_of h.1.1.1 h.1.2, shaped_of h.1.1.2 h.2, ?_⟩
    rw [py_eqv _ _ h.1.1.1 h.1.1.2]
    exact Stp.here rs q (Res.d (.bl _))
  · cases e
theorem os_ne : OpSim T (copO .ne) (rNeD T.K) := by
  intro x y z e w σ s v u rs hv hu Q q
  unfold copO at e
  simp only [Py.cop] at e
  split at e
  · rename_i h
    cases e
    simp only [Py.eqOk, Bool.and_eq_true, decide_eq_true_eq] at h
    refine ⟨_, _, hv.dp rs.toLabOk h.1.1.1, hu.dp rs.toLabOk h.1.1.2, shaped_of h.1.1.1 h.1.2, shaped_of h.1.1.2 h.2, ?_⟩
    rw [py_eqv _ _ h.1.1.1 h.1.1.2]
    exact Stp.here rs q (Res.d (.bl _))
  · cases e

/-! ### in -/
theorem Rep.flatV {G : Hp} {φ : List Addr} {v : V} {d : Py.D} (h : Rep T G φ v d) (f : d.flat = true) : flatV v = true := by
  cases h <;> first | rfl | cases f
theorem Reps.flatVs : ∀ {G : Hp} {φ : List Addr} {v : List V} {d : List Py.D}, Reps T G φ v d → d.all Py.D.flat = true → v.all L2.flatV = true
  | _, _, _, _, .nil, _ => rfl
  | _, _, _, _, .cons a b, f => by
    rw [List.all_cons, Bool.and_eq_true] at f
    rw [List.all_cons, a.flatV f.1, b.flatVs f.2]
    rfl
theorem str_beq (a b : List Nat) : ((⟨a.toArray⟩ : Str) == ⟨b.toArray⟩) = (a == b) := by
  by_cases e : a = b
  · subst e
    rw [beq_self_eq_true, beq_self_eq_true]
  · rw [beq_eq_false_iff_ne.mpr e]
    refine beq_eq_false_iff_ne.mpr fun z => e ?_
    have := congrArg (fun (x : Str) => x.cps.toList) z
    simpa using this
theorem Rep.eqV {G G' : Hp} {φ φ' : List Addr} {v u : V} {d e : Py.D} (h : Rep T G φ v d) (k : Rep T G' φ' u e) (f : d.flat = true) (f' : e.flat = true) : eqV v u = Py.D.eqv d e := by
  cases h <;> first
    | (cases f; done)
    | (cases k <;> first | (cases f'; done) | rfl | (simp only [L2.eqV, Py.D.eqv]; done) | (simp only [L2.eqV, Py.D.eqv, str_beq]; done))
theorem Reps.inV {G : Hp} {φ : List Addr} {u : V} {e : Py.D} (k : Rep T G φ u e) (f' : e.flat = true) : ∀ {vs : List V} {ds : List Py.D}, Reps T G φ vs ds → ds.all Py.D.flat = true → L2.inV u vs = ds.any fun y => Py.D.eqv y e
  | _, _, .nil, _ => rfl
  | _, _, .cons a b, f => by
    rw [List.all_cons, Bool.and_eq_true] at f
    have := b.inV k f' f.2
    unfold L2.inV at this ⊢
    rw [List.any_cons, List.any_cons, a.eqV k f.1 f', this]
theorem At.flat {w : Wd} {v : V} {d : Py.D} (h : At T w v d) (f : d.flat = true) : Rep T w.G w.φ v d := by
  cases h with
  | g h => exact h
  | lst a b => cases f
  | dic a b => cases f
def keyD : Py.D → Option Key
  | .int i => some (.inl i)
  | .str s => some (.inr ⟨s.toArray⟩)
  | _ => none
theorem keyD_k : ∀ k : Key, keyD (kD k) = some k
  | .inl _ => rfl
  | .inr x => by
    show some (Sum.inr (⟨x.cps.toList.toArray⟩ : Str)) = _
    rw [Array.toArray_toList]
theorem Rep.key {G : Hp} {φ : List Addr} {v : V} {d : Py.D} (h : Rep T G φ v d) (f : Py.keyOf d = true) : ∃ k, d = kD k ∧ v = kV k := by
  cases h <;> first
    | (cases f; done)
    | exact ⟨.inl _, rfl, rfl⟩
    | exact ⟨.inr ⟨_⟩, by rfl, rfl⟩
theorem kD_eqv (k k' : Key) : Py.D.eqv (kD k) (kD k') = decide (k = k') := by
  cases k with
  | inl i =>
    cases k' with
    | inl j =>
      show (i == j) = _
      by_cases e : i = j
      · subst e; simp
      · rw [beq_eq_false_iff_ne.mpr e, decide_eq_false (fun z => e (Sum.inl.inj z))]
    | inr y => exact (decide_eq_false (fun z => nomatch z)).symm
  | inr x =>
    cases k' with
    | inl j => exact (decide_eq_false (fun z => nomatch z)).symm
    | inr y =>
      show (x.cps.toList == y.cps.toList) = _
      by_cases e : x = y
      · subst e; simp
      · rw [decide_eq_false (fun z => e (Sum.inr.inj z))]
        refine beq_eq_false_iff_ne.mpr fun z => e ?_
        cases x
        cases y
        simpa using z
theorem RepK.get {G : Hp} {φ : List Addr} : ∀ {kvs : List (Key × V)} {l : List (Py.D × Py.D)} (k : Key), RepK T G φ kvs l → (Py.dget (kD k) l = none ∧ valV kvs k = none) ∨ ∃ d v, Py.dget (kD k) l = some d ∧ valV kvs k = some v ∧ Rep T G φ v d
  | _, _, _, .nil => .inl ⟨rfl, rfl⟩
  | _, _, k, @RepK.cons _ _ _ k' v' vs d' ds a b => by
    rw [Py.dget, kD_eqv]
    by_cases e : k' = k
    · rw [if_pos (by simpa using e)]
      refine .inr ⟨_, v', rfl, ?_, a⟩
      exact valV_pos (p := (k', v')) e
    · rw [if_neg (by simpa using e), valV_neg (p := (k', v')) e]
      exact b.get k
theorem At.dic' {w : Wd} {v : V} {ds : List (Py.D × Py.D)} (k : LabOk w) (h : At T w v (.dic ds)) : ∃ a xs, v = .ref a ∧ w.H a = some (.dK xs) ∧ RepK T w.G w.φ xs ds := by
  cases h with
  | g h =>
    cases h with
    | dic a b => exact ⟨_, _, rfl, k.gh _ _ a, b⟩
  | dic a b => exact ⟨_, _, rfl, a, b⟩
def rInDc : R2 := fun y x H Q => ∃ a o, x = .ref a ∧ DGet H a y o ∧ Q (.bl o.isSome) H
def rNotInDc : R2 := fun y x H Q => ∃ a o, x = .ref a ∧ DGet H a y o ∧ Q (.bl (!o.isSome)) H
def rInA (K : PySem.W.Frag) : R2 := fun x y H Q => rIn K false x y H Q ∨ rInDc x y H Q
def rNotInA (K : PySem.W.Frag) : R2 := fun x y H Q => rIn K true x y H Q ∨ rNotInDc x y H Q
section
variable {X : Cx}
theorem op_inDc (hu : X.A.units + 1 < cLine) : OpR X (compareOp .In) rInDc := by
  intro pins s σ H x y v u Q I rx ry h
  obtain ⟨a, o, rfl, g, q⟩ := h
  cases (show u = Value.ref a from ry)
  exact d_in hu I g rx fun s' I' => ⟨.bl _, H, I', rfl, q⟩
theorem op_notInDc (hu : X.A.units + 1 < cLine) : OpR X (compareOp .NotIn) rNotInDc := by
  intro pins s σ H x y v u Q I rx ry h
  obtain ⟨a, o, rfl, g, q⟩ := h
  cases (show u = Value.ref a from ry)
  exact d_notIn hu I g rx fun s' I' => ⟨.bl _, H, I', rfl, q⟩
theorem op_inA (hu : X.A.units + 1 < cLine) : OpR X (compareOp .In) (rInA X.K) := OpR.or op_in_seq (op_inDc hu)
theorem op_notInA (hu : X.A.units + 1 < cLine) : OpR X (compareOp .NotIn) (rNotInA X.K) := OpR.or op_notIn_seq (op_notInDc hu)
def rIsA : R2 := fun x y H Q => (y = .non ∧ Q (.bl (decide (x = .non))) H) ∨ rIsB x y H Q
def rIsNotA : R2 := fun x y H Q => (y = .non ∧ Q (.bl (!decide (x = .non))) H) ∨ rNotB x y H Q
theorem op_isA : OpR X (compareOp .Is) rIsA := OpR.or op_isN op_isBl
theorem op_isNotA : OpR X (compareOp .IsNot) rIsNotA := OpR.or op_notN op_notBl
end
theorem os_in : OpSim T (copO .isin) (rInA T.K) := by
  intro x y z e w σ s v u rs hv hu Q q
  unfold copO at e
  cases y <;> simp only [Py.cop, Option.map_none] at e <;> first | (cases e; done) | skip
  · split at e
    · rename_i h
      cases e
      rw [Bool.and_eq_true] at h
      obtain ⟨p, xs, rfl, h1, r1⟩ := hu.tup' rs.toLabOk
      have k := hv.flat h.1
      refine .inl ⟨p, xs, rfl, .inr (SqT.of h1), k.flatV h.1, r1.flatVs h.2, ?_⟩
      rw [if_neg (by decide), r1.inV k h.1 h.2]
      exact Stp.here rs q (Res.d (.bl _))
    · cases e
  · split at e
    · rename_i h
      cases e
      rw [Bool.and_eq_true] at h
      obtain ⟨p, xs, rfl, h1, r1⟩ := hu.lst' rs.toLabOk
      have k := hv.flat h.1
      refine .inl ⟨p, xs, rfl, .inl (SqL.of h1), k.flatV h.1, r1.flatVs h.2, ?_⟩
      rw [if_neg (by decide), r1.inV k h.1 h.2]
      exact Stp.here rs q (Res.d (.bl _))
    · cases e
  · split at e
    · rename_i h
      cases e
      obtain ⟨p, xs, rfl, h1, r1⟩ := hu.dic' rs.toLabOk
      have hf : x.flat = true := by
        cases x <;> first | rfl | cases h
      obtain ⟨k, rfl, rfl⟩ := (hv.flat hf).key h
      refine .inr ⟨p, _, rfl, DGet.k h1, ?_⟩
      rcases r1.get k with ⟨a, b⟩ | ⟨d, v, a, b, _⟩
      · rw [b]
        rw [a] at q
        exact Stp.here rs q (Res.d (.bl _))
      · rw [b]
        rw [a] at q
        exact Stp.here rs q (Res.d (.bl _))
    · cases e
theorem os_notin : OpSim T (copO .notin) (rNotInA T.K) := by
  intro x y z e w σ s v u rs hv hu Q q
  unfold copO at e
  cases y <;> simp only [Py.cop, Option.map_none] at e <;> first | (cases e; done) | skip
  · split at e
    · rename_i h
      cases e
      rw [Bool.and_eq_true] at h
      obtain ⟨p, xs, rfl, h1, r1⟩ := hu.tup' rs.toLabOk
      have k := hv.flat h.1
      refine .inl ⟨p, xs, rfl, .inr (SqT.of h1), k.flatV h.1, r1.flatVs h.2, ?_⟩
      rw [if_pos rfl, r1.inV k h.1 h.2]
      exact Stp.here rs q (Res.d (.bl _))
    · cases e
  · split at e
    · rename_i h
      cases e
      rw [Bool.and_eq_true] at h
      obtain ⟨p, xs, rfl, h1, r1⟩ := hu.lst' rs.toLabOk
      have k := hv.flat h.1
      refine .inl ⟨p, xs, rfl, .inl (SqL.of h1), k.flatV h.1, r1.flatVs h.2, ?_⟩
      rw [if_pos rfl, r1.inV k h.1 h.2]
      exact Stp.here rs q (Res.d (.bl _))
    · cases e
  · split at e
    · rename_i h
      cases e
      obtain ⟨p, xs, rfl, h1, r1⟩ := hu.dic' rs.toLabOk
      have hf : x.flat = true := by
        cases x <;> first | rfl | cases h
      obtain ⟨k, rfl, rfl⟩ := (hv.flat hf).key h
      refine .inr ⟨p, _, rfl, DGet.k h1, ?_⟩
      rcases r1.get k with ⟨a, b⟩ | ⟨d, v, a, b, _⟩
      · rw [b]
        rw [a] at q
        exact Stp.here rs q (Res.d (.bl _))
      · rw [b]
        rw [a] at q
        exact Stp.here rs q (Res.d (.bl _))
    · cases e
theorem At.non_iff {w : Wd} {v : V} {d : Py.D} (h : At T w v d) : v = .non ↔ d = .non := by
  cases h with
  | g h => cases h <;> first | exact ⟨fun _ => rfl, fun _ => rfl⟩ | exact ⟨fun z => (nomatch z), fun z => (nomatch z)⟩
  | lst a b => exact ⟨fun z => (nomatch z), fun z => (nomatch z)⟩
  | dic a b => exact ⟨fun z => (nomatch z), fun z => (nomatch z)⟩
theorem os_is : OpSim T (copO .is) rIsA := by
  intro x y z e w σ s v u rs hv hu Q q
  unfold copO at e
  by_cases hy : y = .non
  · subst hy
    refine .inl ⟨hu.non_iff.mpr rfl, ?_⟩
    by_cases hx : x = .non
    · subst hx
      cases e
      rw [decide_eq_true (hv.non_iff.mpr rfl)]
      exact Stp.here rs q (Res.d (.bl _))
    · rw [decide_eq_false (fun z => hx (hv.non_iff.mp z))]
      have : Py.cop .is x .non = some false := by
        cases x <;> first | rfl | exact absurd rfl hx
      rw [this] at e
      cases e
      exact Stp.here rs q (Res.d (.bl _))
  · cases y <;> first | exact absurd rfl hy | (cases x <;> cases e <;> done) | skip
    rename_i b
    cases x <;> first | (cases e; done) | skip
    rename_i a
    cases e
    rw [hv.bl, hu.bl]
    refine .inr ⟨a, b, rfl, rfl, ?_⟩
    have : decide (a = b) = (a == b) := by cases a <;> cases b <;> rfl
    rw [this]
    exact Stp.here rs q (Res.d (.bl _))
theorem os_isnot : OpSim T (copO .isnot) rIsNotA := by
  intro x y z e w σ s v u rs hv hu Q q
  unfold copO at e
  by_cases hy : y = .non
  · subst hy
    refine .inl ⟨hu.non_iff.mpr rfl, ?_⟩
    by_cases hx : x = .non
    · subst hx
      cases e
      rw [decide_eq_true (hv.non_iff.mpr rfl)]
      exact Stp.here rs q (Res.d (.bl _))
    · rw [decide_eq_false (fun z => hx (hv.non_iff.mp z))]
      have : Py.cop .isnot x .non = some true := by
        cases x <;> first | rfl | exact absurd rfl hx
      rw [this] at e
      cases e
      exact Stp.here rs q (Res.d (.bl _))
  · cases y <;> first | exact absurd rfl hy | (cases x <;> cases e <;> done) | skip
    rename_i b
    cases x <;> first | (cases e; done) | skip
    rename_i a
    cases e
    rw [hv.bl, hu.bl]
    refine .inr ⟨a, b, rfl, rfl, ?_⟩
    have : decide (a = b) = (a == b) := by cases a <;> cases b <;> rfl
    rw [this]
    exact Stp.here rs q (Res.d (.bl _))
end PyS
end

section
set_option Elab.async false
set_option linter.all false
set_option maxRecDepth 100000
set_option maxHeartbeats 2000000
/-! S6: built-ins. -/
namespace PyS
open PySem L2
variable {T : Tb}
inductive Ats (T : Tb) (w : Wd) : List V → List Py.D → Prop
  | nil : Ats T w [] []
  | cons {v : V} {vs : List V} {d : Py.D} {ds : List Py.D} : At T w v d → Ats T w vs ds → Ats T w (v :: vs) (d :: ds)
def SimVs (T : Tb) (c : Py.Cx) (X : Cx) (es : List Expr) (Es : List Py.E) : Prop :=
  ∀ (w : Wd) (σ : L2.St) (s : Py.St) (ds : List Py.D) (s' : Py.St), RS T w σ s → Py.evVs c Es s = some (ds, s') →
    ∀ Q : List V → Hp → Prop, (∀ vs w', Stp w w' → RS T w' σ s' → (Py.E.quiet.go Es = true → GLe w.H w'.H) → Ats T w' vs ds → Q vs w'.H) → WA X es σ w.H Q
section
variable {c : Py.Cx} {X : Cx}
theorem simv_nil : SimVs T c X [] [] := by
  intro w σ s ds s' rs e Q q
  simp only [Py.evVs, Option.some.injEq, Prod.mk.injEq] at e
  obtain ⟨rfl, rfl⟩ := e
  exact WA.of pa_nil (q [] w (Stp.refl _) rs (fun _ => GLe.refl _) .nil)
theorem simv_cons {e : Expr} {es : List Expr} {E : Py.E} {Es : List Py.E} (n : notStar e = true) (h : SimE T c X e E) (hs : SimVs T c X es Es) : SimVs T c X (e :: es) (E :: Es) := by
  intro w σ s ds s' rs ev Q q
  simp only [Py.evVs] at ev
  split at ev
  · rename_i o s1 e1
    split at ev
    · rename_i hk
      split at ev
      · rename_i ds2 s2 e2
        cases e3 : o.flat with
        | none => rw [e3] at ev; cases ev
        | some d =>
          rw [e3] at ev
          simp only [Option.map_some, Option.some.injEq, Prod.mk.injEq] at ev
          obtain ⟨rfl, rfl⟩ := ev
          refine WA.of (pa_cons pe_self pa_self (starEach_not n es X.env)) ?_
          refine h true w σ s o s1 rs e1 _ fun v w1 st1 rs1 q1 p1 => ?_
          refine hs w1 σ s1 ds2 s2 rs1 e2 _ fun vs w2 st2 rs2 q2 r2 => ?_
          have hk' : o.isD = true ∨ GLe w1.H w2.H ∨ E.place = false := by
            rw [Bool.or_eq_true, Bool.or_eq_true] at hk
            rcases hk with (hk | hk) | hk
            · exact .inl hk
            · exact .inr (.inl (q2 hk))
            · refine .inr (.inr ?_)
              cases z : E.place with
              | false => rfl
              | true => rw [z] at hk; cases hk
          refine q (v :: vs) w2 (st1.trans st2) rs2 (fun qq => ?_) (.cons ((p1.keep st2 hk').at e3) r2)
          obtain ⟨qa, qb⟩ := quiet_go_cons qq
          exact (q1 qa).trans (q2 qb)
      · cases ev
    · cases ev
  · cases ev
/-- what a call's rule gives for a built-in -/
def BiSim (T : Tb) (b : Py.Bi) (r : List V → Hp → VK → Prop) : Prop := ∀ (ds : List Py.D) (z : Py.O), Py.bi b ds = some z → ∀ (w : Wd) (σ : L2.St) (s : Py.St) (vs : List V), RS T w σ s → Ats T w vs ds →
  ∀ Q : VK, (∀ v' w', Stp w w' → RS T w' σ s → GLe w.H w'.H → Res T w w' v' z → Q v' w'.H) → r vs w.H Q
theorem sim_bi {e : Expr} {es : List Expr} {E : Py.E} {Es : List Py.E} {b : Py.Bi} {r : List V → Hp → VK → Prop} {f : Expr} {pos : Pos} (p : PE X (.Call f (e :: es) [] pos) (tCB r (WA X (e :: es)))) (hb : BiSim T b r) (hs : SimVs T c X (e :: es) Es) :
    SimE T c X (.Call f (e :: es) [] pos) (.bi b Es) := by
  intro m w σ s o s' rs ev Q q
  simp only [Py.ev] at ev
  split at ev
  · rename_i ds s1 e1
    cases e2 : Py.bi b ds with
    | none => rw [e2] at ev; cases ev
    | some z =>
      rw [e2] at ev
      simp only [Option.map_some, Option.some.injEq, Prod.mk.injEq] at ev
      obtain ⟨rfl, rfl⟩ := ev
      refine WE.of p ?_
      refine hs w σ s ds s1 rs e1 _ fun vs w1 st1 rs1 q1 r1 => ?_
      refine hb ds z e2 w1 σ s1 vs rs1 r1 Q fun v' w2 st2 rs2 g2 r2 => ?_
      exact q v' w2 (st1.trans st2) rs2 (fun qq => (q1 (by simpa only [Py.E.quiet] using qq)).trans g2) (PO.of (r2.from st1))
  · cases ev
theorem Ats.one {w : Wd} {vs : List V} {d : Py.D} (h : Ats T w vs [d]) : ∃ v, vs = [v] ∧ At T w v d := by
  cases h with
  | cons a b =>
    cases b
    exact ⟨_, rfl, a⟩
theorem Ats.two {w : Wd} {vs : List V} {d e : Py.D} (h : Ats T w vs [d, e]) : ∃ v u, vs = [v, u] ∧ At T w v d ∧ At T w u e := by
  cases h with
  | cons a b =>
    obtain ⟨u, rfl, h⟩ := b.one
    exact ⟨_, u, rfl, a, h⟩
theorem At.scr' {w : Wd} {v : V} {ds : List Py.D} (k : LabOk w) (h : At T w v (.scr ds)) : ∃ a xs, v = .ref a ∧ SqL T.K w.H a xs ∧ Reps T w.G w.φ xs ds := by
  cases h with
  | g h =>
    cases h with
    | scr a b => exact ⟨_, _, rfl, (show GLe w.G w.H from k.gh).sqL a, b⟩
abbrev CR1 := List V → Hp → VK → Prop
def rLenA (K : PySem.W.Frag) : CR1 := fun xs H Q => ∃ p ys, xs = [.ref p] ∧ (SqL K H p ys ∨ SqT K H p ys) ∧ Q (.int ys.length) H
theorem cb_len : CallR X (.builtin "len") (rLenA X.K) := call_len_seq
theorem bs_len : BiSim T .len (rLenA T.K) := by
  intro ds z e w σ s vs rs h Q q
  match ds, e with
  | [.lst l], e =>
    cases e
    obtain ⟨v, rfl, hv⟩ := h.one
    obtain ⟨a, xs, rfl, h1, r1⟩ := hv.lst' rs.toLabOk
    exact ⟨a, xs, rfl, .inl (SqL.of h1), by rw [r1.length]; exact Stp.here rs q (Res.d (.int _))⟩
  | [.tup l], e =>
    cases e
    obtain ⟨v, rfl, hv⟩ := h.one
    obtain ⟨a, xs, rfl, h1, r1⟩ := hv.tup' rs.toLabOk
    exact ⟨a, xs, rfl, .inr (SqT.of h1), by rw [r1.length]; exact Stp.here rs q (Res.d (.int _))⟩
  | [.scr l], e =>
    cases e
    obtain ⟨v, rfl, hv⟩ := h.one
    obtain ⟨a, xs, rfl, h1, r1⟩ := hv.scr' rs.toLabOk
    exact ⟨a, xs, rfl, .inl h1, by rw [r1.length]; exact Stp.here rs q (Res.d (.int _))⟩
def rAbs : CR1 := fun xs H Q => ∃ i, xs = [.int i] ∧ Q (.int (if i < 0 then -i else i)) H
theorem cb_abs : CallR X (.builtin "abs") rAbs := call_abs
theorem bs_abs : BiSim T .abs rAbs := by
  intro ds z e w σ s vs rs h Q q
  match ds, e with
  | [.int i], e =>
    cases e
    obtain ⟨v, rfl, hv⟩ := h.one
    rw [hv.int]
    refine ⟨i, rfl, ?_⟩
    have : (if i < 0 then -i else i) = (i.natAbs : Int) := by split <;> omega
    rw [this]
    exact Stp.here rs q (Res.d (.int _))
def rInt : CR1 := fun xs H Q => (∃ i, xs = [.int i] ∧ Q (.int i) H) ∨ ∃ k, xs = [.bl k] ∧ Q (.int (if k then 1 else 0)) H
theorem cb_int : CallR X (.type "int") rInt := call_int1
theorem bs_int : BiSim T .int rInt := by
  intro ds z e w σ s vs rs h Q q
  match ds, e with
  | [.int i], e =>
    cases e
    obtain ⟨v, rfl, hv⟩ := h.one
    rw [hv.int]
    exact .inl ⟨i, rfl, Stp.here rs q (Res.d (.int _))⟩
  | [.bl i], e =>
    cases e
    obtain ⟨v, rfl, hv⟩ := h.one
    rw [hv.bl]
    exact .inr ⟨i, rfl, Stp.here rs q (Res.d (.int _))⟩
def rListA (K : PySem.W.Frag) : CR1 := fun xs H Q => ∃ p ys, xs = [.ref p] ∧ (SqL K H p ys ∨ SqT K H p ys) ∧ ∀ l, H l = none → Q (.ref l) (upd H l (.lst ys))
theorem cb_list : CallR X (.type "list") (rListA X.K) := call_list_of
theorem bs_list : BiSim T .list (rListA T.K) := by
  intro ds z e w σ s vs rs h Q q
  have fin : ∀ (xs : List V) (l : List Py.D), Reps T w.G w.φ xs l → (∀ v' w', Stp w w' → RS T w' σ s → GLe w.H w'.H → Res T w w' v' (.lst (l.map .d)) → Q v' w'.H) → ∀ p, w.H p = none → Q (.ref p) (upd w.H p (.lst xs)) := fun xs l r q p hp => by
    obtain ⟨a1, a2⟩ := rs.alloc hp (.lst xs)
    exact q (.ref p) _ a1 a2 (upd_gle hp) (rs.newL hp r)
  match ds, e with
  | [.lst l], e =>
    cases e
    obtain ⟨v, rfl, hv⟩ := h.one
    obtain ⟨a, xs, rfl, h1, r1⟩ := hv.lst' rs.toLabOk
    exact ⟨a, xs, rfl, .inl (SqL.of h1), fin xs l r1 q⟩
  | [.tup l], e =>
    cases e
    obtain ⟨v, rfl, hv⟩ := h.one
    obtain ⟨a, xs, rfl, h1, r1⟩ := hv.tup' rs.toLabOk
    exact ⟨a, xs, rfl, .inr (SqT.of h1), fin xs l r1 q⟩
def rTupleA (K : PySem.W.Frag) : CR1 := fun xs H Q => ∃ p ys, xs = [.ref p] ∧ ((SqL K H p ys ∧ ∀ l, H l = none → Q (.ref l) (upd H l (.tup ys))) ∨ (SqT K H p ys ∧ Q (.ref p) H))
theorem cb_tuple : CallR X (.type "tuple") (rTupleA X.K) := call_tuple_of
theorem bs_tuple : BiSim T .tuple (rTupleA T.K) := by
  intro ds z e w σ s vs rs h Q q
  match ds, e with
  | [.lst l], e =>
    cases e
    obtain ⟨v, rfl, hv⟩ := h.one
    obtain ⟨a, xs, rfl, h1, r1⟩ := hv.lst' rs.toLabOk
    refine ⟨a, xs, rfl, .inl ⟨SqL.of h1, fun p hp => ?_⟩⟩
    obtain ⟨w2, h2, st2, rs2, r2⟩ := rs.newT hp r1
    rw [← h2]
    exact q _ w2 st2 rs2 (by rw [h2]; exact upd_gle hp) (Res.d r2)
  | [.tup l], e =>
    cases e
    obtain ⟨v, rfl, hv⟩ := h.one
    have g1 : Rep T w.G w.φ v (.tup l) := by
      cases hv with
      | g h => exact h
    obtain ⟨a, xs, rfl, h1, r1⟩ := hv.tup' rs.toLabOk
    exact ⟨a, xs, rfl, .inr ⟨SqT.of h1, Stp.here rs q (Res.d g1)⟩⟩
end
end PyS
namespace PyS
open PySem PySem.Spec PyProof.Rows L2
variable {T : Tb}
section
variable {c : Py.Cx} {X : Cx}
/-! ### sum, all, any, min -/
def rSumT : CR1 := fun vs H Q => ∃ (a : Addr) (ns : List Int), vs = [V.ref a] ∧ H a = some (.tup (ns.map V.int)) ∧ Q (.int ns.sum) H
theorem cb_sumT (hc : X.calm = true) : CallR X (.builtin "sum") rSumT := by
  intro pins s σ H vs us Q I r h
  obtain ⟨a, ns, rfl, hs, q⟩ := h
  obtain ⟨_, its, rv, ht⟩ := (show ObjOk X.prog X.w H s.heap a (.tup (ns.map V.int)) from I.hok a _ hs)
  rw [Vals.ref1 r]
  have hi := rv.ints
  obtain ⟨xs, e⟩ := hi.allInts.items
  have hn : numsOf (intItems xs).toList = ns := by rw [← e]; exact hi.numsOf
  rw [nums_intItems] at hn
  rw [e] at ht
  refine PySem.W.ktm_sumG (I.ok.hd hc) ht fun h' tk t' hk => ?_
  rw [preSum_eq, List.take_of_length_le (by simp), hn]
  exact ⟨.int _, H, I.kept hk, ⟨_, rfl⟩, q⟩
def rSumA (K : PySem.W.Frag) : CR1 := fun vs H Q => rSum K vs H Q ∨ rSumT vs H Q
theorem cb_sum (hc : X.calm = true) : CallR X (.builtin "sum") (rSumA X.K) := CallR.or (cr_sum hc) (cb_sumT hc)
theorem bs_sum : BiSim T .sum (rSumA T.K) := by
  intro ds z e w σ s vs rs h Q q
  match ds, e with
  | [.lst l], e =>
    simp only [Py.bi] at e
    cases e2 : Py.intsD l with
    | none => rw [e2] at e; cases e
    | some ns =>
      rw [e2] at e
      cases e
      obtain ⟨v, rfl, hv⟩ := h.one
      obtain ⟨a, xs, rfl, h1, r1⟩ := hv.lst' rs.toLabOk
      rw [r1.intsD e2] at h1
      exact .inl ⟨a, ns, rfl, SqL.of h1, Stp.here rs q (Res.d (.int _))⟩
  | [.tup l], e =>
    simp only [Py.bi] at e
    cases e2 : Py.intsD l with
    | none => rw [e2] at e; cases e
    | some ns =>
      rw [e2] at e
      cases e
      obtain ⟨v, rfl, hv⟩ := h.one
      obtain ⟨a, xs, rfl, h1, r1⟩ := hv.tup' rs.toLabOk
      rw [r1.intsD e2] at h1
      exact .inr ⟨a, ns, rfl, h1, Stp.here rs q (Res.d (.int _))⟩
theorem cb_all (hc : X.calm = true) : CallR X (.builtin "all") (rAll X.K) := cr_all hc
theorem cb_any (hc : X.calm = true) : CallR X (.builtin "any") (rAny X.K) := cr_any hc
theorem bs_all : BiSim T .all (rAll T.K) := by
  intro ds z e w σ s vs rs h Q q
  match ds, e with
  | [.lst l], e =>
    simp only [Py.bi] at e
    cases e2 : Py.bls l with
    | none => rw [e2] at e; cases e
    | some ns =>
      rw [e2] at e
      cases e
      obtain ⟨v, rfl, hv⟩ := h.one
      obtain ⟨a, xs, rfl, h1, r1⟩ := hv.lst' rs.toLabOk
      rw [r1.bls e2] at h1
      exact ⟨a, ns, rfl, SqL.of h1, Stp.here rs q (Res.d (.bl _))⟩
theorem bs_any : BiSim T .any (rAny T.K) := by
  intro ds z e w σ s vs rs h Q q
  match ds, e with
  | [.lst l], e =>
    simp only [Py.bi] at e
    cases e2 : Py.bls l with
    | none => rw [e2] at e; cases e
    | some ns =>
      rw [e2] at e
      cases e
      obtain ⟨v, rfl, hv⟩ := h.one
      obtain ⟨a, xs, rfl, h1, r1⟩ := hv.lst' rs.toLabOk
      rw [r1.bls e2] at h1
      exact ⟨a, ns, rfl, SqL.of h1, Stp.here rs q (Res.d (.bl _))⟩
/-- the least of some intsD -/
theorem least_fold : ∀ (r : List Int) (n : Int), r.foldl min n ∈ n :: r ∧ ∀ y ∈ n :: r, r.foldl min n ≤ y
  | [], n => ⟨by simp, by simp⟩
  | x :: r, n => by
    obtain ⟨h1, h2⟩ := least_fold r (min n x)
    refine ⟨?_, fun y hy => ?_⟩
    · rcases List.mem_cons.mp h1 with h | h
      · rw [List.foldl_cons, h]
        rcases Int.le_total n x with z | z
        · rw [Int.min_eq_left z]; simp
        · rw [Int.min_eq_right z]; simp
      · rw [List.foldl_cons]
        exact List.mem_cons_of_mem _ (List.mem_cons_of_mem _ h)
    · rw [List.foldl_cons]
      have hm : (r.foldl min (min n x)) ≤ min n x := h2 _ List.mem_cons_self
      rcases List.mem_cons.mp hy with e | hy
      · subst e
        exact Int.le_trans hm (Int.min_le_left _ _)
      · rcases List.mem_cons.mp hy with e | hy
        · subst e
          exact Int.le_trans hm (Int.min_le_right _ _)
        · exact h2 y (List.mem_cons_of_mem _ hy)
theorem great_fold : ∀ (r : List Int) (n : Int), r.foldl max n ∈ n :: r ∧ ∀ y ∈ n :: r, y ≤ r.foldl max n
  | [], n => ⟨by simp, by simp⟩
  | x :: r, n => by
    obtain ⟨h1, h2⟩ := great_fold r (max n x)
    refine ⟨?_, fun y hy => ?_⟩
    · rcases List.mem_cons.mp h1 with h | h
      · rw [List.foldl_cons, h]
        rcases Int.le_total n x with z | z
        · rw [Int.max_eq_right z]; simp
        · rw [Int.max_eq_left z]; simp
      · rw [List.foldl_cons]
        exact List.mem_cons_of_mem _ (List.mem_cons_of_mem _ h)
    · rw [List.foldl_cons]
      have hm : max n x ≤ r.foldl max (max n x) := h2 _ List.mem_cons_self
      rcases List.mem_cons.mp hy with e | hy
      · subst e
        exact Int.le_trans (Int.le_max_left _ _) hm
      · rcases List.mem_cons.mp hy with e | hy
        · subst e
          exact Int.le_trans (Int.le_max_right _ _) hm
        · exact h2 y (List.mem_cons_of_mem _ hy)
theorem holdAll_ints {h : Heap} : ∀ {us : List Value} {ns : List Int}, Vals (ns.map V.int) us → PySem.W.HoldAll h us ns
  | _, [], .nil => ⟨_, ReadsAll.nil⟩
  | _, n :: ns, .cons r t => by
    obtain ⟨tk, rfl⟩ := r
    obtain ⟨as, h1⟩ := holdAll_ints (h := h) t
    exact ⟨_, ReadsAll.cons (Reads.int n tk) h1⟩
theorem minOf_int : ∀ (xs : List Int) (x : Int), PySem.W.minOf x xs = xs.foldl min x
  | [], _ => rfl
  | y :: r, x => by
    have ih := minOf_int r (min x y)
    have e : (if PySem.W.DatumOrd.lt y x = true then y else x) = min x y := by
      show (if decide (y < x) = true then y else x) = min x y
      by_cases h : y < x
      · rw [if_pos (decide_eq_true h), Int.min_eq_right (Int.le_of_lt h)]
      · rw [if_neg (by rw [decide_eq_false h]; decide), Int.min_eq_left (Int.not_lt.mp h)]
    rw [List.foldl_cons, ← ih]
    unfold PySem.W.minOf
    rw [List.foldl_cons, e]
theorem maxOf_int : ∀ (xs : List Int) (x : Int), PySem.W.maxOf x xs = xs.foldl max x
  | [], _ => rfl
  | y :: r, x => by
    have ih := maxOf_int r (max x y)
    have e : (if PySem.W.DatumOrd.lt x y = true then y else x) = max x y := by
      show (if decide (x < y) = true then y else x) = max x y
      by_cases h : x < y
      · rw [if_pos (decide_eq_true h), Int.max_eq_right (Int.le_of_lt h)]
      · rw [if_neg (by rw [decide_eq_false h]; decide), Int.max_eq_left (Int.not_lt.mp h)]
    rw [List.foldl_cons, ← ih]
    unfold PySem.W.maxOf
    rw [List.foldl_cons, e]
def rMinT (f : Int → Int → Int) : CR1 := fun vs H Q => ∃ (a : Addr) (n : Int) (ns : List Int), vs = [V.ref a] ∧ H a = some (.tup ((n :: ns).map V.int)) ∧ Q (.int (ns.foldl f n)) H
theorem cb_minT (hc : X.calm = true) (hu : X.A.units + 64 < cLine) : CallR X (.builtin "min") (rMinT min) := by
  intro pins s σ H vs us Q I r h
  obtain ⟨a, n, ns, rfl, hs, q⟩ := h
  obtain ⟨_, its, rv, ht⟩ := (show ObjOk X.prog X.w H s.heap a (.tup ((n :: ns).map V.int)) from I.hok a _ hs)
  rw [Vals.ref1 r]
  refine PySem.W.min_tuple_datum (x := n) (xs := ns) (I.ok.hd hc) ht (by have := holdAll_ints (h := s.heap) rv; simpa using this) (by show X.A.units + 1 + 0 < cLine; omega) fun i v h' tk hi hh hk => ?_
  obtain ⟨as, hr⟩ := hh
  rw [minOf_int] at hr
  cases hr
  exact ⟨.int _, H, I.kept hk, ⟨_, rfl⟩, q⟩
theorem cb_maxT (hc : X.calm = true) (hu : X.A.units + 64 < cLine) : CallR X (.builtin "max") (rMinT max) := by
  intro pins s σ H vs us Q I r h
  obtain ⟨a, n, ns, rfl, hs, q⟩ := h
  obtain ⟨_, its, rv, ht⟩ := (show ObjOk X.prog X.w H s.heap a (.tup ((n :: ns).map V.int)) from I.hok a _ hs)
  rw [Vals.ref1 r]
  refine PySem.W.max_tuple_datum (x := n) (xs := ns) (I.ok.hd hc) ht (by have := holdAll_ints (h := s.heap) rv; simpa using this) (by show X.A.units + 1 + 0 < cLine; omega) fun i v h' tk hi hh hk => ?_
  obtain ⟨as, hr⟩ := hh
  rw [maxOf_int] at hr
  cases hr
  exact ⟨.int _, H, I.kept hk, ⟨_, rfl⟩, q⟩
def rMin2 : CR1 := fun xs H Q => ∃ i j, xs = [.int i, .int j] ∧ Q (.int (if j < i then j else i)) H
def rMax2 : CR1 := fun xs H Q => ∃ i j, xs = [.int i, .int j] ∧ Q (.int (if j > i then j else i)) H
def rMinA (K : PySem.W.Frag) : CR1 := fun vs H Q => rMin2 vs H Q ∨ (L2.rMin K vs H Q ∨ rMinT min vs H Q)
def rMaxA (K : PySem.W.Frag) : CR1 := fun vs H Q => rMax2 vs H Q ∨ (L2.rMax K vs H Q ∨ rMinT max vs H Q)
theorem cb_min (hc : X.calm = true) (hu : X.A.units + 64 < cLine) : CallR X (.builtin "min") (rMinA X.K) := CallR.or (call_min2 hc) (CallR.or (cr_min hc) (cb_minT hc hu))
theorem cb_max (hc : X.calm = true) (hu : X.A.units + 64 < cLine) : CallR X (.builtin "max") (rMaxA X.K) := CallR.or (call_max2 hc) (CallR.or (cr_max hc) (cb_maxT hc hu))
theorem bs_min : BiSim T .min (rMinA T.K) := by
  intro ds z e w σ s vs rs h Q q
  match ds, e with
  | [.int i, .int j], e =>
    cases e
    obtain ⟨v, u, rfl, hv, hu⟩ := h.two
    rw [hv.int, hu.int]
    exact .inl ⟨i, j, rfl, Stp.here rs q (Res.d (.int _))⟩
  | [.lst l], e =>
    simp only [Py.bi] at e
    cases e2 : Py.intsD l with
    | none => rw [e2] at e; cases e
    | some ns =>
      rw [e2] at e
      simp only [Option.bind_some] at e
      cases ns with
      | nil => cases e
      | cons n r =>
        cases e
        obtain ⟨v, rfl, hv⟩ := h.one
        obtain ⟨a, xs, rfl, h1, r1⟩ := hv.lst' rs.toLabOk
        rw [r1.intsD e2] at h1
        refine .inr (.inl ⟨a, n :: r, rfl, SqL.of h1, by simp, fun m hm hl => ?_⟩)
        obtain ⟨l1, l2⟩ := least_fold r n
        have : m = r.foldl min n := Int.le_antisymm (hl _ l1) (l2 _ hm)
        subst this
        exact Stp.here rs q (Res.d (.int _))
  | [.tup l], e =>
    simp only [Py.bi] at e
    cases e2 : Py.intsD l with
    | none => rw [e2] at e; cases e
    | some ns =>
      rw [e2] at e
      simp only [Option.bind_some] at e
      cases ns with
      | nil => cases e
      | cons n r =>
        cases e
        obtain ⟨v, rfl, hv⟩ := h.one
        obtain ⟨a, xs, rfl, h1, r1⟩ := hv.tup' rs.toLabOk
        rw [r1.intsD e2] at h1
        exact .inr (.inr ⟨a, n, r, rfl, h1, Stp.here rs q (Res.d (.int _))⟩)
theorem bs_max : BiSim T .max (rMaxA T.K) := by
  intro ds z e w σ s vs rs h Q q
  match ds, e with
  | [.int i, .int j], e =>
    cases e
    obtain ⟨v, u, rfl, hv, hu⟩ := h.two
    rw [hv.int, hu.int]
    exact .inl ⟨i, j, rfl, Stp.here rs q (Res.d (.int _))⟩
  | [.lst l], e =>
    simp only [Py.bi] at e
    cases e2 : Py.intsD l with
    | none => rw [e2] at e; cases e
    | some ns =>
      rw [e2] at e
      simp only [Option.bind_some] at e
      cases ns with
      | nil => cases e
      | cons n r =>
        cases e
        obtain ⟨v, rfl, hv⟩ := h.one
        obtain ⟨a, xs, rfl, h1, r1⟩ := hv.lst' rs.toLabOk
        rw [r1.intsD e2] at h1
        refine .inr (.inl ⟨a, n :: r, rfl, SqL.of h1, by simp, fun m hm hl => ?_⟩)
        obtain ⟨l1, l2⟩ := great_fold r n
        have : m = r.foldl max n := Int.le_antisymm (l2 _ hm) (hl _ l1)
        subst this
        exact Stp.here rs q (Res.d (.int _))
  | [.tup l], e =>
    simp only [Py.bi] at e
    cases e2 : Py.intsD l with
    | none => rw [e2] at e; cases e
    | some ns =>
      rw [e2] at e
      simp only [Option.bind_some] at e
      cases ns with
      | nil => cases e
      | cons n r =>
        cases e
        obtain ⟨v, rfl, hv⟩ := h.one
        obtain ⟨a, xs, rfl, h1, r1⟩ := hv.tup' rs.toLabOk
        rw [r1.intsD e2] at h1
        exact .inr (.inr ⟨a, n, r, rfl, h1, Stp.here rs q (Res.d (.int _))⟩)
/-! ### isinstance -/
/-- what is known of the text's own classes of instances -/
structure ClsF (T : Tb) (c : Nat) (C : Addr) : Prop where
  cl : Cls T.K C
  ha : PySem.W.findIn T.K (.ref C) "__class__" = some (some (.builtin "object.__class__"))
  hn : PySem.W.specialIn T.K (.builtin "object.__class__") "__get__" = some (some (.builtin "getset_descriptor.__get__"))
  htk : PySem.W.takesIn T.K (.builtin "object.__class__") = some true
  hm : PySem.W.mroIn T.K C (.type "object") = some true
  /-- no built-in value is an instance of it -/
  no : ∀ n ∈ ["NoneType", "bool", "int", "str", "tuple", "list", "dict"], PySem.W.kitOne T.K (.type n) (.ref C) = some false
  /-- its instances are none of a built-in class -/
  un : ∀ n ∈ ["int", "bool", "str", "tuple", "list", "dict"], PySem.W.kitOne T.K (.ref C) (.type n) = some false
/-- all own classes that instances are made of -/
structure Clss (T : Tb) : Prop where
  inj : ∀ f g, T.nm f = T.nm g → f = g
  na : ∀ c C f, T.cls c = some C → f < T.na → NoAttr T.K C (T.nm f)
  one : ∀ c C, T.cls c = some C → ClsF T c C
  two : ∀ c c' C C', T.cls c = some C → T.cls c' = some C' → PySem.W.kitOne T.K (.ref C) (.ref C') = some (c == c')
theorem At.ty {w : Wd} (k : LabOk w) {v : V} {d : Py.D} {n : String} (h : At T w v d) (e : Py.tyN d = some n) : TyX T.K w.H v (.type n) := by
  cases h with
  | g h =>
    cases h <;> cases e <;> first
      | exact .base .non
      | exact .base (.bl _)
      | exact .base (.int _)
      | exact .base (.str _)
      | exact .base (.tup (k.gh _ _ (by assumption)))
      | exact .base (.lst (k.gh _ _ (by assumption)))
      | exact .base (.dK (k.gh _ _ (by assumption)))
  | lst a b =>
    cases e
    exact .base (.lst a)
  | dic a b =>
    cases e
    exact .base (.dK a)
theorem kit_names {K : PySem.W.Frag} {a b : String} (ha : a ∈ ["NoneType", "bool", "int", "str", "tuple", "list", "dict"]) (hb : b ∈ Py.tyNames) : PySem.W.kitOne K (.type a) (.type b) = some (a == b || (a == "bool" && b == "int")) := by
  refine kit_ty ?_
  simp only [Py.tyNames, List.mem_cons, List.not_mem_nil, or_false] at ha hb
  rcases ha with rfl | rfl | rfl | rfl | rfl | rfl | rfl <;> rcases hb with rfl | rfl | rfl | rfl | rfl | rfl <;> decide +kernel
theorem tyN_mem {d : Py.D} {a : String} (h : Py.tyN d = some a) : a ∈ ["NoneType", "bool", "int", "str", "tuple", "list", "dict"] := by
  cases d <;> cases h <;> decide
theorem At.insT {w : Wd} (k : LabOk w) (F : Clss T) {v : V} {c : Nat} {l : List (Nat × Py.D)} (h : At T w v (.ins c l)) : ∃ C, T.cls c = some C ∧ TyX T.K w.H v (.ref C) := by
  cases h with
  | g h =>
    cases h with
    | ins a b r =>
      have f := F.one _ _ a
      exact ⟨_, a, .base (.ins (k.gh _ _ b) f.cl f.ha f.hn f.htk f.hm)⟩
/-- one built-in class -/
theorem isTy_kit {w : Wd} (k : LabOk w) (F : Clss T) {v : V} {d : Py.D} (h : At T w v d) {n : String} {b : Bool} (e : Py.isTy n d = some b) : ∃ t, TyX T.K w.H v t ∧ PySem.W.kitOne T.K t (.type n) = some b ∧ ∀ n' b', Py.isTy n' d = some b' → PySem.W.kitOne T.K t (.type n') = some b' := by
  have main : ∃ t, TyX T.K w.H v t ∧ ∀ n' b', Py.isTy n' d = some b' → PySem.W.kitOne T.K t (.type n') = some b' := by
    by_cases hi : ∃ c l, d = .ins c l
    · obtain ⟨c, l, rfl⟩ := hi
      obtain ⟨C, hC, ty⟩ := h.insT k F
      refine ⟨_, ty, fun n' b' e' => ?_⟩
      unfold Py.isTy at e'
      split at e'
      · rename_i hm
        cases e'
        exact (F.one _ _ hC).un n' hm
      · cases e'
    · cases ht : Py.tyN d with
      | none =>
        unfold Py.isTy at e
        split at e
        · split at e
          · exact absurd ⟨_, _, rfl⟩ hi
          · rw [ht] at e
            cases e
        · cases e
      | some a =>
        refine ⟨_, h.ty k ht, fun n' b' e' => ?_⟩
        unfold Py.isTy at e'
        split at e'
        · rename_i hm
          split at e'
          · exact absurd ⟨_, _, rfl⟩ hi
          · rw [ht] at e'
            cases e'
            exact kit_names (tyN_mem ht) hm
        · cases e'
  obtain ⟨t, ty, f⟩ := main
  exact ⟨t, ty, f n b e, f⟩
theorem anyN_kit {t : Value} {d : Py.D} {K : PySem.W.Frag} (f : ∀ n' b', Py.isTy n' d = some b' → PySem.W.kitOne K t (.type n') = some b') : ∀ {ns : List String} {b : Bool}, Py.anyN d ns = some b → PySem.W.kitAny K t (ns.map Value.type) = some b
  | [], b, e => by
    cases e
    rfl
  | n :: r, b, e => by
    rw [Py.anyN] at e
    split at e
    · rename_i h1
      cases e
      rw [List.map_cons, PySem.W.kitAny, f n _ h1]
    · rename_i h1
      rw [List.map_cons, PySem.W.kitAny, f n _ h1]
      exact anyN_kit f e
    · cases e
theorem tyNs_of : ∀ {l : List Py.D} {ns : List String}, Py.tyNs l = some ns → l = ns.map .ty
  | [], ns, e => by
    cases e
    rfl
  | .ty n :: r, ns, e => by
    rw [Py.tyNs] at e
    cases h : Py.tyNs r with
    | none => rw [h] at e; cases e
    | some z =>
      rw [h] at e
      cases e
      rw [tyNs_of h]
      rfl
  | .non :: _, _, e => by cases e
  | .bl _ :: _, _, e => by cases e
  | .int _ :: _, _, e => by cases e
  | .str _ :: _, _, e => by cases e
  | .tup _ :: _, _, e => by cases e
  | .lst _ :: _, _, e => by cases e
  | .dic _ :: _, _, e => by cases e
  | .ins _ _ :: _, _, e => by cases e
  | .fn _ :: _, _, e => by cases e
  | .cls _ :: _, _, e => by cases e
  | .cell _ :: _, _, e => by cases e
  | .scr _ :: _, _, e => by cases e
theorem reps_ty {G : Hp} {φ : List Addr} : ∀ {ns : List String} {vs : List V}, Reps T G φ vs (ns.map .ty) → vs = ns.map V.ty
  | [], _, .nil => rfl
  | n :: ns, _, .cons (.ty _) b => by
    rw [reps_ty b]
    rfl
theorem clsV_ty : ∀ ns : List String, Paired ClsV (ns.map V.ty) (ns.map Value.type)
  | [] => .nil
  | n :: ns => .cons (.ty n) (clsV_ty ns)
def rIsA1 (K : PySem.W.Frag) : CR1 := fun vs H Q => rIsi K vs H Q ∨ rIsiT K vs H Q
theorem cb_isi : CallR X (.builtin "isinstance") (rIsA1 X.K) := CallR.or call_isi call_isiT
theorem bs_isi (F : Clss T) : BiSim T .isinst (rIsA1 T.K) := by
  intro ds z e w σ s vs rs h Q q
  match ds, e with
  | [x, t], e =>
    simp only [Py.bi] at e
    cases e2 : Py.isInst x t with
    | none => rw [e2] at e; cases e
    | some b =>
      rw [e2] at e
      cases e
      obtain ⟨v, u, rfl, hv, hu⟩ := h.two
      have fin := Stp.here rs q (Res.d (.bl b))
      cases t with
      | ty n =>
        have hu' : u = .ty n := by
          cases hu with
          | g h => cases h; rfl
        subst hu'
        obtain ⟨t', ty, k, _⟩ := isTy_kit rs.toLabOk F hv e2
        exact .inl ⟨v, .ty n, t', .type n, b, rfl, .ty n, ty, k, fin⟩
      | cls c =>
        cases hu with
        | g h =>
        cases h with
        | @cls C _ hC =>
        by_cases hi : ∃ c' l, x = .ins c' l
        · obtain ⟨c', l, rfl⟩ := hi
          cases e2
          obtain ⟨C', hC', ty⟩ := hv.insT rs.toLabOk F
          exact .inl ⟨v, .ref C, _, .ref C, _, rfl, .own C, ty, F.two _ _ _ _ hC' hC, fin⟩
        · have e3 : (Py.tyN x).map (fun _ => false) = some b := by
            cases x <;> first | exact e2 | exact absurd ⟨_, _, rfl⟩ hi
          cases e4 : Py.tyN x with
          | none => rw [e4] at e3; cases e3
          | some a =>
            rw [e4] at e3
            cases e3
            exact .inl ⟨v, .ref C, _, .ref C, _, rfl, .own C, hv.ty rs.toLabOk e4, (F.one _ _ hC).no a (tyN_mem e4), fin⟩
      | tup l =>
        simp only [Py.isInst] at e2
        cases e3 : Py.tyNs l with
        | none => rw [e3] at e2; cases e2
        | some ns =>
          rw [e3] at e2
          cases ns with
          | nil => cases e2
          | cons n r =>
          replace e2 : Py.anyN x (n :: r) = some b := e2
          have := tyNs_of e3
          subst this
          obtain ⟨a, xs, rfl, h1, r1⟩ := hu.tup' rs.toLabOk
          have := reps_ty r1
          subst this
          have main : ∃ t', TyX T.K w.H v t' ∧ ∀ n' b', Py.isTy n' x = some b' → PySem.W.kitOne T.K t' (.type n') = some b' := by
            have e2' := e2
            rw [Py.anyN] at e2'
            cases e5 : Py.isTy n x with
            | none => rw [e5] at e2'; cases e2'
            | some b5 =>
              obtain ⟨t', ty, _, k⟩ := isTy_kit rs.toLabOk F hv e5
              exact ⟨t', ty, k⟩
          obtain ⟨t', ty, k⟩ := main
          exact .inr ⟨v, a, _, t', _, b, rfl, h1, clsV_ty (n :: r), ty, anyN_kit k e2, fin⟩
      | non => cases e2
      | bl _ => cases e2
      | int _ => cases e2
      | str _ => cases e2
      | lst _ => cases e2
      | dic _ => cases e2
      | ins _ _ => cases e2
      | fn _ => cases e2
      | cell _ => cases e2
      | scr _ => cases e2
end
end PyS
end

section
set_option Elab.async false
set_option linter.all false
set_option maxRecDepth 100000
set_option maxHeartbeats 2000000
/-! S7: items, slices, attributes, chains, dict displays. -/
namespace PyS
open PySem L2
variable {T : Tb}
section
variable {c : Py.Cx} {X : Cx}
theorem RepOs.get {w : Wd} {r : Root} : ∀ {os : List Py.O} {π : List Nat} {j n : Nat} {vs : List V} {o : Py.O}, RepOs T w r π j vs os → os[n]? = some o → ∃ v π', vs[n]? = some v ∧ RepO T w r π' v o
  | [], _, _, _, _, _, .nil, h => by simp at h
  | _ :: _, _, _, 0, _, _, .cons a b, h => by
    simp at h
    subst h
    exact ⟨_, _, rfl, a⟩
  | _ :: _, _, _, n + 1, _, _, .cons a b, h => by
    obtain ⟨v, π', h1, h2⟩ := b.get (n := n) (by simpa using h)
    exact ⟨v, π', by simpa using h1, h2⟩
theorem RepOs.length {w : Wd} {r : Root} : ∀ {os : List Py.O} {π : List Nat} {j : Nat} {vs : List V}, RepOs T w r π j vs os → vs.length = os.length
  | [], _, _, _, .nil => rfl
  | _ :: _, _, _, _, .cons a b => by rw [List.length_cons, List.length_cons, b.length]
theorem RepOk.find {w : Wd} {r : Root} (k : Key) : ∀ {os : List (Py.D × Py.O)} {π : List Nat} {j : Nat} {vs : List (Key × V)} {o : Py.O}, RepOk T w r π j vs os → (os.find? fun p => Py.D.eqv p.1 (kD k)).map (·.2) = some o → ∃ v π', valV vs k = some v ∧ RepO T w r π' v o
  | _, _, _, _, _, .nil, h => by cases h
  | _, _, _, _, _, @RepOk.cons _ _ _ π j k' v' vs o' os a b, h => by
    rw [List.find?_cons, kD_eqv] at h
    by_cases e : k' = k
    · rw [decide_eq_true e] at h
      cases h
      exact ⟨v', _, valV_pos (p := (k', v')) e, a⟩
    · rw [decide_eq_false e] at h
      obtain ⟨v, π', h1, h2⟩ := b.find k h
      exact ⟨v, π', (valV_neg (p := (k', v')) e).trans h1, h2⟩
def dicO : Py.O → Bool
  | .d (.dic _) | .dic _ => true
  | _ => false
/-- an item by a key: what the heap has there -/
def ItemAt (T : Tb) (w : Wd) (b : Bool) (v u : V) (o : Py.O) : Prop :=
  (b = false ∧ ∃ (p : Addr) (xs : List V) (i : Int) (z : V), v = .ref p ∧ u = .int i ∧ (w.H p = some (.lst xs) ∨ w.H p = some (.tup xs)) ∧ L2.atI xs i = some z ∧ View T w z o) ∨
  (b = true ∧ ∃ (p : Addr) (kvs : List (Key × V)) (k : Key) (z : V), v = .ref p ∧ w.H p = some (.dK kvs) ∧ u = kV k ∧ valV kvs k = some z ∧ View T w z o)
theorem view_d {w : Wd} {v : V} {x : Py.D} (h : Rep T w.G w.φ v x) : View T w v (.d x) := ⟨fun _ => none, .tmp, [], .d h⟩
theorem View.item {w : Wd} (lk : LabOk w) {v u : V} {oa o : Py.O} {kd : Py.D} (h : View T w v oa) (hk : Rep T w.G w.φ u kd) (e : Py.item oa kd = some o) : ItemAt T w (dicO oa) v u o := by
  obtain ⟨l, r, π, h⟩ := h
  cases h with
  | @d π v x h =>
    cases h with
    | @tup a xs ds ha hr =>
      cases kd <;> first | (cases e; done) | skip
      rename_i i
      cases hk
      simp only [Py.item] at e
      cases e1 : (Py.ixN ds.length i).bind (ds[·]?) with
      | none => rw [e1] at e; cases e
      | some d =>
        rw [e1] at e
        cases e
        obtain ⟨j, e2, e3⟩ := Option.bind_eq_some_iff.mp e1
        obtain ⟨z, z1, z2⟩ := hr.get e3
        refine .inl ⟨rfl, a, xs, i, z, rfl, rfl, .inr (lk.gh _ _ ha), ?_, view_d z2⟩
        unfold L2.atI
        rw [hr.length]
        exact Option.bind_eq_some_iff.mpr ⟨j, e2, z1⟩
    | @lst a xs ds ha hr =>
      cases kd <;> first | (cases e; done) | skip
      rename_i i
      cases hk
      simp only [Py.item] at e
      cases e1 : (Py.ixN ds.length i).bind (ds[·]?) with
      | none => rw [e1] at e; cases e
      | some d =>
        rw [e1] at e
        cases e
        obtain ⟨j, e2, e3⟩ := Option.bind_eq_some_iff.mp e1
        obtain ⟨z, z1, z2⟩ := hr.get e3
        refine .inl ⟨rfl, a, xs, i, z, rfl, rfl, .inl (lk.gh _ _ ha), ?_, view_d z2⟩
        unfold L2.atI
        rw [hr.length]
        exact Option.bind_eq_some_iff.mpr ⟨j, e2, z1⟩
    | @dic a kvs ds ha hr =>
      simp only [Py.item] at e
      split at e
      · rename_i hkey
        obtain ⟨k, rfl, rfl⟩ := hk.key hkey
        rcases hr.get k with ⟨h1, _⟩ | ⟨d, z, h1, h2, h3⟩
        · rw [h1] at e
          cases e
        · rw [h1] at e
          cases e
          exact .inr ⟨rfl, a, kvs, k, z, rfl, lk.gh _ _ ha, rfl, h2, view_d h3⟩
      · cases e
    | _ => cases e
  | @lst π a xs os h1 h2 h3 =>
    cases kd <;> first | (cases e; done) | skip
    rename_i i
    cases hk
    simp only [Py.item] at e
    obtain ⟨j, e2, e3⟩ := Option.bind_eq_some_iff.mp e
    obtain ⟨z, π', z1, z2⟩ := h3.get e3
    refine .inl ⟨rfl, a, xs, i, z, rfl, rfl, .inl h2, ?_, ⟨l, r, π', z2⟩⟩
    unfold L2.atI
    rw [h3.length]
    exact Option.bind_eq_some_iff.mpr ⟨j, e2, z1⟩
  | @dic π a kvs os h1 h2 h3 =>
    simp only [Py.item] at e
    split at e
    · rename_i hkey
      obtain ⟨k, rfl, rfl⟩ := hk.key hkey
      obtain ⟨z, π', z1, z2⟩ := h3.find k e
      exact .inr ⟨rfl, a, kvs, k, z, rfl, h2, rfl, z1, ⟨l, r, π', z2⟩⟩
    · cases e
  | ins h1 h2 h3 h4 => cases e
def notSlice : Expr → Bool
  | .Slice _ _ _ _ => false
  | _ => true
theorem plainIx {b : Expr} (h : notSlice b = true) : PlainIx b := by
  intro o i
  cases b <;> first | rfl | cases h
theorem View.d {w : Wd} {v : V} {x : Py.D} (h : View T w v (.d x)) : Rep T w.G w.φ v x := by
  obtain ⟨l, r, π, q⟩ := h
  cases q with
  | d q => exact q
theorem sim_idx {a i : Expr} {A I : Py.E} {pos : Pos} (hu : X.A.units + 64 < cLine) (n : notSlice i = true) (ha : SimE T c X a A) (hi : SimE T c X i I) : SimE T c X (.Subscript a i pos) (.idx A I) := by
  intro m w σ s o s' rs ev Q q
  simp only [Py.ev] at ev
  split at ev
  · rename_i oa s1 e1
    split at ev
    · rename_i hk
      split at ev
      · rename_i kd s2 e2
        cases e3 : Py.item oa kd with
        | none => rw [e3] at ev; cases ev
        | some z =>
          rw [e3] at ev
          simp only at ev
          split at ev
          · rename_i hm
            simp only [Option.some.injEq, Prod.mk.injEq] at ev
            obtain ⟨rfl, rfl⟩ := ev
            -- both parts evaluated, the way of the subscript is open
            have two : ∀ (R : V → V → Hp → Prop), (∀ v u w2, Stp w w2 → RS T w2 σ s2 → (A.quiet = true → I.quiet = true → GLe w.H w2.H) → ItemAt T w2 (dicO oa) v u z → R v u w2.H) → WE X a σ w.H fun v H1 => WE X i σ H1 fun u H2 => R v u H2 := by
              intro R hR
              refine ha true w σ s oa s1 rs e1 _ fun v w1 st1 rs1 q1 p1 => ?_
              refine hi false w1 σ s1 _ s2 rs1 e2 _ fun u w2 st2 rs2 q2 p2 => ?_
              exact hR v u w2 (st1.trans st2) rs2 (fun qa qb => (q1 qa).trans (q2 qb)) ((p1.keep st2 (keep_of hk q2)).item rs2.toLabOk p2.res.of_d e3)
            have fin : ∀ w2 x, Stp w w2 → RS T w2 σ s2 → (A.quiet = true → I.quiet = true → GLe w.H w2.H) → View T w2 x z → Q x w2.H := by
              intro w2 x st2 rs2 g2 vx
              refine q x w2 st2 rs2 (fun qq => ?_) ?_
              · simp only [Py.E.quiet, Bool.and_eq_true] at qq
                exact g2 qq.1 qq.2
              · cases m with
                | true => exact vx
                | false =>
                  cases z with
                  | d z => exact Res.d vx.d
                  | lst _ => cases hm
                  | dic _ => cases hm
                  | ins _ _ => cases hm
            cases hd : dicO oa with
            | true =>
              refine WE.of (pe_dget (by omega) pe_self pe_self (plainIx n)) ?_
              refine two (fun v u H2 => ∃ a v', v = .ref a ∧ DGet H2 a u (some v') ∧ Q v' H2) fun v u w2 st2 rs2 g2 it => ?_
              rw [hd] at it
              rcases it with ⟨hb, _⟩ | ⟨_, p, kvs, k, x, rfl, hp, rfl, hx, vx⟩
              · cases hb
              · refine ⟨p, x, rfl, ?_, fin w2 x st2 rs2 g2 vx⟩
                rw [← hx]
                exact DGet.k hp
            | false =>
              refine WE.of (pe_ix ix_seq pe_self pe_self (plainIx n)) ?_
              refine two (fun v u H2 => rIx X.K v u H2 Q) fun v u w2 st2 rs2 g2 it => ?_
              rw [hd] at it
              rcases it with ⟨_, p, xs, j, x, rfl, rfl, hp, hx, vx⟩ | ⟨hb, _⟩
              · have := fin w2 x st2 rs2 g2 vx
                rcases hp with hp | hp
                · exact .inl ⟨p, xs, j, x, rfl, rfl, SqL.of hp, hx, this⟩
                · exact .inr (.inl ⟨p, xs, j, x, rfl, rfl, SqT.of hp, hx, this⟩)
              · cases hb
          · cases ev
      · cases ev
    · cases ev
  · cases ev

/-! ### slices -/
def SimO (T : Tb) (c : Py.Cx) (X : Cx) (e : Option Expr) (E : Option Py.E) : Prop :=
  ∃ t : TO, L2.PO X e t ∧ ∀ (w : Wd) (σ : L2.St) (s : Py.St) (i : Option Int) (s' : Py.St), RS T w σ s → Py.evo c E s = some (i, s') →
    ∀ Q : Option Int → Hp → Prop, (∀ w', Stp w w' → RS T w' σ s' → (Py.E.quietO E = true → GLe w.H w'.H) → Q i w'.H) → t σ w.H Q
theorem simo_none : SimO T c X none none := ⟨_, po_none, fun w σ s i s' rs ev Q q => by
  simp only [Py.evo, Option.some.injEq, Prod.mk.injEq] at ev
  obtain ⟨rfl, rfl⟩ := ev
  exact q w (Stp.refl w) rs fun _ => GLe.refl _⟩
theorem simo_some {e : Expr} {E : Py.E} (h : SimE T c X e E) : SimO T c X (some e) (some E) := ⟨_, po_some pe_self, fun w σ s i s' rs ev Q q => by
  simp only [Py.evo] at ev
  split at ev
  · rename_i j s1 e1
    simp only [Option.some.injEq, Prod.mk.injEq] at ev
    obtain ⟨rfl, rfl⟩ := ev
    exact h false w σ s _ _ rs e1 _ fun v w1 st1 rs1 q1 p1 => ⟨j, p1.res.int, q w1 st1 rs1 q1⟩
  · cases ev⟩
def rSlAll (K : PySem.W.Frag) : V → Option Int → Option Int → Hp → VK → Prop := fun x lo hi H Q => rSlL K x lo hi H Q ∨ rSlA K x lo hi H Q
theorem sl_all : SlR X (rSlAll X.K) := SlR.or sl_list sl_tupA
theorem cut_of {G : Hp} {φ : List Addr} {xs : List V} {ds : List Py.D} (h : Reps T G φ xs ds) (lo hi : Option Int) : Reps T G φ (cutV xs lo hi) (Py.cut ds lo hi) := by
  unfold cutV Py.cut
  rw [h.length]
  exact (h.drop _).take _
theorem cut_whole {α : Type} {xs : List α} {lo hi : Option Int} (h : HT.sIx xs.length 0 lo = 0 ∧ HT.sIx xs.length xs.length hi = xs.length) : Py.cut xs lo hi = xs := by
  unfold Py.cut
  have h1 : Py.sIx xs.length 0 lo = 0 := h.1
  have h2 : Py.sIx xs.length xs.length hi = xs.length := h.2
  rw [h1, h2, List.drop_zero, Nat.sub_zero, List.take_length]
theorem sim_slc {a : Expr} {lo hi : Option Expr} {A : Py.E} {Lo Hi : Option Py.E} {p2 pos : Pos} (ha : SimE T c X a A) (hl : SimO T c X lo Lo) (hh : SimO T c X hi Hi) (hK : X.K = T.K) : SimE T c X (.Subscript a (.Slice lo hi none p2) pos) (.slc A Lo Hi) := by
  intro m w σ s o s' rs ev Q q
  obtain ⟨tl, pl, hl⟩ := hl
  obtain ⟨th, ph, hh⟩ := hh
  simp only [Py.ev] at ev
  split at ev
  · rename_i oa s1 e1
    split at ev
    · rename_i hk
      split at ev
      · rename_i l s2 e2
        split at ev
        · rename_i h s3 e3
          refine WE.of (pe_slice sl_all pe_self pl ph) ?_
          refine ha true w σ s oa s1 rs e1 _ fun v w1 st1 rs1 q1 p1 => ?_
          refine hl w1 σ s1 l s2 rs1 e2 _ fun w2 st2 rs2 q2 => ?_
          refine hh w2 σ s2 h s3 rs2 e3 _ fun w3 st3 rs3 q3 => ?_
          have st := (st1.trans st2).trans st3
          have hk' : oa.isD = true ∨ GLe w1.H w3.H ∨ A.place = false := by
            rw [Bool.or_eq_true, Bool.or_eq_true, Bool.and_eq_true] at hk
            rcases hk with (hk | hk) | hk
            · exact .inl hk
            · exact .inr (.inl ((q2 hk.1).trans (q3 hk.2)))
            · refine .inr (.inr ?_)
              cases z : A.place with
              | false => rfl
              | true => rw [z] at hk; cases hk
          have vw := p1.keep (st2.trans st3) hk'
          have hq : Qt (.slc A Lo Hi) w w3 := fun qq => by simp only [Py.E.quiet] at qq; cases qq
          split at ev
          · rename_i xs hf
            simp only [Option.some.injEq, Prod.mk.injEq] at ev
            obtain ⟨rfl, rfl⟩ := ev
            obtain ⟨p, ys, rfl, h1, r1⟩ := (vw.at hf).lst' rs3.toLabOk
            refine .inl ⟨p, ys, rfl, SqL.of h1, fun p2 hp2 => ?_⟩
            obtain ⟨a1, a2⟩ := rs3.alloc hp2 (.lst (cutV ys l h))
            exact q (.ref p2) _ (st.trans a1) a2 (fun qq => by simp only [Py.E.quiet] at qq; cases qq) (PO.of ((rs3.newL hp2 (cut_of r1 l h)).from st))
          · rename_i xs hf
            simp only [Option.some.injEq, Prod.mk.injEq] at ev
            obtain ⟨rfl, rfl⟩ := ev
            have g1 : Rep T w3.G w3.φ v (.tup xs) := by
              cases vw.at hf with
              | g h => exact h
            obtain ⟨p, ys, rfl, h1, r1⟩ := (vw.at hf).tup' rs3.toLabOk
            refine .inr ⟨p, ys, rfl, SqT.of h1, fun hw => ?_, fun hw p2 hp2 => ?_⟩
            · rw [r1.length] at hw
              refine q (.ref p) w3 st rs3 hq (PO.of ?_)
              rw [cut_whole hw]
              exact Res.d g1
            · obtain ⟨w4, h4, st4, rs4, r4⟩ := rs3.newT hp2 (cut_of r1 l h)
              rw [← h4]
              exact q _ w4 (st.trans st4) rs4 (fun qq => by simp only [Py.E.quiet] at qq; cases qq) (PO.of (Res.d r4))
          · cases ev
        · cases ev
      · cases ev
    · cases ev
  · cases ev
/-! ### attributes -/
theorem RepF.get (inj : ∀ f g, T.nm f = T.nm g → f = g) {G : Hp} {φ : List Addr} {f : Nat} {d : Py.D} : ∀ {fs : List (Str × V)} {l : List (Nat × Py.D)}, RepF T G φ fs l → l.lookup f = some d → ∃ v, fs.lookup (T.nm f) = some v ∧ Rep T G φ v d
  | _, _, .nil, h => by cases h
  | _, _, @RepF.cons _ _ _ g v vs d' ds a b, h => by
    by_cases e : f = g
    · subst e
      simp only [List.lookup_cons, beq_self_eq_true] at h ⊢
      cases h
      exact ⟨v, rfl, a⟩
    · have e1 : (f == g) = false := beq_eq_false_iff_ne.mpr e
      have e2 : (T.nm f == T.nm g) = false := beq_eq_false_iff_ne.mpr fun z => e (inj _ _ z)
      simp only [List.lookup_cons, e1] at h
      simp only [List.lookup_cons, e2]
      exact b.get inj h
theorem RepOf.get (inj : ∀ f g, T.nm f = T.nm g → f = g) {w : Wd} {r : Root} {f : Nat} {d : Py.O} : ∀ {fs : List (Str × V)} {l : List (Nat × Py.O)} {π : List Nat} {j : Nat}, RepOf T w r π j fs l → l.lookup f = some d → ∃ v π', fs.lookup (T.nm f) = some v ∧ RepO T w r π' v d
  | _, _, _, _, .nil, h => by cases h
  | _, _, _, _, @RepOf.cons _ _ _ _ _ g v vs d' ds a b, h => by
    by_cases e : f = g
    · subst e
      simp only [List.lookup_cons, beq_self_eq_true] at h ⊢
      cases h
      exact ⟨v, _, rfl, a⟩
    · have e1 : (f == g) = false := beq_eq_false_iff_ne.mpr e
      have e2 : (T.nm f == T.nm g) = false := beq_eq_false_iff_ne.mpr fun z => e (inj _ _ z)
      simp only [List.lookup_cons, e1] at h
      simp only [List.lookup_cons, e2]
      exact b.get inj h
theorem sim_attr {a : Expr} {A : Py.E} {f : Nat} {pos : Pos} (F : Clss T) (hK : X.K = T.K) (hf : f < T.na) (hb : attributeBase a (T.nm f) X.env (eval a X.env) = eval a X.env) (ha : SimE T c X a A) : SimE T c X (.Attribute a (T.nm f) pos) (.attr A f) := by
  intro m w σ s o s' rs ev Q q
  simp only [Py.ev] at ev
  have main : ∀ oa s1, Py.ev c true A s = some (oa, s1) → (∃ z, (∀ v w1, RS T w1 σ s1 → View T w1 v oa → ∃ p k C dx fs x, v = .ref p ∧ T.cls k = some C ∧ w1.H p = some (.ins C dx fs) ∧ fs.lookup (T.nm f) = some x ∧ View T w1 x z) ∧ (m || z.isD) = true ∧ o = z ∧ s' = s1) → WE X (.Attribute a (T.nm f) pos) σ w.H Q := by
    intro oa s1 e1 ⟨z, hz, hm, eo, es⟩
    subst eo es
    refine WE.of (pe_fld pe_self hb) ?_
    refine ha true w σ s oa s' rs e1 _ fun v w1 st1 rs1 q1 p1 => ?_
    obtain ⟨p, k, C, dx, fs, x, rfl, hC, hp, hl, vx⟩ := hz v w1 rs1 p1.view
    rw [hK]
    refine ⟨p, C, dx, fs, x, rfl, hp, (F.one k C hC).cl, F.na k C f hC hf, hl, q x w1 st1 rs1 (fun qq => q1 (by simpa only [Py.E.quiet] using qq)) ?_⟩
    cases m with
    | true => exact vx
    | false =>
      cases o with
      | d z => exact Res.d vx.d
      | lst _ => cases hm
      | dic _ => cases hm
      | ins _ _ => cases hm
  split at ev
  · rename_i d s1 e1
    cases h2 : Py.attrOf f d with
    | none => rw [h2] at ev; cases ev
    | some y =>
      rw [h2] at ev
      simp only [Option.map_some, Option.some.injEq, Prod.mk.injEq] at ev
      obtain ⟨rfl, rfl⟩ := ev
      refine main _ _ e1 ⟨.d y, fun v w1 rs1 vw => ?_, by simp [Py.O.isD], rfl, rfl⟩
      have r := vw.d
      cases d <;> first | (cases h2; done) | skip
      cases r with
      | ins hC hG hF =>
        obtain ⟨x, x1, x2⟩ := hF.get F.inj h2
        exact ⟨_, _, _, _, _, x, rfl, hC, rs1.gh _ _ hG, x1, view_d x2⟩
  · rename_i k l s1 e1
    split at ev
    · rename_i z h2
      split at ev
      · rename_i hm
        simp only [Option.some.injEq, Prod.mk.injEq] at ev
        obtain ⟨rfl, rfl⟩ := ev
        refine main _ _ e1 ⟨z, fun v w1 rs1 vw => ?_, hm, rfl, rfl⟩
        obtain ⟨lb, r, π, vw⟩ := vw
        cases vw with
        | ins h1 hC hG hF =>
          obtain ⟨x, π', x1, x2⟩ := hF.get F.inj h2
          exact ⟨_, _, _, _, _, x, rfl, hC, hG, x1, ⟨lb, r, π', x2⟩⟩
      · cases ev
    · cases ev
  · cases ev
/-! ### chains -/
theorem ev_chain {op op' : Py.Cop} {A B C : Py.E} {s s' : Py.St} {o : Py.O} {m : Bool} (ev : Py.ev c m (.chain op op' A B C) s = some (o, s')) :
    ∃ x s1 y s2 b, Py.ev c false A s = some (.d x, s1) ∧ Py.ev c false B s1 = some (.d y, s2) ∧ Py.cop op x y = some b ∧
      ((b = false ∧ o = .d (.bl false) ∧ s' = s2) ∨ (b = true ∧ ∃ z b', Py.ev c false C s2 = some (.d z, s') ∧ Py.cop op' y z = some b' ∧ o = .d (.bl b'))) := by
  simp only [Py.ev] at ev
  split at ev
  · rename_i x s1 e1
    split at ev
    · rename_i y s2 e2
      split at ev
      · rename_i e3
        split at ev
        · rename_i z s3 e4
          cases e5 : Py.cop op' y z with
          | none => rw [e5] at ev; cases ev
          | some b' =>
            rw [e5] at ev
            simp only [Option.map_some, Option.some.injEq, Prod.mk.injEq] at ev
            obtain ⟨rfl, rfl⟩ := ev
            exact ⟨x, s1, y, s2, true, e1, e2, e3, .inr ⟨rfl, z, b', e4, e5, rfl⟩⟩
        · cases ev
      · rename_i e3
        simp only [Option.some.injEq, Prod.mk.injEq] at ev
        obtain ⟨rfl, rfl⟩ := ev
        exact ⟨x, s1, y, s2, false, e1, e2, e3, .inl ⟨rfl, rfl, rfl⟩⟩
      · cases ev
    · cases ev
  · cases ev
theorem lastMarks_of {op op' : CmpOp} {b c' : Expr} (h : notSet c' = true) : lastMarks [op, op'] [b, c'] = false := nomark' h op'
theorem chain_run {a b d : Expr} {A B C : Py.E} {op op' : Py.Cop} {r r' : R2} (hf : OpSim T (copO op) r) (hf' : OpSim T (copO op') r') (ha : SimE T c X a A) (hb : SimE T c X b B) (hc : SimE T c X d C)
    {w : Wd} {σ : L2.St} {s s' : Py.St} {z : Bool} {m : Bool} (rs : RS T w σ s) (ev : Py.ev c m (.chain op op' A B C) s = some (.d (.bl z), s')) {Q : VK} (q : ∀ w', Stp w w' → RS T w' σ s' → Q (.bl z) w'.H) : tChain r r' (WE X a) (WE X b) (WE X d) σ w.H Q := by
  obtain ⟨x, s1, y, s2, b', e1, e2, e3, e4⟩ := ev_chain ev
  refine ha false w σ s _ _ rs e1 _ fun v w1 st1 rs1 q1 p1 => ?_
  refine hb false w1 σ s1 _ _ rs1 e2 _ fun u w2 st2 rs2 q2 p2 => ?_
  have r1 := p1.res.of_d.mono st2.g st2.f
  have r2 := p2.res.of_d
  refine hf x y (.d (.bl b')) (by unfold copO; rw [e3]; rfl) w2 σ s2 v u rs2 (.g r1) (.g r2) _ fun v' w3 st3 rs3 g3 r3 => ?_
  refine ⟨b', r3.bl, ?_⟩
  rcases e4 with ⟨rfl, e5, rfl⟩ | ⟨rfl, y2, b2, e5, e6, e7⟩
  · cases e5
    rw [if_neg (by decide)]
    exact q w3 ((st1.trans st2).trans st3) rs3
  · cases e7
    rw [if_pos rfl]
    refine hc false w3 σ s2 _ _ rs3 e5 _ fun u2 w4 st4 rs4 q4 p4 => ?_
    refine hf' y y2 (.d (.bl z)) (by unfold copO; rw [e6]; rfl) w4 σ s' u u2 rs4 (.g ((r2.mono st3.g st3.f).mono st4.g st4.f)) (.g p4.res.of_d) _ fun v5 w5 st5 rs5 g5 r5 => ?_
    rw [r5.bl]
    exact q w5 ((((st1.trans st2).trans st3).trans st4).trans st5) rs5
theorem sim_chain {a b d : Expr} {A B C : Py.E} {op op' : Py.Cop} {p p' : CmpOp} {pos : Pos} {r r' : R2} (ho : OpR X (compareOp p) r) (ho' : OpR X (compareOp p') r') (hf : OpSim T (copO op) r) (hf' : OpSim T (copO op') r') (hn : notSet d = true) (ha : SimE T c X a A) (hb : SimE T c X b B) (hc : SimE T c X d C) :
    SimE T c X (.Compare a [p, p'] [b, d] pos) (.chain op op' A B C) := by
  intro m w σ s o s' rs ev Q q
  refine WE.of (pe_chain ho ho' pe_self pe_self pe_self (lastMarks_of hn)) ?_
  obtain ⟨x, s1, y, s2, b', e1, e2, e3, e4⟩ := ev_chain ev
  have : ∃ z, o = .d (.bl z) := by
    rcases e4 with ⟨_, e5, _⟩ | ⟨_, y2, b2, _, _, e7⟩
    · exact ⟨_, e5⟩
    · exact ⟨_, e7⟩
  obtain ⟨z, rfl⟩ := this
  exact chain_run hf hf' ha hb hc rs ev fun w' st' rs' => q _ w' st' rs' (fun qq => by simp only [Py.E.quiet] at qq; cases qq) (PO.of (Res.d (.bl _)))
theorem simT_chain {a b d : Expr} {A B C : Py.E} {op op' : Py.Cop} {p p' : CmpOp} {pos : Pos} {r r' : R2} (ho : OpR X (compareOp p) r) (ho' : OpR X (compareOp p') r') (hf : OpSim T (copO op) r) (hf' : OpSim T (copO op') r') (hn : notSet d = true) (ha : SimE T c X a A) (hb : SimE T c X b B) (hc : SimE T c X d C) :
    SimT T c X (.Compare a [p, p'] [b, d] pos) (.chain op op' A B C) := by
  intro w σ s z s' rs ev Q q
  refine WT.of (pt_chain ho ho' pe_self pe_self pe_self (lastMarks_of hn)) ?_
  exact chain_run hf hf' ha hb hc rs ev fun w' st' rs' => ⟨z, rfl, q w' st' rs' (fun qq => by simp only [Py.E.quiet] at qq; cases qq)⟩
end
end PyS
end

section
set_option Elab.async false
set_option linter.all false
set_option maxRecDepth 100000
set_option maxHeartbeats 2000000
/-! S8: calls of defs. -/
namespace PyS
open PySem L2
variable {T : Tb}
/-- the cells alone are known to the callee -/
def cellsL (l : Lab) : Lab := fun a => match l a with
  | some (.cell n, π) => some (.cell n, π)
  | _ => none
def hideE (w : Wd) : Wd := { w with lab := cellsL w.lab }
theorem cellsL_some {l : Lab} {a : Addr} {x : Root × List Nat} (h : cellsL l a = some x) : l a = some x ∧ ∃ n, x.1 = .cell n := by
  unfold cellsL at h
  split at h
  · rename_i n π e
    cases h
    exact ⟨e, n, rfl⟩
  · cases h
theorem cellsL_cell {l : Lab} {a : Addr} {n : Nat} {π : List Nat} (h : l a = some (.cell n, π)) : cellsL l a = some (.cell n, π) := by
  unfold cellsL
  rw [h]
theorem cellsL_slot {l : Lab} {a : Addr} {i : Nat} {π : List Nat} (h : l a = some (.slot i, π)) : cellsL l a = none := by
  unfold cellsL
  rw [h]
theorem cellsL_none {l : Lab} {a : Addr} (h : l a = none) : cellsL l a = none := by
  unfold cellsL
  rw [h]
/-- labels behind a call: the caller's own again -/
def unhide (w w' : Wd) : Wd := { w' with lab := fun a => match w.lab a with
  | some (.slot i, π) => some (.slot i, π)
  | _ => w'.lab a }
theorem unhide_slot {w w' : Wd} {a : Addr} {i : Nat} {π : List Nat} (h : w.lab a = some (.slot i, π)) : (unhide w w').lab a = some (.slot i, π) := by
  show (match w.lab a with | some (.slot i, π) => some (Root.slot i, π) | _ => w'.lab a) = _
  rw [h]
theorem unhide_other {w w' : Wd} {a : Addr} (h : ∀ i π, w.lab a ≠ some (.slot i, π)) : (unhide w w').lab a = w'.lab a := by
  show (match w.lab a with | some (.slot i, π) => some (Root.slot i, π) | _ => w'.lab a) = _
  split
  · rename_i i π e
    exact absurd e (h i π)
  · rfl
theorem RS.hide {w : Wd} {σ : L2.St} {s : Py.St} (rs : RS T w σ s) : RS T (hideE w) [] ⟨[], s.sto⟩ := by
  refine ⟨⟨rs.gh, fun a x e => rs.lg a x (cellsL_some e).1⟩, fun i o h => ?_, fun n o h => ?_, rs.len, rfl⟩
  · simp at h
  · obtain ⟨a, h1, h2⟩ := rs.sto n o h
    refine ⟨a, h1, RepO.move ?_ h2⟩
    exact ⟨GLe.refl _, PLe.refl _, fun a π q => ⟨cellsL_cell q, fun _ z => z⟩⟩
/-- behind the call -/
theorem RS.back {w w' : Wd} {σ : L2.St} {s : Py.St} {sto : List Py.O} (rs : RS T w σ s) (st : Stp (hideE w) w') (rs' : RS T w' [] ⟨[], sto⟩) :
    Stp w (unhide w w') ∧ RS T (unhide w w') σ { s with sto := sto } ∧ ∀ v o, Res T (hideE w) w' v o → Res T w (unhide w w') v o := by
  have hs : ∀ {a i π}, w.lab a = some (.slot i, π) → ∃ u, w.H a = some u ∧ w'.H a = some u ∧ w'.lab a = none ∧ w'.G a = none := fun {a i π} e => by
    cases z : w.H a with
    | none => exact absurd z (rs.lg a _ e).2
    | some u =>
      obtain ⟨h1, h2, h3⟩ := st.h a u z (cellsL_slot e)
      exact ⟨u, rfl, h1, h2, h3.trans (rs.lg a _ e).1⟩
  have dec : ∀ a, (∃ i π, w.lab a = some (.slot i, π)) ∨ ∀ i π, w.lab a ≠ some (.slot i, π) := fun a => by
    by_cases h : ∃ i π, w.lab a = some (.slot i, π)
    · exact .inl h
    · exact .inr fun i π e => h ⟨i, π, e⟩
  refine ⟨⟨st.g, st.f, fun a u hu hn => ?_, st.t⟩, ⟨⟨rs'.gh, fun a x e => ?_⟩, fun i o h => ?_, fun n o h => ?_, rs'.len, rs.el⟩, fun v o hr => ?_⟩
  · obtain ⟨h1, h2, h3⟩ := st.h a u hu (cellsL_none hn)
    refine ⟨h1, ?_, h3⟩
    rw [unhide_other (fun i π e => by rw [hn] at e; cases e)]
    exact h2
  · rcases dec a with ⟨i, π, q⟩ | q
    · obtain ⟨u, h0, h1, h2, h3⟩ := hs q
      exact ⟨h3, fun z => by rw [show w'.H a = none from z] at h1; cases h1⟩
    · rw [unhide_other q] at e
      exact rs'.lg a x e
  · obtain ⟨v, h1, h2⟩ := rs.env i o h
    refine ⟨v, h1, RepO.move ?_ h2⟩
    refine ⟨st.g, st.f, fun a π q => ⟨unhide_slot q, fun u hu => ?_⟩⟩
    obtain ⟨u', h0, h1, _⟩ := hs q
    rw [h0] at hu
    cases hu
    exact h1
  · obtain ⟨a, h1, h2⟩ := rs'.sto n o h
    refine ⟨a, h1, RepO.move ?_ h2⟩
    refine ⟨GLe.refl _, PLe.refl _, fun a π q => ⟨?_, fun _ z => z⟩⟩
    rw [unhide_other fun i π' e => ?_]
    · exact q
    · obtain ⟨u, h0, h1, h2, h3⟩ := hs e
      rw [h2] at q
      cases q
  · obtain ⟨l, a, r⟩ := hr
    refine ⟨l, fun p x e => ?_, r⟩
    obtain ⟨a1, a2, a3, a4, a5⟩ := a p x e
    have a5' : w.H p = none ∨ w.lab p ≠ none := by
      rcases a5 with z | z
      · exact .inl z
      · refine .inr fun q => z ?_
        exact cellsL_none q
    refine ⟨a1, ?_, a3, a4, a5'⟩
    rw [unhide_other fun i π q => ?_]
    · exact a2
    · rcases a5 with z | z
      · exact (rs.lg p _ q).2 z
      · exact z (cellsL_slot q)
/-- a def's promise: what the interpreter tells -/
def spF (T : Tb) (call : Nat → List Py.D → List Py.O → Option (Py.O × List Py.O)) (f n : Nat) : Sp := fun vs H Q _ => vs.length = n ∧ ∃ (w : Wd) (ds : List Py.D) (sto : List Py.O) (o : Py.O) (sto' : List Py.O), w.H = H ∧ RS T w [] ⟨[], sto⟩ ∧ Reps T w.G w.φ vs ds ∧
  call f ds sto = some (o, sto') ∧ ∀ v w', Stp w w' → RS T w' [] ⟨[], sto'⟩ → Res T w w' v o → Q v w'.H
/-- a class's promise: its __init__ -/
def spM (T : Tb) (make : Nat → List Py.D → List Py.O → Option (List (Nat × Py.D) × List Py.O)) (q n : Nat) : Sp := fun vs H Q _ => vs.length = n ∧ ∃ (w : Wd) (x : Addr) (us : List V) (ds : List Py.D) (sto : List Py.O) (l : List (Nat × Py.D)) (sto' : List Py.O), vs = .ref x :: us ∧ w.H = H ∧ RS T w [] ⟨[], sto⟩ ∧
  w.lab x = some (.slot 0, []) ∧ RepO T w (.slot 0) [] (.ref x) (.ins q []) ∧ (∀ a i π, w.lab a = some (.slot i, π) → a = x) ∧ Reps T w.G w.φ us ds ∧ make q ds sto = some (l, sto') ∧ ∀ w', Stp w w' → RS T w' [] ⟨[], sto'⟩ → Rep T w'.G w'.φ (.ref x) (.ins q l) → Q .non w'.H
/-- what is known of a def that is called -/
structure FnF (T : Tb) (c : Py.Cx) (X : Cx) (k : Nat) (f : Nat) (a : Addr) : Prop where
  ex : ∃ (fd : FuncData) (ps : List Str), FnOk X.prog X.w X.K X.mg X.base CX0 k a fd ps (spF T c.call f ps.length) ∧ Binds X.K fd ps [] ∧ ∀ ds sto r, c.call f ds sto = some r → ds.length = ps.length
  kp : PySem.W.keepIn X.K (.ref a) = true
section
variable {c : Py.Cx} {X : Cx}
theorem sim_call {e : Expr} {es : List Expr} {Es : List Py.E} {f k : Nat} {a : Addr} {x : Str} {p pos : Pos} (F : FnF T c X k f a) (hr : Room k X.A) (hg : Gl X x) (hm : X.mg x = some (.ref a)) (hd : (x == ("__debug__" : Str)) = false) (n : notStar e = true) (hns : (backTo pos (starEach es X.env)).any (·.1) = false)
    (hs : SimEs T c X (e :: es) Es) : SimE T c X (.Call (.Name x p) (e :: es) [] pos) (.call f Es) := by
  intro m w σ s o s' rs ev Q q
  simp only [Py.ev] at ev
  split at ev
  · rename_i ds s1 e1
    split at ev
    · rename_i r sto e2
      simp only [Option.some.injEq, Prod.mk.injEq] at ev
      obtain ⟨rfl, rfl⟩ := ev
      obtain ⟨fd, ps, G, b, ar⟩ := F.ex
      refine WE.of (pe_call (dvs := []) (ds := []) G hr hg hm F.kp b .nil pass0 pa_self hd (starEach_not n es X.env) hns) ?_
      refine hs w σ s ds s1 rs e1 _ fun vs w1 st1 rs1 q1 r1 => ?_
      have hl : vs.length = ps.length := r1.length.trans (ar _ _ _ e2)
      rw [List.append_nil]
      refine ⟨hl, hideE w1, ds, s1.sto, r, sto, rfl, rs1.hide, r1, e2, fun v w2 st2 rs2 r2 => ?_⟩
      obtain ⟨b1, b2, b3⟩ := rs1.back st2 rs2
      exact q v (unhide w1 w2) (st1.trans b1) b2 (fun qq => by simp only [Py.E.quiet] at qq; cases qq) (PO.of ((b3 v r r2).from st1))
    · cases ev
  · cases ev
/-! ### keywords -/
theorem evs_append : ∀ (A B : List Py.E) (s : Py.St), Py.evs c (A ++ B) s = match Py.evs c A s with
    | some (ds, s1) => match Py.evs c B s1 with
      | some (es, s2) => some (ds ++ es, s2)
      | none => none
    | none => none
  | [], B, s => by
    simp only [List.nil_append, Py.evs]
    cases Py.evs c B s with
    | none => rfl
    | some p => rfl
  | a :: A, B, s => by
    have ih := evs_append A B
    by_cases h : ∃ e, a = .star e
    · obtain ⟨e, rfl⟩ := h
      rw [List.cons_append, Py.evs, Py.evs]
      cases Py.ev c false e s with
      | none => rfl
      | some p =>
        obtain ⟨o, s1⟩ := p
        simp only
        cases Py.seqOf o.toD with
        | none => rfl
        | some l =>
          simp only
          rw [ih]
          cases Py.evs c A s1 with
          | none => rfl
          | some p2 =>
            obtain ⟨ds, s2⟩ := p2
            simp only
            cases Py.evs c B s2 with
            | none => rfl
            | some p3 => simp [List.append_assoc]
    · have hn : isStarE a = false := by
        cases a <;> first | rfl | exact absurd ⟨_, rfl⟩ h
      rw [List.cons_append, evs_cons hn, evs_cons hn]
      cases Py.ev c false a s with
      | none => rfl
      | some p =>
        obtain ⟨o, s1⟩ := p
        simp only
        rw [ih]
        cases Py.evs c A s1 with
        | none => rfl
        | some p2 =>
          obtain ⟨ds, s2⟩ := p2
          simp only
          cases Py.evs c B s2 with
          | none => rfl
          | some p3 => rfl
def WK (X : Cx) (kws : List Keyword) : TA := fun σ H Q => ∀ (pos : Pos) (pins : List (Addr × Obj)) (s : Shared), Inv X pins σ H s → wpAny (model X.prog X.w) X.A (evalAll ((backToKw pos (keywordEach kws X.env)).map (·.2))) (AP X pins σ Q) X.xe s
theorem pk_self {kws : List Keyword} : PK X kws (WK X kws) := ⟨fun pos pins s σ H Q I h => h pos pins s I⟩
theorem WK.of {kws : List Keyword} {t : TA} (p : PK X kws t) {σ : L2.St} {H : Hp} {Q : List V → Hp → Prop} (h : t σ H Q) : WK X kws σ H Q := fun pos pins s I => p.run pos pins s σ H Q I h
def SimKs (T : Tb) (c : Py.Cx) (X : Cx) (kws : List Keyword) (Es : List Py.E) : Prop :=
  ∀ (w : Wd) (σ : L2.St) (s : Py.St) (ds : List Py.D) (s' : Py.St), RS T w σ s → Py.evs c Es s = some (ds, s') →
    ∀ Q : List V → Hp → Prop, (∀ vs w', Stp w w' → RS T w' σ s' → Reps T w'.G w'.φ vs ds → Q vs w'.H) → WK X kws σ w.H Q
theorem simk_nil : SimKs T c X [] [] := by
  intro w σ s ds s' rs e Q q
  simp only [Py.evs, Option.some.injEq, Prod.mk.injEq] at e
  obtain ⟨rfl, rfl⟩ := e
  exact WK.of pk_nil (q [] w (Stp.refl _) rs .nil)
theorem simk_cons {e : Expr} {nm : Option Str} {kpos : Pos} {kws : List Keyword} {E : Py.E} {Es : List Py.E} (n' : isStarE E = false) (h : SimE T c X e E) (hs : SimKs T c X kws Es) : SimKs T c X (⟨nm, e, kpos⟩ :: kws) (E :: Es) := by
  intro w σ s ds s' rs ev Q q
  rw [evs_cons n'] at ev
  cases e1 : Py.ev c false E s with
  | none => rw [e1] at ev; cases ev
  | some p =>
    obtain ⟨o, s1⟩ := p
    rw [e1] at ev
    simp only at ev
    cases e2 : Py.evs c Es s1 with
    | none => rw [e2] at ev; cases ev
    | some p2 =>
      obtain ⟨ds2, s2⟩ := p2
      rw [e2] at ev
      simp only [Option.some.injEq, Prod.mk.injEq] at ev
      obtain ⟨rfl, rfl⟩ := ev
      refine WK.of (pk_cons pe_self pk_self) ?_
      refine h false w σ s o s1 rs e1 _ fun v w1 st1 rs1 q1 p1 => ?_
      obtain ⟨w2, h2, st2, rs2, r2, f2, g2, l2⟩ := p1.res.toD st1 rs1
      rw [← h2]
      refine hs w2 σ s1 ds2 s2 rs2 e2 _ fun vs w3 st3 rs3 r3 => ?_
      exact q (v :: vs) w3 (st2.trans st3) rs3 (.cons (r2.mono st3.g st3.f) r3)
/-- the arguments put in the parameters' order -/
def pick {α : Type} (pm : List Nat) (d : α) (xs : List α) : List α := pm.map fun j => xs.getD j d
theorem reps_getD {G : Hp} {φ : List Addr} {vs : List V} {ds : List Py.D} (h : Reps T G φ vs ds) {j : Nat} {d : Py.D} (e : ds[j]? = some d) : Rep T G φ (vs.getD j .non) d := by
  obtain ⟨v, h1, h2⟩ := h.get e
  rw [List.getD_eq_getElem?_getD, h1]
  exact h2
theorem reps_pick {G : Hp} {φ : List Addr} {vs : List V} {ds : List Py.D} (h : Reps T G φ vs ds) : ∀ {pm : List Nat} {as : List Py.D}, pm.mapM (ds[·]?) = some as → Reps T G φ (pick pm .non vs) as
  | [], as, e => by
    cases e
    exact .nil
  | j :: pm, as, e => by
    rw [List.mapM_cons] at e
    cases e1 : ds[j]? with
    | none => rw [e1] at e; cases e
    | some d =>
      rw [e1] at e
      cases e2 : pm.mapM (ds[·]?) with
      | none =>
        simp only [Option.bind_eq_bind, Option.bind_some] at e
        rw [e2] at e
        cases e
      | some r =>
        simp only [Option.bind_eq_bind, Option.bind_some] at e
        rw [e2] at e
        cases e
        exact .cons (reps_getD h e1) (reps_pick h e2)
/-- how a call with keywords binds: n positional values, keywords named ks; pm the parameters' places -/
def KwF (K : PySem.W.Frag) (fd : FuncData) (ps : List Str) (n : Nat) (ks : List Str) (pm : List Nat) : Prop :=
  ∀ (s : Shared) (us ws : List Value), us.length = n → ws.length = ks.length → BindsTo s fd ⟨us, ks.zip ws⟩ (ps.zip (pick pm Value.none (us ++ ws)))
structure FnK (T : Tb) (c : Py.Cx) (X : Cx) (k : Nat) (f : Nat) (a : Addr) (n : Nat) (ks : List Str) (pm : List Nat) : Prop where
  ex : ∃ (fd : FuncData) (ps : List Str), FnOk X.prog X.w X.K X.mg X.base CX0 k a fd ps (spF T c.call f ps.length) ∧ KwF X.K fd ps n ks pm ∧ pm.length = ps.length
  kp : PySem.W.keepIn X.K (.ref a) = true
theorem vals_getD : ∀ {xs : List V} {us : List Value} (j : Nat), Vals xs us → RelV (xs.getD j .non) (us.getD j .none)
  | _, _, _, .nil => by simp; rfl
  | _, _, 0, .cons r _ => by simpa using r
  | _, _, j + 1, .cons _ t => by
    have := vals_getD j t
    simpa using this
theorem vals_pick {xs : List V} {us : List Value} (r : Vals xs us) : ∀ pm : List Nat, Vals (pick pm .non xs) (pick pm .none us)
  | [] => .nil
  | j :: pm => .cons (vals_getD j r) (vals_pick r pm)
theorem kbn_of {K : PySem.W.Frag} {fd : FuncData} {ps : List Str} {n : Nat} {ks : List Str} {pm : List Nat} (h : KwF K fd ps n ks pm) : KBn K fd ps n ks (fun us ws => pick pm Value.none (us ++ ws)) (fun vs zs => pick pm V.non (vs ++ zs)) :=
  ⟨fun s us ws _ l1 l2 => h s us ws l1 l2, fun r1 r2 => vals_pick (r1.append r2) pm⟩
theorem pe_callN0 {CX : CXT} {k : Nat} {f : Addr} {fd : FuncData} {ps ks : List Str} {sp : Sp} {E : XK} {x : Str} {p pos : Pos} {kws : List Keyword} {tk : TA} {g : List Value → List Value → List Value} {gV : List V → List V → List V}
    (F : FnOk X.prog X.w X.K X.mg X.base CX k f fd ps sp) (hr : Room k X.A) (hg : Gl X x) (hm : X.mg x = some (.ref f)) (hk : PySem.W.keepIn X.K (.ref f) = true) (hb : KBn X.K fd ps 0 ks g gV) (hx : Passes CX X E)
    (hkw : PK X kws tk) (hall : (backToKw pos (keywordEach kws X.env)).all (·.1.isSome) = true) (hks : (backToKw pos (keywordEach kws X.env)).filterMap (·.1) = ks)
    (hdb : (x == ("__debug__" : Str)) = false)
    (hpl : ((backTo pos (starEach [] X.env)).any (·.1) || (backToKw pos (keywordEach kws X.env)).any (·.1.isNone)) = false) :
    PE X (.Call (.Name x p) [] kws pos) (fun σ H Q => tk σ H fun zs H2 => zs.length = ks.length ∧ sp (gV [] zs) H2 Q E) := by
  refine ⟨fun pins s σ H Q I h => ?_⟩
  refine wpAny_Call_Name_kw (ld_glob I hg hm ?_ hdb)
  refine PySem.W.callWith_KW0 (h₀ := X.base) I.ok.mod.kin hk hall ?_ hpl
  refine thn (hkw.run pos pins s σ H _ I h) fun ws s2 ⟨zs, H2, I2, rz, l2, q2⟩ => ⟨I2.kIn, ?_⟩
  rw [hks]
  exact run_fnN (us := []) (vs := []) F hr hb hx I2 .nil rz rfl l2 q2
theorem reps_len {G : Hp} {φ : List Addr} {vs : List V} {ds : List Py.D} (h : Reps T G φ vs ds) : vs.length = ds.length := h.length
theorem evs_len : ∀ {Es : List Py.E} {s : Py.St} {ds : List Py.D} {s' : Py.St}, (Es.all fun E => !isStarE E) = true → Py.evs c Es s = some (ds, s') → ds.length = Es.length
  | [], s, ds, s', _, e => by
    simp only [Py.evs, Option.some.injEq, Prod.mk.injEq] at e
    rw [← e.1]
    rfl
  | E :: Es, s, ds, s', h, e => by
    rw [List.all_cons, Bool.and_eq_true] at h
    rw [evs_cons (by simpa using h.1)] at e
    split at e
    · split at e
      · rename_i o s1 e1 ds2 s2 e2
        simp only [Option.some.injEq, Prod.mk.injEq] at e
        rw [← e.1, List.length_cons, List.length_cons, evs_len h.2 e2]
      · cases e
    · cases e
/-- f(e, .., k = v, ..) -/
theorem sim_calk {e : Expr} {es : List Expr} {kws : List Keyword} {Es Ks : List Py.E} {f k : Nat} {a : Addr} {x : Str} {p pos : Pos} {ks : List Str} {pm : List Nat} (F : FnK T c X k f a (e :: es).length ks pm) (hr : Room k X.A) (hg : Gl X x) (hm : X.mg x = some (.ref a)) (hd : (x == ("__debug__" : Str)) = false) (n : notStar e = true)
    (hall : (backToKw pos (keywordEach kws X.env)).all (·.1.isSome) = true) (hks : (backToKw pos (keywordEach kws X.env)).filterMap (·.1) = ks)
    (hpl : ((backTo pos (starEach (e :: es) X.env)).any (·.1) || (backToKw pos (keywordEach kws X.env)).any (·.1.isNone)) = false) (hl : Es.length = (e :: es).length) (hl2 : Ks.length = ks.length) (hst : (Es.all fun E => !isStarE E) = true) (hst2 : (Ks.all fun E => !isStarE E) = true)
    (hs : SimEs T c X (e :: es) Es) (hk : SimKs T c X kws Ks) : SimE T c X (.Call (.Name x p) (e :: es) kws pos) (.calk f pm (Es ++ Ks)) := by
  intro m w σ s o s' rs ev Q q
  simp only [Py.ev] at ev
  rw [evs_append] at ev
  cases e1 : Py.evs c Es s with
  | none => rw [e1] at ev; cases ev
  | some pp =>
    obtain ⟨ds, s1⟩ := pp
    rw [e1] at ev
    simp only at ev
    cases e2 : Py.evs c Ks s1 with
    | none => rw [e2] at ev; cases ev
    | some pp2 =>
      obtain ⟨ds2, s2⟩ := pp2
      rw [e2] at ev
      simp only at ev
      split at ev
      · rename_i as e3
        split at ev
        · rename_i r sto e4
          simp only [Option.some.injEq, Prod.mk.injEq] at ev
          obtain ⟨rfl, rfl⟩ := ev
          obtain ⟨fd, ps, G, b, lp⟩ := F.ex
          refine WE.of (pe_callN G hr hg hm F.kp (kbn_of b) pass0 pa_self pk_self hall hks hd (starEach_not n es X.env) hpl) ?_
          refine hs w σ s ds s1 rs e1 _ fun vs w1 st1 rs1 q1 r1 => ?_
          refine hk w1 σ s1 ds2 s2 rs1 e2 _ fun zs w2 st2 rs2 r2 => ?_
          have r1' := r1.mono st2.g st2.f
          refine ⟨by rw [r1.length, evs_len hst e1, hl], by rw [r2.length, evs_len hst2 e2, hl2], by rw [← lp]; unfold pick; rw [List.length_map], hideE w2, as, s2.sto, r, sto, rfl, rs2.hide, reps_pick (r1'.append r2) e3, e4, fun v w3 st3 rs3 r3 => ?_⟩
          obtain ⟨b1, b2, b3⟩ := rs2.back st3 rs3
          exact q v (unhide w2 w3) ((st1.trans st2).trans b1) b2 (fun qq => by simp only [Py.E.quiet] at qq; cases qq) (PO.of ((b3 v r r3).from (st1.trans st2)))
        · cases ev
      · cases ev
theorem sim_calk0 {kws : List Keyword} {Ks : List Py.E} {f k : Nat} {a : Addr} {x : Str} {p pos : Pos} {ks : List Str} {pm : List Nat} (F : FnK T c X k f a 0 ks pm) (hr : Room k X.A) (hg : Gl X x) (hm : X.mg x = some (.ref a)) (hd : (x == ("__debug__" : Str)) = false)
    (hall : (backToKw pos (keywordEach kws X.env)).all (·.1.isSome) = true) (hks : (backToKw pos (keywordEach kws X.env)).filterMap (·.1) = ks)
    (hpl : ((backTo pos (starEach [] X.env)).any (·.1) || (backToKw pos (keywordEach kws X.env)).any (·.1.isNone)) = false) (hl2 : Ks.length = ks.length) (hst2 : (Ks.all fun E => !isStarE E) = true)
    (hk : SimKs T c X kws Ks) : SimE T c X (.Call (.Name x p) [] kws pos) (.calk f pm Ks) := by
  intro m w σ s o s' rs ev Q q
  simp only [Py.ev] at ev
  split at ev
  · rename_i ds s1 e1
    split at ev
    · rename_i as e3
      split at ev
      · rename_i r sto e4
        simp only [Option.some.injEq, Prod.mk.injEq] at ev
        obtain ⟨rfl, rfl⟩ := ev
        obtain ⟨fd, ps, G, b, lp⟩ := F.ex
        refine WE.of (pe_callN0 G hr hg hm F.kp (kbn_of b) pass0 pk_self hall hks hd hpl) ?_
        refine hk w σ s ds s1 rs e1 _ fun zs w2 st2 rs2 r2 => ?_
        refine ⟨by rw [r2.length, evs_len hst2 e1, hl2], by rw [← lp]; unfold pick; rw [List.length_map], hideE w2, as, s1.sto, r, sto, rfl, rs2.hide, reps_pick r2 e3, e4, fun v w3 st3 rs3 r3 => ?_⟩
        obtain ⟨b1, b2, b3⟩ := rs2.back st3 rs3
        exact q v (unhide w2 w3) (st2.trans b1) b2 (fun qq => by simp only [Py.E.quiet] at qq; cases qq) (PO.of ((b3 v r r3).from st2))
      · cases ev
    · cases ev
  · cases ev
/-! ### a new instance -/
structure MkF (T : Tb) (c : Py.Cx) (X : Cx) (k : Nat) (q : Nat) (C : Addr) : Prop where
  ex : ∃ (f : Addr) (fd : FuncData) (ps : List Str), Mk X.K C f ∧ FnOk X.prog X.w X.K X.mg X.base CX0 k f fd ps (spM T c.make q ps.length) ∧ Binds X.K fd ps [] ∧ ∀ ds sto r, c.make q ds sto = some r → ds.length + 1 = ps.length
  cls : T.cls q = some C
theorem sim_mk {e : Expr} {es : List Expr} {Es : List Py.E} {qc k : Nat} {C : Addr} {x : Str} {p pos : Pos} (F : MkF T c X k qc C) (hr : Room (k + 1) X.A) (hg : Gl X x) (hm : X.mg x = some (.ref C)) (hd : (x == ("__debug__" : Str)) = false) (n : notStar e = true) (hns : (backTo pos (starEach es X.env)).any (·.1) = false)
    (hs : SimEs T c X (e :: es) Es) : SimE T c X (.Call (.Name x p) (e :: es) [] pos) (.mk qc Es) := by
  intro m w σ s o s' rs ev Q q
  simp only [Py.ev] at ev
  split at ev
  · rename_i ds s1 e1
    split at ev
    · rename_i l sto e2
      simp only [Option.some.injEq, Prod.mk.injEq] at ev
      obtain ⟨rfl, rfl⟩ := ev
      obtain ⟨f, fd, ps, M, G, b, ar⟩ := F.ex
      refine WE.of (pe_make (dvs := []) (ds := []) M G hr hg hm b .nil pass0 pa_self hd (starEach_not n es X.env) hns) ?_
      refine hs w σ s ds s1 rs e1 _ fun vs w1 st1 rs1 q1 r1 => ?_
      intro y dx hy hdx hne
      rw [List.append_nil]
      have hH : GLe w1.H (upd (upd w1.H dx (.own y)) y (.ins C dx [])) := fun a u h => by
        rw [upd_ne (ne_of_none h hy), upd_ne (ne_of_none h hdx)]
        exact h
      have hcy : cellsL w1.lab y = none := by
        cases z : cellsL w1.lab y with
        | none => rfl
        | some r => exact absurd hy (rs1.lg y r (cellsL_some z).1).2
      have hGy : w1.G y = none := by
        cases z : w1.G y with
        | none => rfl
        | some u => rw [rs1.gh y u z] at hy; cases hy
      let w2 : Wd := { w1 with H := upd (upd w1.H dx (.own y)) y (.ins C dx []), lab := fun a => if a = y then some (.slot 0, []) else cellsL w1.lab a }
      have l1 : w2.lab y = some (.slot 0, []) := if_pos rfl
      have l2 : ∀ {a}, a ≠ y → w2.lab a = cellsL w1.lab a := fun {a} h => if_neg h
      have rs2 : RS T w2 [] ⟨[], s1.sto⟩ := by
        refine ⟨⟨fun a u h => hH a u (rs1.gh a u h), fun a r h => ?_⟩, fun i u h => by simp at h, fun j u h => ?_, rs1.len, rfl⟩
        · by_cases ha : a = y
          · subst ha
            exact ⟨hGy, by show upd (upd w1.H dx (.own a)) a (.ins C dx []) a ≠ none; rw [upd_same]; exact fun z => nomatch z⟩
          · rw [l2 ha] at h
            obtain ⟨z1, z2⟩ := rs1.lg a r (cellsL_some h).1
            exact ⟨z1, gle_ne hH z2⟩
        · obtain ⟨a, h1, h2⟩ := rs1.sto j u h
          refine ⟨a, h1, RepO.move ?_ h2⟩
          refine ⟨GLe.refl _, PLe.refl _, fun b π z => ⟨?_, fun o h => hH b o h⟩⟩
          rw [l2 fun z2 => ?_]
          · exact cellsL_cell z
          · subst z2
            exact (rs1.lg b _ z).2 hy
      have st2 : Stp (hideE w1) w2 := by
        refine ⟨GLe.refl _, PLe.refl _, fun a u h hn => ⟨hH a u h, ?_, rfl⟩, fun a h => gle_ne hH h⟩
        rw [l2 (ne_of_none h hy)]
        exact hn
      refine ⟨?_, w2, y, vs, ds, s1.sto, l, sto, rfl, rfl, rs2, l1, .ins l1 F.cls upd_same .nil, fun a i π h => ?_, r1, e2, fun w3 st3 rs3 r3 => ⟨rfl, ?_⟩⟩
      · rw [List.length_cons, r1.length]
        exact ar _ _ _ e2
      · by_cases ha : a = y
        · exact ha
        · rw [l2 ha] at h
          obtain ⟨_, n, hn⟩ := cellsL_some h
          cases hn
      · obtain ⟨b1, b2, b3⟩ := rs1.back (st2.trans st3) rs3
        exact q (.ref y) (unhide w1 w3) (st1.trans b1) b2 (fun qq => by simp only [Py.E.quiet] at qq; cases qq) (PO.of (Res.d r3))
    · cases ev
  · cases ev
end
end PyS
end

section
set_option Elab.async false
set_option linter.all false
set_option maxRecDepth 100000
set_option maxHeartbeats 2000000
/-! Z1: zip of two lists or tuples, to any target. -/
namespace PyS
open PySem PySem.Spec PyProof.Rows L2
abbrev IsZg (h : Heap) (zw TIw TOw : Addr) (f0 : Value) (f1 : Bool) : Prop :=
  h.get? zw = some { cls := .type "zip", dict := none, data := .fields #[f0, .bool f1, .bool false, .ref TIw, .ref TOw], slots := #[] }
section
variable {prog : Program} {w : World} {A : Around} {E : Value → Shared → Prop} {s : Shared} {zw TIw TOw i1w i2w : Addr} {fp1 fp2 : List Addr} {n1w n2w i : Nat} {P1 P2 : Nat → Value → Prop} {St1 St2 : Nat → Heap → Prop} {a1w a2w : Value} {f0 : Value} {f1 : Bool}
/-- nothing out, or the pair at T -/
def Outs (f0 : Value) : Prop := f0 = .none ∨ ∃ T : Addr, f0 = rawInt (T : Int)
theorem own_zip {Qw : Bool → Shared → Prop} (hfw : Outs f0) (hzw : IsZg s.heap zw TIw TOw f0 f1) (h1 : Qw true s) (h2 : ∀ hw', IsZg hw' zw TIw TOw f0 true → Heap.SameBut zw s.heap hw' → Qw false { s with heap := hw' }) :
    wpAny (model prog w) A (Builtin.SmallTypes.ownedTupleIsFree (.ref zw)) Qw E s := by
  unfold Builtin.SmallTypes.ownedTupleIsFree
  rcases hfw with ew | ⟨T, ew⟩
  · subst ew
    exact wpAny_bind (wpAny_field hzw rfl (x := .none) rfl (wpAny_pure h1))
  · subst ew
    refine wpAny_bind (wpAny_field hzw rfl (x := rawInt (T : Int)) rfl ?_)
    show wpAny _ _ (loadIfAlive ((T : Int).toNat) >>= _) _ _ _
    rw [Int.toNat_natCast]
    have alive : ∀ {Qw : Option Obj → Shared → Prop}, Qw (s.heap.get? T) s → wpAny (model prog w) A (loadIfAlive T) Qw E s := fun {Qw} h _ _ _ => h
    refine wpAny_bind (alive ?_)
    cases hTw : s.heap.get? T with
    | none =>
      simp only [Option.isNone_none, if_true]
      exact wpAny_pure h1
    | some oT =>
      simp only [Option.isNone_some, Bool.false_eq_true, if_false]
      refine wpAny_bind (wpAny_field hzw rfl (x := .bool f1) rfl ?_)
      cases f1 with
      | true =>
        rw [if_neg (show ¬ ((Value.bool true != Value.bool true) = true) from Bool.false_ne_true)]
        exact wpAny_pure (h2 s.heap hzw (Heap.SameBut.refl _ _))
      | false =>
        rw [if_pos (show (Value.bool false != Value.bool true) = true from rfl)]
        exact wpAny_bind (wpAny_setField_rec hzw (by simp) fun h₁ hz₁ hs₁ => wpAny_pure (h2 h₁ hz₁ hs₁))
theorem zg_item {Qw : Value → Shared → Prop} (hfw : Outs f0) (Sw : ZipSep2 zw TIw TOw i1w i2w fp1 fp2) (D1w : Draws prog w A i1w fp1 n1w P1 St1) (D2w : Draws prog w A i2w fp2 n2w P2 St2)
    (hzw : IsZg s.heap zw TIw TOw f0 f1) (hTIw : IsTupOf2 s.heap TIw (.ref i1w) (.ref i2w)) (hTOw : IsTupOf2 s.heap TOw a1w a2w) (st1w : St1 i s.heap) (st2w : St2 i s.heap) (hlt1 : i < n1w) (hlt2 : i < n2w)
    (hQ : ∀ x1w x2w hw' tkw g0w g1w b1 b2, P1 i x1w → P2 i x2w → Outs g0w → IsZg hw' zw TIw TOw g0w g1w → IsTupOf2 hw' TOw b1 b2 → St1 (i + 1) hw' → St2 (i + 1) hw' → IsTupOf2 hw' s.heap.objs.size x1w x2w → hw'.objs.size = s.heap.objs.size + 1 →
      (∀ c o, c ≠ zw → c ≠ TOw → c ≠ i1w → c ≠ i2w → s.heap.get? c = some o → hw'.get? c = some o) → Qw (.ref s.heap.objs.size) { s with heap := hw', toks := tkw }) :
    wpAny (model prog w) A (Builtin.«zip.__next__» ⟨[.ref zw], []⟩) (fun fin s' => ∃ v, fin = .done (.ret v) ∧ Qw v s') E s := by
  obtain ⟨hpw, gw, dw, tk0w, osw⟩ := s
  show wpAny _ _ (field (.ref zw) 2 >>= _) _ _ _
  refine wpAny_bind (wpAny_field hzw rfl (x := .bool false) rfl ?_)
  show wpAny _ _ (field (.ref zw) 3 >>= _) _ _ _
  refine wpAny_bind (wpAny_field hzw rfl (x := .ref TIw) rfl ?_)
  refine wpAny_bind (wpAny_seqItems hTIw rfl ?_)
  show wpAny _ _ (Builtin.SmallTypes.ownedTupleIsFree (.ref zw) >>= _) _ _ _
  refine wpAny_bind (own_zip hfw hzw ?_ fun h₁ hz₁ hs₁ => ?_)
  · simp only [if_true]
    refine wpAny_bind (wpAny_rule ?_)
    refine wpAny_bind (wpAny_field hzw rfl (x := .ref TOw) rfl ?_)
    refine wpAny_bind (wpAny_setField_rec hzw (by simp) fun g0w hz0w hs0w => ?_)
    replace hz0w : IsZg g0w zw TIw TOw .ellipsis f1 := hz0w
    replace hs0w : Heap.SameBut zw hpw g0w := hs0w
    refine wpAny_bind ?_
    simp only [List.zipIdx_cons, List.zipIdx_nil, List.forIn_cons, List.forIn_nil]
    refine wpAny_bind (wpAny_bind (wpAny_onRaise ?_))
    show wpAny _ _ (Builtin.SmallTypes.nextOf (.ref i1w) >>= _) _ _ ⟨g0w, gw, dw, tk0w, osw⟩
    refine wpAny_bind (D1w.item i _ _ _ hlt1 (D1w.over st1w hs0w Sw.zf1) fun x1w p1w tk1w hx1 sn1w hp1w => wpAny_pure ?_)
    replace hp1w : Heap.SameBut i1w g0w p1w := hp1w
    have hU1w : IsTupOf2 p1w TOw a1w a2w := hp1w.extBut _ _ Sw.Ti1 (hs0w.extBut _ _ Sw.TOz hTOw)
    refine wpAny_bind (wpAny_seqItems (s := ⟨p1w, gw, dw, tk1w, osw⟩) hU1w rfl ?_)
    refine wpAny_bind (updateSeq_IsTupOf2 (s := ⟨p1w, gw, dw, tk1w, osw⟩) hU1w fun g1w hT1w hs1w => ?_)
    replace hT1w : IsTupOf2 g1w TOw x1w a2w := hT1w
    replace hs1w : Heap.SameBut TOw p1w g1w := hs1w
    refine wpAny_bind (wpAny_letGo (wpAny_pure ?_))
    refine wpAny_bind (wpAny_bind (wpAny_onRaise ?_))
    show wpAny _ _ (Builtin.SmallTypes.nextOf (.ref i2w) >>= _) _ _ ⟨g1w, gw, dw, tk1w, osw⟩
    refine wpAny_bind (D2w.item i _ _ _ hlt2 (D2w.over (D2w.over (D2w.over st2w hs0w Sw.zf2) hp1w Sw.sep1_2) hs1w Sw.Tf2) fun x2w p2w tk2w hx2 sn2w hp2w => wpAny_pure ?_)
    replace hp2w : Heap.SameBut i2w g1w p2w := hp2w
    have hU2w : IsTupOf2 p2w TOw x1w a2w := hp2w.extBut _ _ Sw.Ti2 hT1w
    refine wpAny_bind (wpAny_seqItems (s := ⟨p2w, gw, dw, tk2w, osw⟩) hU2w rfl ?_)
    refine wpAny_bind (updateSeq_IsTupOf2 (s := ⟨p2w, gw, dw, tk2w, osw⟩) hU2w fun g2w hT2w hs2w => ?_)
    replace hT2w : IsTupOf2 g2w TOw x1w x2w := hT2w
    replace hs2w : Heap.SameBut TOw p2w g2w := hs2w
    refine wpAny_bind (wpAny_letGo (wpAny_pure (wpAny_pure ?_)))
    refine wpAny_bind (wpAny_seqItems (s := ⟨g2w, gw, dw, tk2w, osw⟩) hT2w rfl ?_)
    refine wpAny_bind (wpAny_newTuple ?_)
    have hszw : g2w.objs.size = hpw.objs.size := by rw [hs2w.1, hp2w.1, hs1w.1, hp1w.1, hs0w.1]
    have hzzw : IsZg g2w zw TIw TOw .ellipsis f1 := (hs2w.extBut _ _ Sw.TOz.symm (hp2w.extBut _ _ Sw.zi2 (hs1w.extBut _ _ Sw.TOz.symm (hp1w.extBut _ _ Sw.zi1 hz0w))))
    have hkkw : ∀ c o, c ≠ zw → c ≠ TOw → c ≠ i1w → c ≠ i2w → hpw.get? c = some o → g2w.get? c = some o := fun c o cz cT c1 c2 ew =>
      (hs2w.extBut _ _ cT (hp2w.extBut _ _ c2 (hs1w.extBut _ _ cT (hp1w.extBut _ _ c1 (hs0w.extBut _ _ cz ew)))))
    have hj1w : St1 (i + 1) g2w := (D1w.over (D1w.over (D1w.over sn1w hs1w Sw.Tf1) hp2w Sw.sep2_1) hs2w Sw.Tf1)
    have hj2w : St2 (i + 1) g2w := (D2w.over sn2w hs2w Sw.Tf2)
    have hzltw : zw < g2w.objs.size := Heap.lt_size hzzw
    show wpAny _ _ (Builtin.SmallTypes.ownedTupleHandOut (.ref zw) (.ref g2w.objs.size) >>= _) _ _ ⟨g2w.push { cls := .type "tuple", data := .seq #[x1w, x2w] }, gw, dw, tk2w, osw⟩
    refine wpAny_bind ?_
    unfold Builtin.SmallTypes.ownedTupleHandOut
    have hz₆ : IsZg (g2w.push { cls := .type "tuple", data := .seq #[x1w, x2w] }) zw TIw TOw .ellipsis f1 := Heap.get?_push_of_some _ hzzw
    refine wpAny_bind (wpAny_setField_rec hz₆ (by simp) fun h₇ hz₇ hs₇ => ?_)
    replace hz₇ : IsZg h₇ zw TIw TOw (rawInt g2w.objs.size) f1 := hz₇
    refine wpAny_setField_rec hz₇ (by simp) fun h₈ hz₈ hs₈ => ?_
    replace hz₈ : IsZg h₈ zw TIw TOw (rawInt g2w.objs.size) false := hz₈
    replace hs₇ : Heap.SameBut zw (g2w.push { cls := .type "tuple", data := .seq #[x1w, x2w] }) h₇ := hs₇
    replace hs₈ : Heap.SameBut zw h₇ h₈ := hs₈
    have upw : ∀ c o, c ≠ zw → g2w.get? c = some o → h₈.get? c = some o := fun c o c1 ew => hs₈.extBut _ _ c1 (hs₇.extBut _ _ c1 (Heap.get?_push_of_some _ ew))
    have hT₈ : IsTupOf2 h₈ g2w.objs.size x1w x2w := hs₈.extBut _ _ (Nat.ne_of_gt hzltw) (hs₇.extBut _ _ (Nat.ne_of_gt hzltw) (Heap.get?_push_size _ rfl))
    have hz8 : h₈.objs.size = g2w.objs.size + 1 := by rw [hs₈.1, hs₇.1, Heap.size_push]
    rw [hszw] at hz₈ hT₈ hz8
    refine wpAny_pure ⟨_, rfl, ?_⟩
    show Qw (.ref g2w.objs.size) ⟨h₈, gw, dw, tk2w, osw⟩
    rw [hszw]
    exact hQ x1w x2w h₈ tk2w _ _ _ _ hx1 hx2 (.inr ⟨_, rfl⟩) hz₈ (upw _ _ Sw.TOz hT2w) (D1w.frame _ _ _ hj1w fun b hbw o ew => upw b o (fun qw => Sw.zf1 (qw ▸ hbw)) ew) (D2w.frame _ _ _ hj2w fun b hbw o ew => upw b o (fun qw => Sw.zf2 (qw ▸ hbw)) ew) hT₈ hz8 fun c o cz cT c1 c2 ew => upw c o cz (hkkw c o cz cT c1 c2 ew)
  · simp only [Bool.false_eq_true, if_false]
    replace hs₁ : Heap.SameBut zw hpw h₁ := hs₁
    refine wpAny_bind ?_
    rw [← Array.forIn_toList]
    simp only [List.forIn_cons, List.forIn_nil]
    refine wpAny_bind (wpAny_bind (wpAny_holding ?_))
    show wpAny _ _ (Builtin.SmallTypes.nextOf (.ref i1w) >>= _) _ _ ⟨h₁, gw, dw, tk0w, osw⟩
    refine wpAny_bind (D1w.item i ⟨h₁, gw, dw, tk0w, osw⟩ _ _ hlt1 (D1w.over st1w hs₁ Sw.zf1) fun x1w p1w tk1w hx1 sn1w hp1w => wpAny_pure ?_)
    replace hp1w : Heap.SameBut i1w h₁ p1w := hp1w
    refine wpAny_pure ?_
    refine wpAny_bind (wpAny_bind (wpAny_holding ?_))
    show wpAny _ _ (Builtin.SmallTypes.nextOf (.ref i2w) >>= _) _ _ ⟨p1w, gw, dw, tk1w, osw⟩
    refine wpAny_bind (D2w.item i ⟨p1w, gw, dw, tk1w, osw⟩ _ _ hlt2 (D2w.over (D2w.over st2w hs₁ Sw.zf2) hp1w Sw.sep1_2) fun x2w p2w tk2w hx2 sn2w hp2w => wpAny_pure ?_)
    replace hp2w : Heap.SameBut i2w p1w p2w := hp2w
    refine wpAny_pure (wpAny_pure ?_)
    show wpAny _ _ (newTuple [x1w, x2w] >>= _) _ _ _
    refine wpAny_bind (wpAny_newTuple ?_)
    have hszw : p2w.objs.size = hpw.objs.size := by rw [hp2w.1, hp1w.1, hs₁.1]
    have hz₃ : IsZg p2w zw TIw TOw f0 true := hp2w.extBut _ _ Sw.zi2 (hp1w.extBut _ _ Sw.zi1 hz₁)
    have hkkw : ∀ c o, c ≠ zw → c ≠ i1w → c ≠ i2w → hpw.get? c = some o → p2w.get? c = some o := fun c o c1 c2 c3 ew => hp2w.extBut _ _ c3 (hp1w.extBut _ _ c2 (hs₁.extBut _ _ c1 ew))
    have hTO3 : IsTupOf2 p2w TOw a1w a2w := hkkw _ _ Sw.TOz Sw.Ti1 Sw.Ti2 hTOw
    have hj1w : St1 (i + 1) p2w := D1w.over sn1w hp2w Sw.sep2_1
    refine wpAny_pure ⟨_, rfl, ?_⟩
    show Qw (.ref p2w.objs.size) ⟨p2w.push { cls := .type "tuple", data := .seq #[x1w, x2w] }, gw, dw, tk2w, osw⟩
    have hpr : IsTupOf2 (p2w.push { cls := .type "tuple", data := .seq #[x1w, x2w] }) p2w.objs.size x1w x2w := Heap.get?_push_size _ rfl
    have hz4 : (p2w.push { cls := .type "tuple", data := .seq #[x1w, x2w] }).objs.size = p2w.objs.size + 1 := Heap.size_push ..
    rw [hszw] at hpr hz4 ⊢
    exact hQ x1w x2w _ tk2w _ _ _ _ hx1 hx2 hfw (Heap.get?_push_of_some _ hz₃) (Heap.get?_push_of_some _ hTO3) (D1w.frame _ _ _ hj1w fun b hbw o ew => Heap.get?_push_of_some _ ew) (D2w.frame _ _ _ sn2w fun b hbw o ew => Heap.get?_push_of_some _ ew) hpr hz4 fun c o cz cT c1 c2 ew => Heap.get?_push_of_some _ (hkkw c o cz c1 c2 ew)
theorem zg_end {Qw : Fin → Shared → Prop} (hfw : Outs f0) (Sw : ZipSep2 zw TIw TOw i1w i2w fp1 fp2) (D1w : Draws prog w A i1w fp1 n1w P1 St1) (D2w : Draws prog w A i2w fp2 n2w P2 St2)
    (hzw : IsZg s.heap zw TIw TOw f0 f1) (hTIw : IsTupOf2 s.heap TIw (.ref i1w) (.ref i2w)) (hTOw : IsTupOf2 s.heap TOw a1w a2w) (st1w : St1 i s.heap) (st2w : St2 i s.heap) (hle1 : i ≤ n1w) (hle2 : i ≤ n2w) (hend : i = n1w ∨ i = n2w)
    (hE : ∀ hw' tkw ew, (∀ c o, c ≠ zw → c ≠ TOw → c ≠ i1w → c ≠ i2w → s.heap.get? c = some o → hw'.get? c = some o) → (∃ o, hw'.get? ew = some o ∧ o.cls = .type "StopIteration") → E (.ref ew) { s with heap := hw', toks := tkw }) :
    wpAny (model prog w) A (Builtin.«zip.__next__» ⟨[.ref zw], []⟩) Qw E s := by
  obtain ⟨hpw, gw, dw, tk0w, osw⟩ := s
  show wpAny _ _ (field (.ref zw) 2 >>= _) _ _ _
  refine wpAny_bind (wpAny_field hzw rfl (x := .bool false) rfl ?_)
  show wpAny _ _ (field (.ref zw) 3 >>= _) _ _ _
  refine wpAny_bind (wpAny_field hzw rfl (x := .ref TIw) rfl ?_)
  refine wpAny_bind (wpAny_seqItems hTIw rfl ?_)
  show wpAny _ _ (Builtin.SmallTypes.ownedTupleIsFree (.ref zw) >>= _) _ _ _
  refine wpAny_bind (own_zip hfw hzw ?_ fun h₁ hz₁ hs₁ => ?_)
  · simp only [if_true]
    refine wpAny_bind (wpAny_rule ?_)
    refine wpAny_bind (wpAny_field hzw rfl (x := .ref TOw) rfl ?_)
    refine wpAny_bind (wpAny_setField_rec hzw (by simp) fun g0w hz0w hs0w => ?_)
    replace hz0w : IsZg g0w zw TIw TOw .ellipsis f1 := hz0w
    replace hs0w : Heap.SameBut zw hpw g0w := hs0w
    refine wpAny_bind ?_
    simp only [List.zipIdx_cons, List.zipIdx_nil, List.forIn_cons, List.forIn_nil]
    refine wpAny_bind (wpAny_bind (wpAny_onRaise ?_))
    show wpAny _ _ (Builtin.SmallTypes.nextOf (.ref i1w) >>= _) _ _ ⟨g0w, gw, dw, tk0w, osw⟩
    by_cases hlt1 : i < n1w
    · refine wpAny_bind (D1w.item i _ _ _ hlt1 (D1w.over st1w hs0w Sw.zf1) fun x1w p1w tk1w hx1 sn1w hp1w => wpAny_pure ?_)
      replace hp1w : Heap.SameBut i1w g0w p1w := hp1w
      have hU1w : IsTupOf2 p1w TOw a1w a2w := hp1w.extBut _ _ Sw.Ti1 (hs0w.extBut _ _ Sw.TOz hTOw)
      refine wpAny_bind (wpAny_seqItems (s := ⟨p1w, gw, dw, tk1w, osw⟩) hU1w rfl ?_)
      refine wpAny_bind (updateSeq_IsTupOf2 (s := ⟨p1w, gw, dw, tk1w, osw⟩) hU1w fun g1w hT1w hs1w => ?_)
      replace hT1w : IsTupOf2 g1w TOw x1w a2w := hT1w
      replace hs1w : Heap.SameBut TOw p1w g1w := hs1w
      refine wpAny_bind (wpAny_letGo (wpAny_pure ?_))
      have hi2 : i = n2w := by omega
      refine wpAny_bind (wpAny_bind (wpAny_onRaise ?_))
      show wpAny _ _ (Builtin.SmallTypes.nextOf (.ref i2w) >>= _) _ _ ⟨g1w, gw, dw, tk1w, osw⟩
      refine wpAny_bind (D2w.done ⟨g1w, gw, dw, tk1w, osw⟩ _ _ (by rw [← hi2]; exact (D2w.over (D2w.over (D2w.over st2w hs0w Sw.zf2) hp1w Sw.sep1_2) hs1w Sw.Tf2)) fun qw ew hqw hew => ?_)
      replace hqw : Heap.ExtBut i2w g1w qw := hqw
      obtain ⟨oew, hoew, hce⟩ := hew
      replace hoew : qw.get? ew = some oew := hoew
      have hzq : IsZg qw zw TIw TOw .ellipsis f1 := hqw _ _ Sw.zi2 (hs1w.extBut _ _ Sw.TOz.symm (hp1w.extBut _ _ Sw.zi1 hz0w))
      have hez : ew ≠ zw := fun x => by subst x; rw [hzq] at hoew; cases hoew; simp at hce
      refine wpAny_setField_rec (s := ⟨qw, gw, dw, tk1w, osw⟩) hzq (by simp) fun q' _ hq' => ?_
      replace hq' : Heap.SameBut zw qw q' := hq'
      exact hE q' tk1w ew (fun c o cz cT c1 c2 x => hq'.extBut _ _ cz (hqw _ _ c2 (hs1w.extBut _ _ cT (hp1w.extBut _ _ c1 (hs0w.extBut _ _ cz x))))) ⟨oew, hq'.extBut _ _ hez hoew, hce⟩
    · have hi1 : i = n1w := by omega
      refine wpAny_bind (D1w.done ⟨g0w, gw, dw, tk0w, osw⟩ _ _ (by rw [← hi1]; exact (D1w.over st1w hs0w Sw.zf1)) fun qw ew hqw hew => ?_)
      replace hqw : Heap.ExtBut i1w g0w qw := hqw
      obtain ⟨oew, hoew, hce⟩ := hew
      replace hoew : qw.get? ew = some oew := hoew
      have hzq : IsZg qw zw TIw TOw .ellipsis f1 := hqw _ _ Sw.zi1 hz0w
      have hez : ew ≠ zw := fun x => by subst x; rw [hzq] at hoew; cases hoew; simp at hce
      refine wpAny_setField_rec (s := ⟨qw, gw, dw, tk0w, osw⟩) hzq (by simp) fun q' _ hq' => ?_
      replace hq' : Heap.SameBut zw qw q' := hq'
      exact hE q' tk0w ew (fun c o cz cT c1 c2 x => hq'.extBut _ _ cz (hqw _ _ c1 (hs0w.extBut _ _ cz x))) ⟨oew, hq'.extBut _ _ hez hoew, hce⟩
  · simp only [Bool.false_eq_true, if_false]
    replace hs₁ : Heap.SameBut zw hpw h₁ := hs₁
    refine wpAny_bind ?_
    rw [← Array.forIn_toList]
    simp only [List.forIn_cons, List.forIn_nil]
    refine wpAny_bind (wpAny_bind (wpAny_holding ?_))
    show wpAny _ _ (Builtin.SmallTypes.nextOf (.ref i1w) >>= _) _ _ ⟨h₁, gw, dw, tk0w, osw⟩
    by_cases hlt1 : i < n1w
    · refine wpAny_bind (D1w.item i ⟨h₁, gw, dw, tk0w, osw⟩ _ _ hlt1 (D1w.over st1w hs₁ Sw.zf1) fun x1w p1w tk1w hx1 sn1w hp1w => wpAny_pure ?_)
      replace hp1w : Heap.SameBut i1w h₁ p1w := hp1w
      refine wpAny_pure ?_
      have hi2 : i = n2w := by omega
      refine wpAny_bind (wpAny_bind (wpAny_holding ?_))
      show wpAny _ _ (Builtin.SmallTypes.nextOf (.ref i2w) >>= _) _ _ ⟨p1w, gw, dw, tk1w, osw⟩
      refine wpAny_bind (D2w.done ⟨p1w, gw, dw, tk1w, osw⟩ _ _ (by rw [← hi2]; exact (D2w.over (D2w.over st2w hs₁ Sw.zf2) hp1w Sw.sep1_2)) fun qw ew hqw hew => ?_)
      replace hqw : Heap.ExtBut i2w p1w qw := hqw
      exact hE qw tk1w ew (fun c o cz cT c1 c2 x => hqw _ _ c2 (hp1w.extBut _ _ c1 (hs₁.extBut _ _ cz x))) hew
    · have hi1 : i = n1w := by omega
      refine wpAny_bind (D1w.done ⟨h₁, gw, dw, tk0w, osw⟩ _ _ (by rw [← hi1]; exact (D1w.over st1w hs₁ Sw.zf1)) fun qw ew hqw hew => ?_)
      replace hqw : Heap.ExtBut i1w h₁ qw := hqw
      exact hE qw tk0w ew (fun c o cz cT c1 c2 x => hqw _ _ c1 (hs₁.extBut _ _ cz x)) hew
theorem zg_pyNext_item {Qw : Option Value → Shared → Prop} (hfw : Outs f0) (Sw : ZipSep2 zw TIw TOw i1w i2w fp1 fp2) (D1w : Draws prog w A.in1 i1w fp1 n1w P1 St1) (D2w : Draws prog w A.in1 i2w fp2 n2w P2 St2)
    (hzw : IsZg s.heap zw TIw TOw f0 f1) (hTIw : IsTupOf2 s.heap TIw (.ref i1w) (.ref i2w)) (hTOw : IsTupOf2 s.heap TOw a1w a2w) (st1w : St1 i s.heap) (st2w : St2 i s.heap) (hlt1 : i < n1w) (hlt2 : i < n2w)
    (hQ : ∀ x1w x2w hw' tkw g0w g1w b1 b2, P1 i x1w → P2 i x2w → Outs g0w → IsZg hw' zw TIw TOw g0w g1w → IsTupOf2 hw' TOw b1 b2 → St1 (i + 1) hw' → St2 (i + 1) hw' → IsTupOf2 hw' s.heap.objs.size x1w x2w → hw'.objs.size = s.heap.objs.size + 1 →
      (∀ c o, c ≠ zw → c ≠ TOw → c ≠ i1w → c ≠ i2w → s.heap.get? c = some o → hw'.get? c = some o) → Qw (some (.ref s.heap.objs.size)) { s with heap := hw', toks := tkw }) :
    wpAny (model prog w) A (pyNext (.ref zw)) Qw E s := by
  have hTw : s.TypeIs (.ref zw) "zip" := ⟨_, hzw, rfl⟩
  unfold pyNext
  exact wpAny_bind (wpAny_attempt (wpAny_callSpecial?_slot (name := Str.ofString "__next__") hTw F.slot_zip_next
    (wpAny_call_entry F.slot_zip_next hTw F.entry_zip_next
      (zg_item hfw Sw D1w D2w hzw hTIw hTOw st1w st2w hlt1 hlt2 fun x1w x2w hw' tkw g0w g1w b1 b2 y1 y2 y3 y4 y5 y6 y7 y8 y9 y10 => wpAny_pure (hQ x1w x2w hw' tkw g0w g1w b1 b2 y1 y2 y3 y4 y5 y6 y7 y8 y9 y10)) (F.args_zip_next_1 _))))
theorem zg_pyNext_end {Qw : Option Value → Shared → Prop} (hfw : Outs f0) (Sw : ZipSep2 zw TIw TOw i1w i2w fp1 fp2) (D1w : Draws prog w A.in1 i1w fp1 n1w P1 St1) (D2w : Draws prog w A.in1 i2w fp2 n2w P2 St2)
    (hzw : IsZg s.heap zw TIw TOw f0 f1) (hTIw : IsTupOf2 s.heap TIw (.ref i1w) (.ref i2w)) (hTOw : IsTupOf2 s.heap TOw a1w a2w) (st1w : St1 i s.heap) (st2w : St2 i s.heap) (hle1 : i ≤ n1w) (hle2 : i ≤ n2w) (hend : i = n1w ∨ i = n2w)
    (hQ : ∀ hw' tkw, (∀ c o, c ≠ zw → c ≠ TOw → c ≠ i1w → c ≠ i2w → s.heap.get? c = some o → hw'.get? c = some o) → Qw none { s with heap := hw', toks := tkw }) : wpAny (model prog w) A (pyNext (.ref zw)) Qw E s := by
  have hTw : s.TypeIs (.ref zw) "zip" := ⟨_, hzw, rfl⟩
  unfold pyNext
  refine wpAny_bind (wpAny_attempt (wpAny_callSpecial?_slot (name := Str.ofString "__next__") hTw F.slot_zip_next
    (wpAny_call_entry F.slot_zip_next hTw F.entry_zip_next (zg_end hfw Sw D1w D2w hzw hTIw hTOw st1w st2w hle1 hle2 hend fun hw' tkw ew hkw hew => ?_) (F.args_zip_next_1 _))))
  obtain ⟨o, ho, hcw⟩ := hew
  refine wpAny_bind (wpAny_isInstance (T := "StopIteration") (b := true) ⟨o, ho, hcw⟩ isSubtype_stop ?_)
  exact wpAny_pure (hQ _ _ hkw)
/-- a target of one name, or of several -/
theorem zg_letGo {tg : Expr} {T : Addr} {Qw : Unit → Shared → Prop} (ht : (∃ y p, tg = .Name y p) ∨ ∃ es k p, tg = .Tuple es k p) (hfw : Outs f0) (hzw : IsZg s.heap zw TIw TOw f0 f1)
    (hQ : ∀ hw' g0w, Outs g0w → IsZg hw' zw TIw TOw g0w f1 → Heap.SameBut zw s.heap hw' → Qw () { s with heap := hw' }) : wpAny (model prog w) A (letOwnedTupleGo tg (.ref zw) (.ref T)) Qw E s := by
  rcases ht with ⟨y, p, ew⟩ | ⟨es, k, p, ew⟩
  · subst ew
    exact wpAny_pure (hQ s.heap f0 hfw hzw (Heap.SameBut.refl _ _))
  · subst ew
    unfold letOwnedTupleGo
    refine wpAny_bind (wpAny_load hzw ?_)
    show wpAny _ _ (if (["enumerate", "zip", "dict_itemiterator", "dict_reverseitemiterator", "odict_iterator", "itertools.zip_longest", "itertools.pairwise"].contains "zip" &&
        (#[f0, .bool f1, .bool false, .ref TIw, .ref TOw] : Array Value)[0]? == some (rawInt T)) = true then _ else _) Qw E s
    split
    · refine wpAny_bind (wpAny_rule ?_)
      show wpAny _ _ (setField (.ref zw) 0 .none) Qw E s
      exact wpAny_setField_rec hzw (by simp) fun hw' hz' hs' => hQ hw' .none (.inl rfl) hz' hs'
    · exact wpAny_pure (hQ s.heap f0 hfw hzw (Heap.SameBut.refl _ _))
theorem zg_pyIter {Qw : Value → Shared → Prop} (hzw : IsZg s.heap zw TIw TOw f0 f1) (h : Qw (.ref zw) s) : wpAny (model prog w) A (pyIter (.ref zw)) Qw E s := by
  have hTw : s.TypeIs (.ref zw) "zip" := ⟨_, hzw, rfl⟩
  refine wpAny_pyIter_slot hTw F.slot_zip_iter (wpAny_call_entry F.slot_zip_iter hTw F.entry_zip_iter ?_ (F.args_zip_iter_1 _))
  show wpAny _ _ (ret (.ref zw)) _ _ s
  exact wpAny_pure ⟨_, rfl, "zip", _, hTw, F.slot_zip_next.lookup, h⟩
end
end PyS
end

section
set_option Elab.async false
set_option linter.all false
set_option maxRecDepth 100000
set_option maxHeartbeats 2000000
/-! Z2: what is walked: lists and tuples, zip and enumerate over them. -/
namespace PyS
open PySem PySem.Spec PyProof.Rows L2
open AutoSeq1 (wpAny_loadPart')
/-- a tuple (k), a list -/
def Sq2 (k : Bool) (K : PySem.W.Frag) (H : Hp) (a : Addr) (xs : List V) : Prop := if k then SqT K H a xs else SqL K H a xs
def Is2 (k : Bool) (h : Heap) (a : Addr) (items : Array Value) : Prop := if k then h.IsTuple a items else h.IsList a items
def It2 (k : Bool) (h : Heap) (itw a : Addr) (i : Nat) : Prop := if k then h.IsTupleIter itw a i else h.IsListIter itw a i
def obj2 (k : Bool) (a : Addr) : Obj := if k then { cls := .type "tuple_iterator", data := .fields #[.ref a, .int 0 0] } else { cls := .type "list_iterator", data := .fields #[.ref a, .int 0 0] }
theorem It2.ob {k : Bool} {h : Heap} {itw a : Addr} {i : Nat} (x : It2 k h itw a i) : ∃ o, h.get? itw = some o ∧ ∀ v, o.data ≠ .cell v := by
  cases k with
  | true =>
    obtain ⟨o, ew, _, dw⟩ := (x : h.IsTupleIter itw a i)
    exact ⟨o, ew, fun v zw => by rw [dw] at zw; cases zw⟩
  | false =>
    obtain ⟨o, ew, _, dw⟩ := (x : h.IsListIter itw a i)
    exact ⟨o, ew, fun v zw => by rw [dw] at zw; cases zw⟩
theorem It2.at {k : Bool} {h hw' : Heap} {itw a : Addr} {i : Nat} (x : It2 k h itw a i) (y : ∀ o, h.get? itw = some o → hw'.get? itw = some o) : It2 k hw' itw a i := by
  cases k with
  | true => exact Heap.IsTupleIter.at (x : h.IsTupleIter itw a i) y
  | false => exact Heap.IsListIter.at (x : h.IsListIter itw a i) y
theorem It2.new {k : Bool} {h : Heap} {itw a : Addr} (x : h.get? itw = some (obj2 k a)) : It2 k h itw a 0 := by
  cases k with
  | true => exact ⟨_, x, rfl, rfl⟩
  | false => exact ⟨_, x, rfl, rfl⟩
theorem draws2 {prog : Program} {w : World} {A : Around} (hh : A.handled = none) (k : Bool) (itw a : Addr) (hne : a ≠ itw) (items : Array Value) :
    Draws prog w A itw [itw, a] items.size (fun i v => items[i]? = some v) (fun i h => It2 k h itw a i ∧ Is2 k h a items) := by
  cases k with
  | true => exact Draws.tuple hh itw a hne items
  | false => exact Draws.list hh itw a hne items
theorem begins2 (k : Bool) (a : Addr) (items : Array Value) : Begins (.ref a) (obj2 k a) fun h => Is2 k h a items := by
  cases k with
  | true => exact begins_tuple a items
  | false => exact begins_list a items
section
variable {X : Cx} {pinsw : List (Addr × Obj)} {σ : L2.St} {H : Hp} {s : Shared}
theorem Inv.sq2 {k : Bool} {a : Addr} {xs : List V} (I : Inv X pinsw σ H s) (h : Sq2 k X.K H a xs) : ∃ its : List Value, Vals xs its ∧ Is2 k s.heap a its.toArray ∧ a < s.heap.objs.size := by
  cases k with
  | true =>
    obtain ⟨its, r, p, _⟩ := I.tuple (show SqT X.K H a xs from h)
    have p' : s.heap.IsTuple a its.toArray := p
    obtain ⟨o, ew, _⟩ := id p'
    exact ⟨its, r, p', Heap.lt_size ew⟩
  | false =>
    obtain ⟨its, r, p, _⟩ := I.list (show SqL X.K H a xs from h)
    exact ⟨its, r, p.isList, p.lt⟩
theorem Inv.inj2 {k : Bool} {a : Addr} {xs ys : List V} (I : Inv X pinsw σ H s) (h : Sq2 k X.K H a xs) (hw' : Sq2 k X.K H a ys) : xs = ys := by
  cases k with
  | true => exact I.tuple_inj (show SqT X.K H a xs from h) (show SqT X.K H a ys from hw')
  | false => exact I.list_inj (show SqL X.K H a xs from h) (show SqL X.K H a ys from hw')
end
theorem GLe.sq2 {G G' : Hp} (ew : GLe G G') {K : PySem.W.Frag} {k : Bool} {a : Addr} {xs : List V} (h : Sq2 k K G a xs) : Sq2 k K G' a xs := by
  cases k with
  | true => exact ew.sqT h
  | false => exact ew.sqL h

/-! ### zip -/
def ItZ (K : PySem.W.Frag) (ka kb : Bool) (a b : Addr) : It :=
  ⟨fun i H => ∃ (xs ys : List V) (x y : V), Sq2 ka K H a xs ∧ Sq2 kb K H b ys ∧ xs[i]? = some x ∧ ys[i]? = some y,
    fun i H v H' => ∃ p x y, v = .ref p ∧ H p = none ∧ H' = upd H p (.tup [x, y]) ∧ (∀ xs, Sq2 ka K H a xs → xs[i]? = some x) ∧ ∀ ys, Sq2 kb K H b ys → ys[i]? = some y,
    fun i H => ∃ xs ys : List V, Sq2 ka K H a xs ∧ Sq2 kb K H b ys ∧ i ≤ xs.length ∧ i ≤ ys.length ∧ (i = xs.length ∨ i = ys.length)⟩
def okTg (tg : Expr) : Prop := (∃ y p, tg = .Name y p) ∨ ∃ es k p, tg = .Tuple es k p
theorem turn_zg {P : Program} {w : World} {K : PySem.W.Frag} {tg : Expr} (ht : okTg tg) {ka kb : Bool} {a b zw TI TOw i1w i2w : Addr} (Sw : ZipSep2 zw TI TOw i1w i2w [i1w, a] [i2w, b]) (na : a ≠ i1w) (nb : b ≠ i2w) :
    Turn P w K tg (ItZ K ka kb a b) [zw, TI, TOw, i1w, i2w] zw (fun i h => (∃ f0 f1, Outs f0 ∧ IsZg h zw TI TOw f0 f1) ∧ IsTupOf2 h TI (.ref i1w) (.ref i2w) ∧ (∃ x y, IsTupOf2 h TOw x y) ∧ It2 ka h i1w a i ∧ It2 kb h i2w b i) where
  mem := by simp
  obj := fun i h stw c hcw => by
    obtain ⟨⟨f0, f1, _, hzw⟩, hTIw, ⟨x, y, hTOw⟩, h1, h2⟩ := stw
    have ew' : c = zw ∨ c = TI ∨ c = TOw ∨ c = i1w ∨ c = i2w := by simpa using hcw
    rcases ew' with qw | qw | qw | qw | qw
    · rw [qw]; exact ⟨_, hzw, fun v qw => nomatch qw⟩
    · rw [qw]; exact ⟨_, hTIw, fun v qw => nomatch qw⟩
    · rw [qw]; exact ⟨_, hTOw, fun v qw => nomatch qw⟩
    · rw [qw]; exact h1.ob
    · rw [qw]; exact h2.ob
  keep := fun i h hw' stw k => by
    obtain ⟨⟨f0, f1, f2, hzw⟩, hTIw, ⟨x, y, hTOw⟩, h1, h2⟩ := stw
    exact ⟨⟨f0, f1, f2, k zw (by simp) _ hzw⟩, k TI (by simp) _ hTIw, ⟨x, y, k TOw (by simp) _ hTOw⟩, h1.at fun o qw => k i1w (by simp) o qw, h2.at fun o qw => k i2w (by simp) o qw⟩
  item := by
    intro X hPw hww hKw hcw i pinsw s σ H E I hfw stw hgw
    subst hPw hww hKw
    obtain ⟨⟨f0, f1, fo, hzw⟩, hTIw, ⟨x0, y0, hTOw⟩, h1, h2⟩ := stw
    obtain ⟨xs, ys, x, y, hqx, hqy, hx, hy⟩ := hgw
    obtain ⟨its, rvw, p, _⟩ := Inv.sq2 I hqx
    obtain ⟨its2, rv2w, p2w, _⟩ := Inv.sq2 I hqy
    obtain ⟨uw, huw, ruw⟩ := rvw.get hx
    obtain ⟨u2w, hu2w, ru2w⟩ := rv2w.get hy
    have hzlw : zw < s.heap.objs.size := Heap.lt_size hzw
    have hh : X.A.in1.handled = none := I.ok.hd hcw
    refine zg_pyNext_item fo Sw (draws2 hh ka i1w a na its.toArray) (draws2 hh kb i2w b nb its2.toArray) hzw hTIw hTOw ⟨h1, p⟩ ⟨h2, p2w⟩ (by
        have := (List.getElem?_eq_some_iff.mp huw).1
        simpa using this) (by
        have := (List.getElem?_eq_some_iff.mp hu2w).1
        simpa using this) fun x1w x2w hw' tkw g0w g1w b1 b2 hx1 hx2 go z' TO' s1' s2' hTw hszw hkw => ?_
    have e1 : x1w = uw := by
      rw [show its.toArray[i]? = some uw by simpa using huw] at hx1
      exact (Option.some.inj hx1).symm
    have e2 : x2w = u2w := by
      rw [show its2.toArray[i]? = some u2w by simpa using hu2w] at hx2
      exact (Option.some.inj hx2).symm
    subst e1 e2
    refine ⟨_, rfl, zg_letGo (s := { s with heap := hw', toks := tkw }) ht go z' fun h'' k0 ko z'' sbw => ?_⟩
    have hT2w : h''.get? s.heap.objs.size = some { cls := .type "tuple", data := .seq #[x1w, x2w] } := (sbw.2 _ (Nat.ne_of_gt hzlw)).trans hTw
    have neww : ObjOk X.prog X.w (upd H s.heap.objs.size (.tup [x, y])) h'' s.heap.objs.size (.tup [x, y]) :=
      ⟨by show 2 ≤ sizeLine; decide, [x1w, x2w], .cons ruw (.cons ru2w .nil), ⟨_, hT2w, rfl, _, rfl⟩⟩
    have I1w : Inv X pinsw σ (upd H s.heap.objs.size (.tup [x, y])) { s with heap := h'', toks := tkw } :=
      I.turnedNew (t' := tkw) (ch := [zw, TI, TOw, i1w, i2w]) (fun c o hbw qw => (sbw.2 c (fun q' => hbw (by simp [q']))).trans (hkw c o (fun q' => hbw (by simp [q'])) (fun q' => hbw (by simp [q'])) (fun q' => hbw (by simp [q'])) (fun q' => hbw (by simp [q'])) qw)) hfw (Nat.le_refl _) neww
    refine ⟨.ref s.heap.objs.size, _, I1w, rfl, ⟨_, x, y, rfl, I.hok.fresh (Nat.le_refl _), rfl, fun l hl => by rw [Inv.inj2 I hl hqx]; exact hx, fun l hl => by rw [Inv.inj2 I hl hqy]; exact hy⟩, ⟨⟨k0, g1w, ko, z''⟩, ?_, ⟨b1, b2, ?_⟩, ?_, ?_⟩, fun c hcm => ?_⟩
    · exact (sbw.2 _ Sw.TIz).trans (hkw _ _ Sw.TIz Sw.TITO Sw.TIi1 Sw.TIi2 hTIw)
    · exact (sbw.2 _ Sw.TOz).trans TO'
    · exact s1'.1.at fun o qw => (sbw.2 _ Sw.zi1.symm).trans qw
    · exact s2'.1.at fun o qw => (sbw.2 _ Sw.zi2.symm).trans qw
    · have hltw : c < s.heap.objs.size := by
        have ew' : c = zw ∨ c = TI ∨ c = TOw ∨ c = i1w ∨ c = i2w := by simpa using hcm
        rcases ew' with qw | qw | qw | qw | qw
        · rw [qw]; exact hzlw
        · rw [qw]; exact Heap.lt_size hTIw
        · rw [qw]; exact Heap.lt_size hTOw
        · rw [qw]; obtain ⟨_, e1, _⟩ := h1.ob; exact Heap.lt_size e1
        · rw [qw]; obtain ⟨_, e2, _⟩ := h2.ob; exact Heap.lt_size e2
      rw [upd_ne (Nat.ne_of_lt hltw)]
      exact (hfw c hcm).1
  done := by
    intro X hPw hww hKw hcw i pinsw s σ H E I hfw stw hgw
    subst hPw hww hKw
    obtain ⟨⟨f0, f1, fo, hzw⟩, hTIw, ⟨x0, y0, hTOw⟩, h1, h2⟩ := stw
    obtain ⟨xs, ys, hqx, hqy, l1, l2, le⟩ := hgw
    obtain ⟨its, rvw, p, _⟩ := Inv.sq2 I hqx
    obtain ⟨its2, rv2w, p2w, _⟩ := Inv.sq2 I hqy
    have l3 := rvw.length
    have l4 := rv2w.length
    have hh : X.A.in1.handled = none := I.ok.hd hcw
    refine zg_pyNext_end fo Sw (draws2 hh ka i1w a na its.toArray) (draws2 hh kb i2w b nb its2.toArray) hzw hTIw hTOw ⟨h1, p⟩ ⟨h2, p2w⟩ (by simp; omega) (by simp; omega) (by simp; omega) fun hw' tkw hkw => ⟨rfl, I.turnedL (t' := tkw) (ch := [zw, TI, TOw, i1w, i2w]) (fun c o hbw qw =>
      hkw c o (fun q' => hbw (by simp [q'])) (fun q' => hbw (by simp [q'])) (fun q' => hbw (by simp [q'])) (fun q' => hbw (by simp [q'])) qw) hfw⟩
  self := fun A i s Qw E stw h => by
    obtain ⟨⟨f0, f1, _, hzw⟩, _⟩ := stw
    exact zg_pyIter hzw h
def iZg (K : PySem.W.Frag) (ta : TA) : TI := fun σ H R => ta σ H fun vsw H1w => ∃ ka kb a b xs ys, vsw = [.ref a, .ref b] ∧ Sq2 ka K H1w a xs ∧ Sq2 kb K H1w b ys ∧ R (ItZ K ka kb a b) H1w
theorem pi_zg {X : Cx} {tg : Expr} (ht : okTg tg) {ew e2 : Expr} {ta : TA} {p pos : Pos} (hgw : Gl X "zip") (hm : X.mg "zip" = none) (ha : PA X [ew, e2] ta)
    (hs : starEach [ew, e2] X.env = (false, eval ew X.env) :: starEach [e2] X.env) (hpl : (backTo pos (starEach [e2] X.env)).any (·.1) = false) :
    PI X tg (.Call (.Name "zip" p) [ew, e2] [] pos) (iZg X.K ta) := by
  refine ⟨fun pinsw s σ H R I h => ?_⟩
  refine Call_ (ld_blt I hgw hm PyProof.Rows.boot_zip (PyProof.Rows.callWith_type1 (thn (ha.run pos pinsw s σ H _ I h) fun usw s1 ⟨vsw, H1w, I1w, r1w, q1⟩ => ?_) hs hpl))
  obtain ⟨ka, kb, a, b, xs, ys, ex, hqx, hqy, qw⟩ := q1
  subst ex
  cases r1w with
  | cons r rr =>
    cases rr with
    | cons r' rr =>
      cases rr
      cases r
      cases r'
      have fresh5 : ∀ c, c ∈ [s1.heap.objs.size + 4, s1.heap.objs.size + 2, s1.heap.objs.size + 3, s1.heap.objs.size, s1.heap.objs.size + 1] → FpOk X pinsw H1w c := fun c hcm => by
        have ew' : c = s1.heap.objs.size + 4 ∨ c = s1.heap.objs.size + 2 ∨ c = s1.heap.objs.size + 3 ∨ c = s1.heap.objs.size ∨ c = s1.heap.objs.size + 1 := by simpa using hcm
        have hlew : s1.heap.objs.size ≤ c := by
          rcases ew' with zw | zw | zw | zw | zw
          · rw [zw]; exact Nat.le_add_right _ _
          · rw [zw]; exact Nat.le_add_right _ _
          · rw [zw]; exact Nat.le_add_right _ _
          · rw [zw]; exact Nat.le_refl _
          · rw [zw]; exact Nat.le_add_right _ _
        exact I1w.fpOk hlew (I1w.hok.fresh hlew)
      obtain ⟨its, rvw, p1w, la⟩ := Inv.sq2 I1w hqx
      obtain ⟨its2, rv2w, p2w, lb⟩ := Inv.sq2 I1w hqy
      refine zip_begins2 (begins2 ka a its.toArray) (begins2 kb b its2.toArray) p1w p2w fun hw' hzw hTIw hTOw h1 h2 hszw hkw => zg_pyIter (f1 := false) hzw ?_
      have I2w : Inv X pinsw σ H1w { s1 with heap := hw' } := I1w.kept (t' := s1.toks) hkw
      refine ⟨s1.heap.objs.size + 4, [s1.heap.objs.size + 4, s1.heap.objs.size + 2, s1.heap.objs.size + 3, s1.heap.objs.size, s1.heap.objs.size + 1], _, _, H1w, rfl, I2w, turn_zg ht (zip_sep2 (fp1 := [a]) (fp2 := [b]) (fun c hcw => ?_) fun c hcw => ?_) (Nat.ne_of_lt la) (Nat.ne_of_lt (Nat.lt_succ_of_lt lb)), ⟨⟨.none, false, .inl rfl, hzw⟩, hTIw, ⟨_, _, hTOw⟩, It2.new h1, It2.new h2⟩, fresh5, qw⟩
      · rw [List.mem_singleton.mp hcw]; exact la
      · rw [List.mem_singleton.mp hcw]; exact lb

/-! ### enumerate -/
def ItN (K : PySem.W.Frag) (k : Bool) (a : Addr) : It :=
  ⟨fun i H => ∃ (xs : List V) (x : V), Sq2 k K H a xs ∧ xs[i]? = some x, fun i H v H' => ∃ p x, v = .ref p ∧ H p = none ∧ H' = upd H p (.tup [.int (i : Nat), x]) ∧ ∀ xs, Sq2 k K H a xs → xs[i]? = some x, fun i H => ∃ xs : List V, Sq2 k K H a xs ∧ i = xs.length⟩
theorem turn_en {P : Program} {w : World} {K : PySem.W.Frag} {elts : List Expr} {kk : Nat} {tpos : Pos} {k : Bool} {a ew itw : Addr} (ne : ew ≠ itw) (na : a ≠ itw) (nb : ew ≠ a) :
    Turn P w K (.Tuple elts kk tpos) (ItN K k a) [ew, itw] ew (fun i h => (∃ old, IsEnum h ew itw ((i : Nat) : Int) old) ∧ It2 k h itw a i) where
  mem := by simp
  obj := fun i h stw b hbw => by
    obtain ⟨⟨old, hew⟩, hi⟩ := stw
    have ew' : b = ew ∨ b = itw := by simpa using hbw
    rcases ew' with zw | zw
    · rw [zw]; exact ⟨_, hew, fun v qw => nomatch qw⟩
    · rw [zw]; exact hi.ob
  keep := fun i h hw' stw qw => by
    obtain ⟨⟨old, hew⟩, hi⟩ := stw
    exact ⟨⟨old, qw ew (by simp) _ hew⟩, hi.at fun o zw => qw itw (by simp) o zw⟩
  item := by
    intro X hPw hww hKw hcw i pinsw s σ H E I hfw stw hgw
    subst hPw hww hKw
    obtain ⟨⟨old, hew⟩, hit⟩ := stw
    obtain ⟨xs, x, hqw, hx⟩ := hgw
    obtain ⟨its, rvw, p, _⟩ := Inv.sq2 I hqw
    obtain ⟨uw, huw, ruw⟩ := rvw.get hx
    have helw : ew < s.heap.objs.size := Heap.lt_size hew
    have hil : itw < s.heap.objs.size := by obtain ⟨_, qw, _⟩ := hit.ob; exact Heap.lt_size qw
    have hh : X.A.in1.handled = none := I.ok.hd hcw
    refine wpAny_pyNext_enum_itemC (draws2 hh k itw a na its.toArray) hew ⟨hit, p⟩ (by
        have := (List.getElem?_eq_some_iff.mp huw).1
        simpa using this) ne (by simp [ne, nb]) fun x1w hw' tkw hx1 ho st' hTw hszw hkw => ?_
    have e1 : x1w = uw := by
      rw [show its.toArray[i]? = some uw by simpa using huw] at hx1
      exact (Option.some.inj hx1).symm
    subst e1
    refine ⟨_, rfl, wpAny_letOwnedTupleGo_enum (s := { s with heap := hw', toks := tkw + 1 }) ho fun h'' he' sbw => ?_⟩
    have hT2w : h''.get? s.heap.objs.size = some { cls := .type "tuple", data := .seq #[.int i tkw, x1w] } := (sbw.2 _ (Nat.ne_of_gt helw)).trans hTw
    have neww : ObjOk X.prog X.w (upd H s.heap.objs.size (.tup [.int (i : Nat), x])) h'' s.heap.objs.size (.tup [.int (i : Nat), x]) :=
      ⟨by show 2 ≤ sizeLine; decide, [.int i tkw, x1w], .cons ⟨_, rfl⟩ (.cons ruw .nil), ⟨_, hT2w, rfl, _, rfl⟩⟩
    have I1w : Inv X pinsw σ (upd H s.heap.objs.size (.tup [.int (i : Nat), x])) { s with heap := h'', toks := tkw + 1 } :=
      I.turnedNew (ch := [ew, itw]) (fun b obw hbw qw => (sbw.2 b (fun zw => hbw (by simp [zw]))).trans (hkw b obw (fun zw => hbw (by simp [zw])) (fun zw => hbw (by simp [zw])) qw)) hfw (Nat.le_refl _) neww
    refine ⟨.ref s.heap.objs.size, _, I1w, rfl, ⟨_, x, rfl, I.hok.fresh (Nat.le_refl _), rfl, fun ys hy => by rw [Inv.inj2 I hy hqw]; exact hx⟩, ⟨⟨x1w, ?_⟩, st'.1.at fun o qw => (sbw.2 itw (Ne.symm ne)).trans qw⟩, fun b hbw => ?_⟩
    · have e1 : ((i + 1 : Nat) : Int) = (i : Int) + 1 := by omega
      rw [e1]; exact he'
    · have hbw' : b < s.heap.objs.size := by
        have ew' : b = ew ∨ b = itw := by simpa using hbw
        rcases ew' with zw | zw
        · rw [zw]; exact helw
        · rw [zw]; exact hil
      rw [upd_ne (Nat.ne_of_lt hbw')]
      exact (hfw b hbw).1
  done := by
    intro X hPw hww hKw hcw i pinsw s σ H E I hfw stw hgw
    subst hPw hww hKw
    obtain ⟨⟨old, hew⟩, hit⟩ := stw
    obtain ⟨xs, hqw, hx⟩ := hgw
    obtain ⟨its, rvw, p, _⟩ := Inv.sq2 I hqw
    have hl := rvw.length
    have hh : X.A.in1.handled = none := I.ok.hd hcw
    obtain ⟨f0, f1, f2, f3, f4, f5⟩ := hfw itw (by simp)
    refine wpAny_pyNext_enum_endD (draws2 hh k itw a na its.toArray) hew ⟨?_, p⟩ fun hw' eb => ⟨rfl, I.turned (t' := s.toks) (fun b o hbw qw => eb b o hbw qw) f0 f1 f3 f4 f5⟩
    rw [show its.toArray.size = i by simp; omega]
    exact hit
  self := fun A i s Qw E stw h => let ⟨⟨_, hew⟩, _⟩ := stw; wpAny_pyIter_enum hew h
theorem meets_enum_tup (l : Addr) (items : Array Value) (n : Nat) (dct : Option Addr) (sl : Array (Option Value)) :
    Meets (Builtin.«enumerate.__new__» ⟨[.type "enumerate", .ref l], []⟩) (fun _ R s => s.heap.get? l = some { cls := .type "tuple", dict := dct, data := .seq items n, slots := sl } ∧
      R (.ok (.ret (.ref (s.heap.push { cls := .type "tuple_iterator", data := .fields #[.ref l, .int 0 0] }).objs.size)))
        { s with heap := (s.heap.push { cls := .type "tuple_iterator", data := .fields #[.ref l, .int 0 0] }).push { cls := .type "enumerate", data := .fields #[.none, .bool false, .ref s.heap.objs.size, rawInt 0, .none, .none] } }) :=
  .of_wp fun prog w A R s h => by
    obtain ⟨hpw, gw, dw, tkw, osw⟩ := s; obtain ⟨hl, h⟩ := h
    have hsub := sub_enumerate
    have hL : Heap.IsTuple (Shared.heap ⟨hpw, gw, dw, tkw, osw⟩) l items := ⟨_, hl, rfl, n, rfl⟩
    wp_walk using wpAny_loadPart' hl
    refine wpAny_stack_any fun stw => wpAny_pure ?_
    split
    · rename_i c _ _ _ _ _
      cases (c == Value.type "enumerate")
      · wp_walk using wpAny_loadPart' hl, wpAny_pyIter_tuple hL
        exact ⟨_, rfl, h⟩
      · wp_walk using wpAny_loadPart' hl, wpAny_pyIter_tuple hL
        exact ⟨_, rfl, h⟩
    · wp_walk using wpAny_loadPart' hl, wpAny_pyIter_tuple hL
      exact ⟨_, rfl, h⟩
section
variable {prog : Program} {w : World} {A : Around} {E : Value → Shared → Prop} {s : Shared}
theorem call_enum_tup {l : Addr} {items : Array Value} {Qw : Value → Shared → Prop} (hL : s.heap.IsTuple l items)
    (h : ∀ hw', IsEnum hw' (s.heap.objs.size + 1) s.heap.objs.size 0 .none → hw'.IsTupleIter s.heap.objs.size l 0 → hw'.objs.size = s.heap.objs.size + 2 →
      (∀ b o, s.heap.get? b = some o → hw'.get? b = some o) → Qw (.ref (s.heap.objs.size + 1)) { s with heap := hw' }) :
    wpAny (model prog w) A (call (.type "enumerate") [.ref l]) Qw E s := by
  obtain ⟨⟨c, dct, dt, sl⟩, hl, hcw, n, hd⟩ := hL
  replace hcw : c = .type "tuple" := hcw
  replace hd : dt = .seq items n := hd
  subst hcw hd
  refine callType_new F.called_enumerate (by decide) (F.typeCall_enumerate_1 _) (F.newCall_enumerate_1 _) (fun obj => F.args_object_init_2 obj _) F.entry_enumerate_new
    (meets_enum_tup l items n dct sl) ⟨hl, ?_⟩
  have hzw : (s.heap.push { cls := .type "tuple_iterator", data := .fields #[.ref l, .int 0 0] }).objs.size = s.heap.objs.size + 1 := Heap.size_push ..
  show _ ∧ _
  rw [hzw]
  have hew : IsEnum ((s.heap.push { cls := .type "tuple_iterator", data := .fields #[.ref l, .int 0 0] }).push
      { cls := .type "enumerate", data := .fields #[.none, .bool false, .ref s.heap.objs.size, rawInt 0, .none, .none] }) (s.heap.objs.size + 1) s.heap.objs.size 0 .none := by
    have := Heap.get?_push_size (s.heap.push { cls := .type "tuple_iterator", data := .fields #[.ref l, .int 0 0] })
      (o := { cls := .type "enumerate", data := .fields #[.none, .bool false, .ref s.heap.objs.size, rawInt 0, .none, .none] }) rfl
    rw [hzw] at this; exact this
  refine ⟨⟨_, hew, rfl⟩, h _ hew ⟨_, Heap.get?_push_of_some _ (Heap.get?_push_size _ rfl), rfl, rfl⟩ (by rw [Heap.size_push, hzw]) fun b o x => Heap.get?_push_of_some _ (Heap.get?_push_of_some _ x)⟩
theorem call_enum2 {k : Bool} {l : Addr} {items : Array Value} {Qw : Value → Shared → Prop} (hL : Is2 k s.heap l items)
    (h : ∀ hw', IsEnum hw' (s.heap.objs.size + 1) s.heap.objs.size 0 .none → It2 k hw' s.heap.objs.size l 0 →
      (∀ b o, s.heap.get? b = some o → hw'.get? b = some o) → Qw (.ref (s.heap.objs.size + 1)) { s with heap := hw' }) :
    wpAny (model prog w) A (call (.type "enumerate") [.ref l]) Qw E s := by
  cases k with
  | true => exact call_enum_tup (show s.heap.IsTuple l items from hL) fun hw' a b _ dw => h hw' a b dw
  | false => exact call_enumerate_list (show s.heap.IsList l items from hL) fun hw' a b _ dw => h hw' a b dw
end
def iEn (K : PySem.W.Frag) (ta : TA) : TI := fun σ H R => ta σ H fun vsw H1w => ∃ k a xs, vsw = [.ref a] ∧ Sq2 k K H1w a xs ∧ R (ItN K k a) H1w
theorem pi_en {X : Cx} {ew : Expr} {ta : TA} {p pos tpos : Pos} {elts : List Expr} {kk : Nat} (hgw : Gl X "enumerate") (hm : X.mg "enumerate" = none) (ha : PA X [ew] ta) (hs : starEach [ew] X.env = [(false, eval ew X.env)]) :
    PI X (.Tuple elts kk tpos) (.Call (.Name "enumerate" p) [ew] [] pos) (iEn X.K ta) := by
  refine ⟨fun pinsw s σ H R I h => ?_⟩
  refine Call_ (ld_blt I hgw hm boot_enumerate (PyProof.Rows.callWith_type1 (thn (ha.run pos pinsw s σ H _ I h) fun usw s1 ⟨vsw, H1w, I1w, r1w, q1⟩ => ?_) hs rfl))
  obtain ⟨k, a, xs, ex, hqw, qw⟩ := q1
  subst ex
  cases r1w with
  | cons r rr =>
    cases rr
    cases r
    obtain ⟨its, rvw, p', la⟩ := Inv.sq2 I1w hqw
    refine call_enum2 p' fun hw' hew hit hkw => wpAny_pyIter_enum hew ?_
    have I2w : Inv X pinsw σ H1w { s1 with heap := hw' } := I1w.kept (t' := s1.toks) hkw
    refine ⟨s1.heap.objs.size + 1, [s1.heap.objs.size + 1, s1.heap.objs.size], _, _, H1w, rfl, I2w, turn_en (Nat.succ_ne_self _) (Nat.ne_of_lt la) (Nat.ne_of_gt (Nat.lt_succ_of_lt la)), ⟨⟨.none, hew⟩, hit⟩, fun b hbw => ?_, qw⟩
    have ew' : b = s1.heap.objs.size + 1 ∨ b = s1.heap.objs.size := by simpa using hbw
    have hlew : s1.heap.objs.size ≤ b := by
      rcases ew' with zw | zw
      · rw [zw]; exact Nat.le_add_right _ _
      · rw [zw]; exact Nat.le_refl _
    exact I1w.fpOk hlew (I1w.hok.fresh hlew)
end PyS
end

section
set_option Elab.async false
set_option linter.all false
set_option maxRecDepth 100000
set_option maxHeartbeats 2000000
/-! Z3: what is walked, told of the interpreter's data. -/
namespace PyS
open PySem L2
variable {T : Tb}
/-- what was frozen stays -/
structure Lat (w w' : Wd) : Prop where
  g : GLe w.G w'.G
  f : PLe w.φ w'.φ
theorem Stp.lat {w w' : Wd} (s : Stp w w') : Lat w w' := ⟨s.g, s.f⟩
theorem Lat.refl (w : Wd) : Lat w w := ⟨GLe.refl _, PLe.refl _⟩
theorem Lat.trans {a b c : Wd} (x : Lat a b) (y : Lat b c) : Lat a c := ⟨x.g.trans y.g, x.f.trans y.f⟩
/-- J walks over ds in w and later -/
structure Yl (T : Tb) (J : It) (w0 : Wd) (ds : List Py.D) : Prop where
  go : ∀ (i : Nat) (w : Wd), Lat w0 w → LabOk w → i < ds.length → J.go i w.H
  stop : ∀ (w : Wd), Lat w0 w → LabOk w → J.stop ds.length w.H
  yld : ∀ (i : Nat) (w : Wd) (σ : L2.St) (s : Py.St) (v : V) (H' : Hp) (d : Py.D), Lat w0 w → RS T w σ s → ds[i]? = some d → J.yld i w.H v H' → ∃ w', w'.H = H' ∧ Stp w w' ∧ RS T w' σ s ∧ Rep T w'.G w'.φ v d
def WI (X : Cx) (tg iter : Expr) : TI := fun σ H R => ∀ (pins : List (Addr × Obj)) (s : Shared), Inv X pins σ H s → wpAny (model X.prog X.w) X.A (eval iter X.env) (fun v s1 => wpAny (model X.prog X.w) X.A (pyIter v) (PIE X pins σ tg R) X.xe s1) X.xe s
theorem pi_self {X : Cx} {tg iter : Expr} : PI X tg iter (WI X tg iter) := ⟨fun pins s σ H R I h => h pins s I⟩
theorem WI.of {X : Cx} {tg iter : Expr} {t : TI} (p : PI X tg iter t) {σ : L2.St} {H : Hp} {R : It → Hp → Prop} (h : t σ H R) : WI X tg iter σ H R := fun pins s I => p.run pins s σ H R I h
def SimI (T : Tb) (c : Py.Cx) (X : Cx) (tg iter : Expr) (k : Option Py.Itk) (Es : List Py.E) : Prop :=
  ∀ (w : Wd) (σ : L2.St) (s : Py.St) (ds : List Py.D) (s' : Py.St) (xs : List Py.D), RS T w σ s → Py.evs c Es s = some (ds, s') → Py.yields k ds = some xs →
    ∀ R : It → Hp → Prop, (∀ J w', Stp w w' → RS T w' σ s' → Yl T J w' xs → R J w'.H) → WI X tg iter σ w.H R
/-- data that are walked -/
theorem Rep.seq {G : Hp} {φ : List Addr} {v : V} {d : Py.D} {l : List Py.D} (h : Rep T G φ v d) (e : Py.seqOf d = some l) : ∃ a k xs, v = .ref a ∧ Sq2 k T.K G a xs ∧ Reps T G φ xs l := by
  cases h with
  | tup a b => cases e; exact ⟨_, true, _, rfl, .inl (.inl a), b⟩
  | lst a b => cases e; exact ⟨_, false, _, rfl, .inl (.inl a), b⟩
  | scr a b => cases e; exact ⟨_, false, _, rfl, a, b⟩
  | _ => cases e
theorem gleH {w : Wd} (k : LabOk w) : GLe w.G w.H := k.gh
/-- one place of a frozen sequence, seen now -/
theorem Sq2.now {w0 w : Wd} {k : Bool} {a : Addr} {xs : List V} (h : Sq2 k T.K w0.G a xs) (l : Lat w0 w) (ok : LabOk w) : Sq2 k T.K w.H a xs := (gleH ok).sq2 (l.g.sq2 h)
section
variable {c : Py.Cx} {X : Cx}
/-- a walk over a list or a tuple -/
def It1 (K : PySem.W.Frag) (k : Bool) (a : Addr) : It := if k then Itt K a else Itl K a
theorem yl_seq {K : PySem.W.Frag} (hK : T.K = K) {w : Wd} {k : Bool} {a : Addr} {xs : List V} {l : List Py.D} (q : Sq2 k T.K w.G a xs) (r : Reps T w.G w.φ xs l) : Yl T (It1 K k a) w l := by
  subst hK
  have hl := r.length
  cases k with
  | true =>
    refine ⟨fun i w1 la ok hi => ?_, fun w1 la ok => ?_, fun i w1 σ s v H' d la rs hd y => ?_⟩
    · obtain ⟨x, hx, _⟩ := r.get (List.getElem?_eq_getElem hi)
      exact ⟨xs, x, Sq2.now q la ok, hx⟩
    · exact ⟨xs, Sq2.now q la ok, Nat.le_of_eq hl⟩
    · obtain ⟨x, hx, rx⟩ := r.get hd
      obtain ⟨rfl, y2⟩ := y
      have := y2 xs (Sq2.now q la rs.toLabOk)
      rw [hx] at this
      cases this
      exact ⟨w1, rfl, Stp.refl _, rs, rx.mono la.g la.f⟩
  | false =>
    refine ⟨fun i w1 la ok hi => ?_, fun w1 la ok => ?_, fun i w1 σ s v H' d la rs hd y => ?_⟩
    · obtain ⟨x, hx, _⟩ := r.get (List.getElem?_eq_getElem hi)
      exact ⟨xs, x, Sq2.now q la ok, hx⟩
    · exact ⟨xs, Sq2.now q la ok, Nat.le_of_eq hl⟩
    · obtain ⟨x, hx, rx⟩ := r.get hd
      obtain ⟨rfl, y2⟩ := y
      have := y2 xs (Sq2.now q la rs.toLabOk)
      rw [hx] at this
      cases this
      exact ⟨w1, rfl, Stp.refl _, rs, rx.mono la.g la.f⟩
def iSeq (K : PySem.W.Frag) (tl : TE) : TI := fun σ H R => tl σ H fun x H1 => ∃ a k xs, x = .ref a ∧ Sq2 k K H1 a xs ∧ R (It1 K k a) H1
theorem pi_seq {tg l : Expr} {tl : TE} (hl : PE X l tl) : PI X tg l (iSeq X.K tl) := by
  refine ⟨fun pins s σ H R I h => ?_⟩
  refine thn (hl.run pins s σ H _ I h) fun v s1 ⟨x, H1, I1, r1, q1⟩ => ?_
  obtain ⟨a, k, xs, e, hq, q⟩ := q1
  subst e
  cases r1
  cases k with
  | true =>
    obtain ⟨its, rv, p, hz⟩ := I1.tuple (show SqT X.K H1 a xs from hq)
    refine wpAny_pyIter_tuple (show s1.heap.IsTuple a its.toArray from p) ?_
    refine ⟨s1.heap.objs.size, [s1.heap.objs.size], _, _, H1, rfl, I1.kept (t' := s1.toks) fun b o e => Heap.get?_push_of_some _ e, turn_tuple a _, ⟨_, Heap.get?_push_size _ rfl, rfl, rfl⟩, fun b hb => ?_, q⟩
    have e : b = s1.heap.objs.size := by simpa using hb
    subst e
    exact I1.fpOk (Nat.le_refl _) (I1.hok.fresh (Nat.le_refl _))
  | false =>
    obtain ⟨its, rv, p, hz⟩ := I1.list (show SqL X.K H1 a xs from hq)
    refine wpAny_pyIter_list p.isList ?_
    refine ⟨s1.heap.objs.size, [s1.heap.objs.size], _, _, H1, rfl, I1.kept (t' := s1.toks) fun b o e => Heap.get?_push_of_some _ e, turn_list a _, ⟨_, Heap.get?_push_size _ rfl, rfl, rfl⟩, fun b hb => ?_, q⟩
    have e : b = s1.heap.objs.size := by simpa using hb
    subst e
    exact I1.fpOk (Nat.le_refl _) (I1.hok.fresh (Nat.le_refl _))
theorem simI_seq (hK : T.K = X.K) {tg e : Expr} {E : Py.E} (n' : isStarE E = false) (h : SimE T c X e E) : SimI T c X tg e none [E] := by
  intro w σ s ds s' xs rs ev yi R q
  rw [evs_cons n'] at ev
  split at ev
  · rename_i o s1 e1
    simp only [Py.evs, Option.some.injEq, Prod.mk.injEq] at ev
    obtain ⟨rfl, rfl⟩ := ev
    refine WI.of (pi_seq pe_self) ?_
    refine h false w σ s o _ rs e1 _ fun v w1 st1 rs1 q1 p1 => ?_
    obtain ⟨w2, h2, st2, rs2, r2, f2, g2, l2⟩ := p1.res.toD st1 rs1
    obtain ⟨a, k, vs, rfl, hq, hr⟩ := r2.seq (show Py.seqOf o.toD = some xs from yi)
    refine ⟨a, k, vs, rfl, ?_, ?_⟩
    · rw [← hK, ← h2]
      exact Sq2.now hq (Lat.refl _) rs2.toLabOk
    · rw [← h2]
      exact q _ w2 st2 rs2 (yl_seq hK hq hr)
  · cases ev
theorem yl_range {w : Wd} {a b : Int} {n : Nat} (hn : n = (b - a).toNat) : Yl T (Itr a n) w (Py.rangeL a b) := by
  have hl : (Py.rangeL a b).length = n := by
    unfold Py.rangeL
    rw [List.length_map, List.length_range, hn]
  refine ⟨fun i w1 la ok hi => by rw [hl] at hi; exact hi, fun w1 la ok => Nat.le_of_eq hl.symm, fun i w1 σ s v H' d la rs hd y => ?_⟩
  obtain ⟨rfl, rfl⟩ := y
  refine ⟨w1, rfl, Stp.refl _, rs, ?_⟩
  have hi : i < (b - a).toNat := by
    have := (List.getElem?_eq_some_iff.mp hd).1
    rw [hl, hn] at this
    exact this
  unfold Py.rangeL at hd
  rw [List.getElem?_map, List.getElem?_range hi] at hd
  cases hd
  exact .int _
theorem itk_range1 {d : Py.D} {xs : List Py.D} (h : Py.itk .range [d] = some xs) : ∃ n : Int, d = .int n ∧ -(2 : Int) ^ 62 ≤ n ∧ n < 2 ^ 62 ∧ xs = Py.rangeL 0 n := by
  cases d with
  | int n =>
    simp only [Py.itk] at h
    split at h
    · rename_i hz
      rw [Bool.and_eq_true] at hz
      cases h
      exact ⟨n, rfl, of_decide_eq_true hz.1, of_decide_eq_true hz.2, rfl⟩
    · cases h
  | _ => cases h
theorem itk_range2 {d d2 : Py.D} {xs : List Py.D} (h : Py.itk .range [d, d2] = some xs) : ∃ a b : Int, d = .int a ∧ d2 = .int b ∧ (-(2 : Int) ^ 62 ≤ a ∧ a < 2 ^ 62 ∧ -(2 : Int) ^ 62 ≤ b ∧ b < 2 ^ 62) ∧ xs = Py.rangeL a b := by
  cases d with
  | int n =>
    cases d2 with
    | int m =>
      simp only [Py.itk] at h
      split at h
      · rename_i hz
        simp only [Bool.and_eq_true, decide_eq_true_eq] at hz
        cases h
        exact ⟨n, m, rfl, rfl, ⟨hz.1.1.1, hz.1.1.2, hz.1.2, hz.2⟩, rfl⟩
      · cases h
    | _ => cases h
  | _ => cases h
theorem simI_range1 {tg e : Expr} {E : Py.E} {p pos : Pos} (hg : Gl X "range") (hm : X.mg "range" = none) (n : notStar e = true) (n' : isStarE E = false) (hs : SimEs T c X [e] [E]) : SimI T c X tg (.Call (.Name "range" p) [e] [] pos) (some .range) [E] := by
  intro w σ s ds s' xs rs ev yi R q
  simp only [Py.yields] at yi
  have hl := evs_len (Es := [E]) (by simp [n']) ev
  match ds, hl, yi, ev with
  | [d], _, yi, ev =>
    obtain ⟨j, rfl, b1, b2, rfl⟩ := itk_range1 yi
    refine WI.of (pi_range1 hg hm pa_self (starEach_not n [] X.env)) ?_
    refine hs w σ s _ s' rs ev _ fun vs w1 st1 rs1 q1 r1 => ?_
    cases r1 with
    | cons r rr =>
      cases rr
      cases r
      exact ⟨_, rfl, b1, b2, q _ w1 st1 rs1 (yl_range (by simp))⟩
theorem simI_range2 {tg e e2 : Expr} {E E2 : Py.E} {p pos : Pos} (hg : Gl X "range") (hm : X.mg "range" = none) (n : notStar e = true) (n2 : notStar e2 = true) (n' : isStarE E = false) (n2' : isStarE E2 = false) (hs : SimEs T c X [e, e2] [E, E2]) :
    SimI T c X tg (.Call (.Name "range" p) [e, e2] [] pos) (some .range) [E, E2] := by
  intro w σ s ds s' xs rs ev yi R q
  simp only [Py.yields] at yi
  have hl := evs_len (Es := [E, E2]) (by simp [n', n2']) ev
  match ds, hl, yi, ev with
  | [d, d2], _, yi, ev =>
    obtain ⟨i, j, rfl, rfl, b1, rfl⟩ := itk_range2 yi
    refine WI.of (pi_range2 hg hm pa_self (by rw [starEach_not n, starEach_not n2]; rfl) (starEach_not n2 [] X.env)) ?_
    refine hs w σ s _ s' rs ev _ fun vs w1 st1 rs1 q1 r1 => ?_
    cases r1 with
    | cons r rr =>
      cases rr with
      | cons r' rr =>
        cases rr
        cases r
        cases r'
        exact ⟨_, _, rfl, b1, q _ w1 st1 rs1 (yl_range rfl)⟩
/-! ### enumerate, zip -/
theorem getElem_zipIdx {α : Type} (l : List α) (i : Nat) : l.zipIdx[i]? = (l[i]?).map fun x => (x, i) := by
  rw [List.getElem?_zipIdx]
  simp
theorem upd_pair {w : Wd} {σ : L2.St} {s : Py.St} {p : Addr} {vs : List V} {ds : List Py.D} (rs : RS T w σ s) (hp : w.H p = none) (r : Reps T w.G w.φ vs ds) : ∃ w', w'.H = upd w.H p (.tup vs) ∧ Stp w w' ∧ RS T w' σ s ∧ Rep T w'.G w'.φ (.ref p) (.tup ds) := rs.newT hp r
theorem yl_enum {K : PySem.W.Frag} (hK : T.K = K) {w : Wd} {k : Bool} {a : Addr} {xs : List V} {l : List Py.D} (q : Sq2 k T.K w.G a xs) (r : Reps T w.G w.φ xs l) :
    Yl T (ItN K k a) w ((l.zipIdx).map fun p => .tup [.int (p.2 : Int), p.1]) := by
  subst hK
  have hl := r.length
  refine ⟨fun i w1 la ok hi => ?_, fun w1 la ok => ?_, fun i w1 σ s v H' d la rs hd y => ?_⟩
  · rw [List.length_map, List.length_zipIdx] at hi
    obtain ⟨x, hx, _⟩ := r.get (List.getElem?_eq_getElem hi)
    exact ⟨xs, x, Sq2.now q la ok, hx⟩
  · refine ⟨xs, Sq2.now q la ok, ?_⟩
    rw [List.length_map, List.length_zipIdx, hl]
  · rw [List.getElem?_map, getElem_zipIdx] at hd
    cases hx : l[i]? with
    | none => rw [hx] at hd; cases hd
    | some u =>
      rw [hx] at hd
      cases hd
      obtain ⟨x, hx2, rx⟩ := r.get hx
      obtain ⟨p, x', rfl, hp, rfl, y2⟩ := y
      have := y2 xs (Sq2.now q la rs.toLabOk)
      rw [hx2] at this
      cases this
      exact rs.newT hp (.cons (.int _) (.cons (rx.mono la.g la.f) .nil))
theorem yl_zip {K : PySem.W.Frag} (hK : T.K = K) {w : Wd} {ka kb : Bool} {a b : Addr} {xs ys : List V} {l m : List Py.D} (q : Sq2 ka T.K w.G a xs) (r : Reps T w.G w.φ xs l) (q2 : Sq2 kb T.K w.G b ys) (r2 : Reps T w.G w.φ ys m) :
    Yl T (ItZ K ka kb a b) w ((l.zip m).map fun p => .tup [p.1, p.2]) := by
  subst hK
  have hl := r.length
  have hm := r2.length
  refine ⟨fun i w1 la ok hi => ?_, fun w1 la ok => ?_, fun i w1 σ s v H' d la rs hd y => ?_⟩
  · rw [List.length_map, List.length_zip] at hi
    obtain ⟨x, hx, _⟩ := r.get (List.getElem?_eq_getElem (show i < l.length by omega))
    obtain ⟨y, hy, _⟩ := r2.get (List.getElem?_eq_getElem (show i < m.length by omega))
    exact ⟨xs, ys, x, y, Sq2.now q la ok, Sq2.now q2 la ok, hx, hy⟩
  · refine ⟨xs, ys, Sq2.now q la ok, Sq2.now q2 la ok, ?_⟩
    rw [List.length_map, List.length_zip]
    omega
  · rw [List.getElem?_map] at hd
    cases hz : (l.zip m)[i]? with
    | none => rw [hz] at hd; cases hd
    | some u =>
      rw [hz] at hd
      cases hd
      obtain ⟨h1, h2⟩ := List.getElem?_zip_eq_some.mp hz
      obtain ⟨x, hx2, rx⟩ := r.get h1
      obtain ⟨z, hz2, rz⟩ := r2.get h2
      obtain ⟨p, x', z', rfl, hp, rfl, y2, y3⟩ := y
      have e1 := y2 xs (Sq2.now q la rs.toLabOk)
      have e2 := y3 ys (Sq2.now q2 la rs.toLabOk)
      rw [hx2] at e1
      rw [hz2] at e2
      cases e1
      cases e2
      exact rs.newT hp (.cons (rx.mono la.g la.f) (.cons (rz.mono la.g la.f) .nil))
theorem simI_enum (hK : T.K = X.K) {elts : List Expr} {kk : Nat} {tpos : Pos} {e : Expr} {E : Py.E} {p pos : Pos} (hg : Gl X "enumerate") (hm : X.mg "enumerate" = none) (n : notStar e = true) (n' : isStarE E = false) (hs : SimEs T c X [e] [E]) :
    SimI T c X (.Tuple elts kk tpos) (.Call (.Name "enumerate" p) [e] [] pos) (some .enum) [E] := by
  intro w σ s ds s' xs rs ev yi R q
  simp only [Py.yields] at yi
  have hl := evs_len (Es := [E]) (by simp [n']) ev
  match ds, hl, yi, ev with
  | [d], _, yi, ev =>
    simp only [Py.itk] at yi
    cases hd : Py.seqOf d with
    | none => rw [hd] at yi; cases yi
    | some l =>
      rw [hd] at yi
      simp only [Option.map_some, Option.some.injEq] at yi
      subst yi
      refine WI.of (pi_en hg hm pa_self (starEach_not n [] X.env)) ?_
      refine hs w σ s _ s' rs ev _ fun vs w1 st1 rs1 q1 r1 => ?_
      cases r1 with
      | cons r rr =>
        cases rr
        obtain ⟨a, k, us, rfl, hq, hr⟩ := r.seq hd
        refine ⟨k, a, us, rfl, ?_, q _ w1 st1 rs1 (yl_enum hK hq hr)⟩
        rw [← hK]
        exact Sq2.now hq (Lat.refl _) rs1.toLabOk
theorem simI_zip (hK : T.K = X.K) {tg : Expr} (ht : okTg tg) {e e2 : Expr} {E E2 : Py.E} {p pos : Pos} (hg : Gl X "zip") (hm : X.mg "zip" = none) (n : notStar e = true) (n2 : notStar e2 = true) (n' : isStarE E = false) (n2' : isStarE E2 = false) (hs : SimEs T c X [e, e2] [E, E2]) :
    SimI T c X tg (.Call (.Name "zip" p) [e, e2] [] pos) (some .zip) [E, E2] := by
  intro w σ s ds s' xs rs ev yi R q
  simp only [Py.yields] at yi
  have hl := evs_len (Es := [E, E2]) (by simp [n', n2']) ev
  match ds, hl, yi, ev with
  | [d, d2], _, yi, ev =>
    simp only [Py.itk] at yi
    cases hd : Py.seqOf d with
    | none => rw [hd] at yi; cases yi
    | some l =>
      cases hd2 : Py.seqOf d2 with
      | none => rw [hd, hd2] at yi; cases yi
      | some m =>
        rw [hd, hd2] at yi
        simp only [Option.bind_some, Option.map_some, Option.some.injEq] at yi
        subst yi
        refine WI.of (pi_zg ht hg hm pa_self (starEach_not n [e2] X.env) (by rw [starEach_not n2]; rfl)) ?_
        refine hs w σ s _ s' rs ev _ fun vs w1 st1 rs1 q1 r1 => ?_
        cases r1 with
        | cons r rr =>
          cases rr with
          | cons r' rr =>
            cases rr
            obtain ⟨a, k, us, rfl, hq, hr⟩ := r.seq hd
            obtain ⟨a2, k2, us2, rfl, hq2, hr2⟩ := r'.seq hd2
            refine ⟨k, k2, a, a2, us, us2, rfl, ?_, ?_, q _ w1 st1 rs1 (yl_zip hK hq hr hq2 hr2)⟩
            · rw [← hK]
              exact Sq2.now hq (Lat.refl _) rs1.toLabOk
            · rw [← hK]
              exact Sq2.now hq2 (Lat.refl _) rs1.toLabOk
/-! ### *e in a display -/
theorem sims_star (hK : T.K = X.K) {e : Expr} {es : List Expr} {E : Py.E} {Es : List Py.E} {p : Pos} (h : SimE T c X e E) (hs : SimEs T c X es Es) : SimEs T c X (.Starred e p :: es) (.star E :: Es) := by
  intro w σ s ds s' rs ev Q q
  rw [Py.evs] at ev
  split at ev
  · rename_i o s1 e1
    split at ev
    · rename_i l e2
      split at ev
      · rename_i ds2 s2 e3
        simp only [Option.some.injEq, Prod.mk.injEq] at ev
        obtain ⟨rfl, rfl⟩ := ev
        refine WA.of (StX.pa_star pe_self pa_self) ?_
        refine h false w σ s o s1 rs e1 _ fun v w1 st1 rs1 q1 p1 => ?_
        obtain ⟨w2, h2, st2, rs2, r2, f2, g2, l2⟩ := p1.res.toD st1 rs1
        obtain ⟨a, k, us, rfl, hq, hr⟩ := r2.seq e2
        rw [← h2]
        have hq' := Sq2.now hq (Lat.refl _) rs2.toLabOk
        rw [hK] at hq'
        refine ⟨a, us, rfl, ?_, ?_⟩
        · cases k with
          | true => exact .inl hq'
          | false => exact .inr hq'
        refine hs w2 σ s1 ds2 s2 rs2 e3 _ fun vs w3 st3 rs3 q3 r3 => ?_
        exact q (us ++ vs) w3 (st2.trans st3) rs3 (fun qq => by
          have := (quiet_go_cons qq).1
          simp only [Py.E.quiet] at this
          cases this) ((hr.mono st3.g st3.f).append r3)
      · cases ev
    · cases ev
  · cases ev
end
end PyS
end

section
set_option Elab.async false
set_option linter.all false
set_option maxRecDepth 100000
set_option maxHeartbeats 2000000
/-! Z4: targets, comprehensions. -/
namespace PyS
open PySem L2
variable {T : Tb}
/-! ### targets -/
mutual
def gT (K : PySem.W.Frag) : Py.Tg → TG
  | .nm i => gName i
  | .tup l => gTup K l.length (gTs K l)
def gTs (K : PySem.W.Frag) : List Py.Tg → TGs
  | [] => gNil
  | t :: r => gCons (gT K t) (gTs K r)
end
/-- a name that may be stored here -/
def locC (sc : Scope) (fq : Str → Bool) (N : List Str) (x : Str) (i : Nat) : Bool :=
  decide (N[i]? = some x) && (match sc.names.lookup x with
    | some .local => true
    | some .cell => fq x
    | _ => false)
mutual
def tgC (sc : Scope) (fq : Str → Bool) (N : List Str) : Py.Tg → Expr → Bool
  | .nm i, .Name x _ => locC sc fq N x i
  | .tup l, .Tuple es _ _ => tgCs sc fq N l es
  | _, _ => false
def tgCs (sc : Scope) (fq : Str → Bool) (N : List Str) : List Py.Tg → List Expr → Bool
  | [], [] => true
  | t :: r, e :: es => tgC sc fq N t e && tgCs sc fq N r es
  | _, _ => false
end
theorem locC_ok {X : Cx} {i : Nat} {x : Str} (h : locC X.env.scope X.fn X.N x i = true) : X.N[i]? = some x ∧ Loc X.env.scope x ∧ (X.fn x = true ∨ X.env.scope.names.lookup x = some .local) := by
  unfold locC at h
  rw [Bool.and_eq_true, decide_eq_true_eq] at h
  obtain ⟨h1, h2⟩ := h
  split at h2
  · rename_i e
    exact ⟨h1, .inl e, .inr e⟩
  · rename_i e
    exact ⟨h1, .inr e, .inl h2⟩
  · cases h2
theorem tgC_shape {sc : Scope} {fq : Str → Bool} {N : List Str} : ∀ {t : Py.Tg} {e : Expr}, tgC sc fq N t e = true → okTg e
  | .nm i, e, h => by
    cases e with
    | Name x p => exact .inl ⟨x, p, rfl⟩
    | _ => simp [tgC] at h
  | .tup l, e, h => by
    cases e with
    | Tuple es k p => exact .inr ⟨es, k, p, rfl⟩
    | _ => simp [tgC] at h
theorem each_cons {e : Expr} (h : okTg e) (es : List Expr) (env : Env) : assignEach (e :: es) env = (false, assign e env) :: assignEach es env := by
  rcases h with ⟨y, p, rfl⟩ | ⟨l, k, p, rfl⟩ <;> rfl
theorem tgCs_each {sc : Scope} {fq : Str → Bool} {N : List Str} {env : Env} : ∀ {l : List Py.Tg} {es : List Expr}, tgCs sc fq N l es = true → (assignEach es env).length = l.length ∧ (assignEach es env).findIdx? (·.1) = none
  | [], [], _ => ⟨rfl, rfl⟩
  | t :: r, e :: es, h => by
    rw [tgCs, Bool.and_eq_true] at h
    obtain ⟨h1, h2⟩ := tgCs_each (env := env) h.2
    rw [each_cons (tgC_shape h.1)]
    refine ⟨by rw [List.length_cons, List.length_cons, h1], ?_⟩
    rw [List.findIdx?_cons, h2]
    rfl
  | [], _ :: _, h => by simp [tgCs] at h
  | _ :: _, [], h => by simp [tgCs] at h
mutual
theorem pg_tg {X : Cx} (hc : X.calm = true) (hN : X.N.Nodup) : ∀ {t : Py.Tg} {e : Expr}, tgC X.env.scope X.fn X.N t e = true → PG X e (gT X.K t)
  | .nm i, e, h => by
    cases e with
    | Name x p =>
      rw [tgC] at h
      obtain ⟨h1, h2, h3⟩ := locC_ok h
      exact pg_name hN h1 h2 h3
    | _ => simp [tgC] at h
  | .tup l, e, h => by
    cases e with
    | Tuple es k p =>
      rw [tgC] at h
      obtain ⟨h1, h2⟩ := tgCs_each (env := X.env) h
      exact pg_tup hc (pgs_tg hc hN h) h1 h2
    | _ => simp [tgC] at h
theorem pgs_tg {X : Cx} (hc : X.calm = true) (hN : X.N.Nodup) : ∀ {l : List Py.Tg} {es : List Expr}, tgCs X.env.scope X.fn X.N l es = true → PGs X es (gTs X.K l)
  | [], [], _ => pgs_nil
  | t :: r, e :: es, h => by
    rw [tgCs, Bool.and_eq_true] at h
    refine pgs_cons (pg_tg hc hN h.1) (pgs_tg hc hN h.2) ?_
    rw [each_cons (tgC_shape h.1)]
    rfl
  | [], _ :: _, h => by simp [tgCs] at h
  | _ :: _, [], h => by simp [tgCs] at h
end
/-- one name more -/
theorem RS.setD {w : Wd} {σ : L2.St} {s : Py.St} (rs : RS T w σ s) {v : V} {d : Py.D} (r : Rep T w.G w.φ v d) (i : Nat) : RS T w (σ.set i (some v)) { s with env := s.env.set i (some (.d d)) } := by
  refine ⟨rs.toLabOk, fun j u hu => ?_, rs.sto, rs.len, ?_⟩
  · by_cases hj : j = i
    · subst hj
      by_cases hl : j < s.env.length
      · rw [List.getElem?_set_self hl] at hu
        cases hu
        exact ⟨v, by rw [List.getElem?_set_self (by rw [← rs.el]; exact hl)], .d r⟩
      · rw [List.getElem?_eq_none (by rw [List.length_set]; omega)] at hu
        cases hu
    · rw [List.getElem?_set_ne (Ne.symm hj)] at hu
      obtain ⟨v', e1, e2⟩ := rs.env j u hu
      exact ⟨v', by rw [List.getElem?_set_ne (Ne.symm hj)]; exact e1, e2⟩
  · show (s.env.set i _).length = (σ.set i _).length
    rw [List.length_set, List.length_set]
    exact rs.el
theorem wipe_get {σ : L2.St} {i : Nat} : ∀ {vs : List Nat}, i ∈ vs → i < σ.length → (L2.wipe σ vs)[i]? = some none
  | v :: vs, h, hl => by
    unfold L2.wipe
    by_cases e : v = i
    · subst e
      rw [List.getElem?_set_self (by rw [L2.wipe_length]; exact hl)]
    · rw [List.getElem?_set_ne e]
      refine wipe_get ?_ hl
      rcases List.mem_cons.mp h with q | q
      · exact absurd q.symm e
      · exact q
theorem wipe_not {σ : L2.St} {i : Nat} : ∀ {vs : List Nat}, i ∉ vs → (L2.wipe σ vs)[i]? = σ[i]?
  | [], _ => rfl
  | v :: vs, h => by
    unfold L2.wipe
    rw [List.getElem?_set_ne (fun e => h (by rw [e]; exact List.mem_cons_self))]
    exact wipe_not fun q => h (List.mem_cons_of_mem _ q)
theorem wipe_set {σ : L2.St} {i : Nat} {x : Option V} {vs : List Nat} (h : i ∈ vs) : L2.wipe (σ.set i x) vs = L2.wipe σ vs := by
  apply List.ext_getElem?
  intro j
  by_cases hj : j ∈ vs
  · by_cases hl : j < σ.length
    · rw [wipe_get hj (by rw [List.length_set]; exact hl), wipe_get hj hl]
    · rw [List.getElem?_eq_none (by rw [L2.wipe_length, List.length_set]; omega), List.getElem?_eq_none (by rw [L2.wipe_length]; omega)]
  · rw [wipe_not hj, wipe_not hj, List.getElem?_set_ne (fun e => hj (by rw [← e]; exact h))]
theorem wipe_wipe {σ : L2.St} {vs : List Nat} : L2.wipe (L2.wipe σ vs) vs = L2.wipe σ vs := by
  apply List.ext_getElem?
  intro j
  by_cases hj : j ∈ vs
  · by_cases hl : j < σ.length
    · rw [wipe_get hj (by rw [L2.wipe_length]; exact hl), wipe_get hj hl]
    · rw [List.getElem?_eq_none (by rw [L2.wipe_length, L2.wipe_length]; omega), List.getElem?_eq_none (by rw [L2.wipe_length]; omega)]
  · rw [wipe_not hj]
theorem pw_length (env : List (Option Py.O)) : ∀ vs : List Nat, (Py.wipe env vs).length = env.length
  | [] => rfl
  | v :: vs => by unfold Py.wipe; rw [List.length_set, pw_length env vs]
theorem pw_get {env : List (Option Py.O)} {i : Nat} : ∀ {vs : List Nat}, i ∈ vs → i < env.length → (Py.wipe env vs)[i]? = some none
  | v :: vs, h, hl => by
    unfold Py.wipe
    by_cases e : v = i
    · subst e
      rw [List.getElem?_set_self (by rw [pw_length]; exact hl)]
    · rw [List.getElem?_set_ne e]
      refine pw_get ?_ hl
      rcases List.mem_cons.mp h with q | q
      · exact absurd q.symm e
      · exact q
theorem pw_not {env : List (Option Py.O)} {i : Nat} : ∀ {vs : List Nat}, i ∉ vs → (Py.wipe env vs)[i]? = env[i]?
  | [], _ => rfl
  | v :: vs, h => by
    unfold Py.wipe
    rw [List.getElem?_set_ne (fun e => h (by rw [e]; exact List.mem_cons_self))]
    exact pw_not fun q => h (List.mem_cons_of_mem _ q)
theorem pb_length (env old : List (Option Py.O)) : ∀ vs : List Nat, (Py.putBack env old vs).length = env.length
  | [] => rfl
  | v :: vs => by unfold Py.putBack; rw [List.length_set, pb_length env old vs]
theorem pb_get {env old : List (Option Py.O)} {i : Nat} : ∀ {vs : List Nat}, i ∈ vs → i < env.length → (Py.putBack env old vs)[i]? = some (Py.dOnly old i)
  | v :: vs, h, hl => by
    unfold Py.putBack
    by_cases e : v = i
    · subst e
      rw [List.getElem?_set_self (by rw [pb_length]; exact hl)]
    · rw [List.getElem?_set_ne e]
      refine pb_get ?_ hl
      rcases List.mem_cons.mp h with q | q
      · exact absurd q.symm e
      · exact q
theorem pb_not {env old : List (Option Py.O)} {i : Nat} : ∀ {vs : List Nat}, i ∉ vs → (Py.putBack env old vs)[i]? = env[i]?
  | [], _ => rfl
  | v :: vs, h => by
    unfold Py.putBack
    rw [List.getElem?_set_ne (fun e => h (by rw [e]; exact List.mem_cons_self))]
    exact pb_not fun q => h (List.mem_cons_of_mem _ q)
theorem RS.wipe {w : Wd} {σ : L2.St} {s : Py.St} (rs : RS T w σ s) (vs : List Nat) : RS T w (L2.wipe σ vs) { s with env := Py.wipe s.env vs } := by
  refine ⟨rs.toLabOk, fun j u hu => ?_, rs.sto, rs.len, ?_⟩
  · by_cases hj : j ∈ vs
    · by_cases hl : j < s.env.length
      · have := pw_get hj hl
        rw [show (Py.wipe s.env vs)[j]? = some (some u) from hu] at this
        cases this
      · have : (Py.wipe s.env vs)[j]? = none := List.getElem?_eq_none (by rw [pw_length]; omega)
        rw [show (Py.wipe s.env vs)[j]? = some (some u) from hu] at this
        cases this
    · rw [show (Py.wipe s.env vs)[j]? = s.env[j]? from pw_not hj] at hu
      obtain ⟨v', e1, e2⟩ := rs.env j u hu
      exact ⟨v', by rw [wipe_not hj]; exact e1, e2⟩
  · show (Py.wipe s.env vs).length = (L2.wipe σ vs).length
    rw [pw_length, L2.wipe_length]
    exact rs.el
/-- the names come back -/
theorem RS.unwipe {w w' : Wd} {σ : L2.St} {s s' : Py.St} {vs : List Nat} (rs : RS T w σ s) (l : Lat w w') (rs' : RS T w' (L2.wipe σ vs) { s' with env := Py.wipe s'.env vs }) : RS T w' σ { s' with env := Py.putBack s'.env s.env vs } := by
  have hl : s'.env.length = σ.length := by
    have := rs'.el
    rw [L2.wipe_length] at this
    exact (pw_length s'.env vs).symm.trans this
  refine ⟨rs'.toLabOk, fun j u hu => ?_, rs'.sto, rs'.len, (pb_length _ _ _).trans hl⟩
  by_cases hj : j ∈ vs
  · by_cases hb : j < s'.env.length
    · rw [show (Py.putBack s'.env s.env vs)[j]? = _ from pb_get hj hb] at hu
      have hu := Option.some.inj hu
      unfold Py.dOnly at hu
      split at hu
      · rename_i x e
        cases hu
        obtain ⟨v, e1, e2⟩ := rs.env j _ e
        cases e2 with
        | d e2 => exact ⟨v, e1, .d (e2.mono l.g l.f)⟩
      · cases hu
    · have : (Py.putBack s'.env s.env vs)[j]? = none := List.getElem?_eq_none (by rw [pb_length]; omega)
      rw [show (Py.putBack s'.env s.env vs)[j]? = some (some u) from hu] at this
      cases this
  · rw [show (Py.putBack s'.env s.env vs)[j]? = _ from pb_not hj] at hu
    obtain ⟨v, e1, e2⟩ := rs'.env j u (by rw [show (Py.wipe s'.env vs)[j]? = _ from pw_not hj]; exact hu)
    rw [wipe_not hj] at e1
    exact ⟨v, e1, e2⟩
mutual
theorem bind_tg {K : PySem.W.Frag} {w : Wd} {s : Py.St} : ∀ {t : Py.Tg} {σ : L2.St} {env env' : List (Option Py.O)} {v : V} {d : Py.D}, RS T w σ { s with env := env } → Rep T w.G w.φ v d → Py.bindT t d env = some env' →
    ∀ Q : L2.St → Hp → Prop, (∀ σ', RS T w σ' { s with env := env' } → (∀ vs, (∀ i ∈ t.slots, i ∈ vs) → L2.wipe σ' vs = L2.wipe σ vs) → Q σ' w.H) → gT K t v σ w.H Q
  | .nm i, σ, env, env', v, d, rs, r, e, Q, q => by
    rw [Py.bindT] at e
    cases e
    exact q _ (rs.setD r i) fun vs h => wipe_set (h i (by simp [Py.Tg.slots]))
  | .tup l, σ, env, env', v, d, rs, r, e, Q, q => by
    cases d with
    | tup xs =>
      rw [Py.bindT] at e
      cases r with
      | tup a b =>
        refine ⟨_, _, rfl, .inl (.inl (rs.gh _ _ a)), ?_, ?_⟩
        · rw [b.length]
          exact binds_len e
        · refine binds_tg rs b e Q fun σ' rs' h => q σ' rs' fun vs hv => h vs fun i hi => hv i ?_
          rw [Py.Tg.slots]
          exact hi
    | _ => rw [Py.bindT] at e <;> first | cases e | (intros; simp_all)
theorem binds_tg {K : PySem.W.Frag} {w : Wd} {s : Py.St} : ∀ {l : List Py.Tg} {σ : L2.St} {env env' : List (Option Py.O)} {vl : List V} {ds : List Py.D}, RS T w σ { s with env := env } → Reps T w.G w.φ vl ds → Py.bindT.go l ds env = some env' →
    ∀ Q : L2.St → Hp → Prop, (∀ σ', RS T w σ' { s with env := env' } → (∀ vs, (∀ i ∈ Py.Tg.slots.go l, i ∈ vs) → L2.wipe σ' vs = L2.wipe σ vs) → Q σ' w.H) → gTs K l vl σ w.H Q
  | [], σ, env, env', _, _, rs, .nil, e, Q, q => by
    rw [Py.bindT.go] at e
    cases e
    exact ⟨rfl, q _ rs fun _ _ => rfl⟩
  | t :: ts, σ, env, env', _, _, rs, .cons r1 r2, e, Q, q => by
    rw [Py.bindT.go] at e
    cases h : Py.bindT t _ env with
    | none => rw [h] at e; cases e
    | some env2 =>
      rw [h] at e
      refine ⟨_, _, rfl, bind_tg rs r1 h _ fun σ2 rs2 w2 => binds_tg rs2 r2 e _ fun σ3 rs3 w3 => q σ3 rs3 fun vs hv => ?_⟩
      rw [w3 vs fun i hi => hv i (by rw [Py.Tg.slots.go]; exact List.mem_append_right _ hi), w2 vs fun i hi => hv i (by rw [Py.Tg.slots.go]; exact List.mem_append_left _ hi)]
  | [], _, _, _, _, _, _, .cons _ _, e, _, _ => by rw [Py.bindT.go] at e <;> first | cases e | (intros; simp_all)
  | _ :: _, _, _, _, _, _, _, .nil, e, _, _ => by rw [Py.bindT.go] at e <;> first | cases e | (intros; simp_all)
theorem binds_len : ∀ {l : List Py.Tg} {ds : List Py.D} {env env' : List (Option Py.O)}, Py.bindT.go l ds env = some env' → ds.length = l.length
  | [], [], _, _, _ => rfl
  | t :: ts, d :: ds, env, env', e => by
    rw [Py.bindT.go] at e
    cases h : Py.bindT t d env with
    | none => rw [h] at e; cases e
    | some env2 =>
      rw [h] at e
      rw [List.length_cons, List.length_cons, binds_len e]
  | [], _ :: _, _, _, e => by rw [Py.bindT.go] at e <;> first | cases e | (intros; simp_all)
  | _ :: _, [], _, _, e => by rw [Py.bindT.go] at e <;> first | cases e | (intros; simp_all)
end
end PyS
end

section
set_option Elab.async false
set_option linter.all false
set_option maxRecDepth 100000
set_option maxHeartbeats 2000000
/-! Z5: comprehensions. -/
namespace PyS
open PySem L2
variable {T : Tb}
theorem RS.updH {w : Wd} {σ : L2.St} {s : Py.St} (rs : RS T w σ s) {D : Addr} {o : HO} (hl : w.lab D = none) (hg : w.G D = none) : RS T { w with H := upd w.H D o } σ s := by
  have hne : ∀ a r, w.lab a = some r → a ≠ D := fun a r h e => by rw [e, hl] at h; cases h
  have mv : ∀ r, Moves w { w with H := upd w.H D o } r r := fun r => ⟨GLe.refl _, PLe.refl _, fun a π q => ⟨q, fun u hu => by
    show upd w.H D o a = some u
    rw [upd_ne (hne a _ q)]
    exact hu⟩⟩
  refine ⟨⟨fun a u h => ?_, fun a r h => ⟨(rs.lg a r h).1, ?_⟩⟩, fun i u h => ?_, fun n u h => ?_, rs.len, rs.el⟩
  · show upd w.H D o a = some u
    rw [upd_ne (fun e => by rw [e, hg] at h; cases h)]
    exact rs.gh a u h
  · show upd w.H D o a ≠ none
    rw [upd_ne (hne a r h)]
    exact (rs.lg a r h).2
  · obtain ⟨v, e1, e2⟩ := rs.env i u h
    exact ⟨v, e1, e2.move (mv _)⟩
  · obtain ⟨v, e1, e2⟩ := rs.sto n u h
    exact ⟨v, e1, e2.move (mv _)⟩
theorem Stp.updN {w w' : Wd} (st : Stp w w') {D : Addr} {o : HO} (h0 : w.H D = none) : Stp w { w' with H := upd w'.H D o } := by
  refine ⟨st.g, st.f, fun a u h l => ?_, fun a h => ?_⟩
  · obtain ⟨h1, h2, h3⟩ := st.h a u h l
    refine ⟨?_, h2, h3⟩
    show upd w'.H D o a = some u
    rw [upd_ne (ne_of_none h h0)]
    exact h1
  · show upd w'.H D o a ≠ none
    by_cases e : a = D
    · rw [e, upd_same]
      exact fun z => nomatch z
    · rw [upd_ne e]
      exact st.t a h
theorem Res.list {w0 w : Wd} {D : Addr} {xs : List V} {ds : List Py.D} (hl : w.lab D = none) (hg : w.G D = none) (hH : w.H D = some (.lst xs)) (h0 : w0.H D = none) (r : Reps T w.G w.φ xs ds) : Res T w0 w (.ref D) (.lst (ds.map .d)) := by
  refine ⟨fun a => if a = D then some (.tmp, []) else none, fun a x e => ?_, .lst (by simp) hH (Reps.os (w := { w with lab := fun a => if a = D then some (.tmp, []) else none }) r)⟩
  replace e : (if a = D then some (Root.tmp, ([] : List Nat)) else none) = some x := e
  by_cases q : a = D
  · rw [if_pos q] at e
    subst q
    cases e
    exact ⟨rfl, hl, hg, (by rw [hH]; exact fun z => nomatch z), .inl h0⟩
  · rw [if_neg q] at e
    cases e
theorem lcLoop_len {f : Py.D → Py.St → Option (Option Py.D × Py.St)} : ∀ {xs acc : List Py.D} {s : Py.St} {ys : List Py.D} {s' : Py.St}, Py.lcLoop f xs acc s = some (ys, s') → acc.length ≤ ys.length
  | [], acc, s, ys, s', h => by
    simp only [Py.lcLoop, Option.some.injEq, Prod.mk.injEq] at h
    rw [← h.1, List.length_reverse]
    exact Nat.le_refl _
  | x :: xs, acc, s, ys, s', h => by
    rw [Py.lcLoop] at h
    split at h
    · cases h
    · exact lcLoop_len h
    · have := lcLoop_len h
      rw [List.length_cons] at this
      omega
/-- the block's contexts -/
abbrev Blk (X : Cx) (scope : Scope) (P : Cx → Prop) : Prop := ∀ (s : Shared) (H : Hp) (C : Addr) (cl : List (Str × Addr)) (fp : List Addr), P (X.blk s H scope (compEnvC scope cl C X.env) fp)
section
variable {c : Py.Cx} {X : Cx}
def WEb (X : Cx) (scope : Scope) (e : Expr) : TE := fun σ H Q => Blk X scope fun B => WE B e σ H Q
def WTb (X : Cx) (scope : Scope) (e : Expr) : TT := fun σ H Q => Blk X scope fun B => WT B e σ H Q
theorem peb {scope : Scope} {e : Expr} (s : Shared) (H : Hp) (C : Addr) (cl : List (Str × Addr)) (fp : List Addr) : PE (X.blk s H scope (compEnvC scope cl C X.env) fp) e (WEb X scope e) :=
  ⟨fun pins s' σ H' Q I h => h s H C cl fp pins s' I⟩
theorem ptb {scope : Scope} {e : Expr} (s : Shared) (H : Hp) (C : Addr) (cl : List (Str × Addr)) (fp : List Addr) : PT (X.blk s H scope (compEnvC scope cl C X.env) fp) e (WTb X scope e) :=
  ⟨fun pins s' σ H' Q I h => h s H C cl fp pins s' I⟩
/-- none or one test -/
inductive SimTs (T : Tb) (c : Py.Cx) (X : Cx) (scope : Scope) : List Expr → List Py.E → TT → Prop
  | nil : SimTs T c X scope [] [] tYes
  | one {e : Expr} {E : Py.E} : Blk X scope (fun B => SimT T c B e E) → SimTs T c X scope [e] [E] (WTb X scope e)
theorem SimTs.run {scope : Scope} {es : List Expr} {Es : List Py.E} {tt : TT} (h : SimTs T c X scope es Es tt) {w : Wd} {σ : L2.St} {s : Py.St} {b : Bool} {s' : Py.St} (rs : RS T w σ s) (ev : Py.evT c Es s = some (b, s'))
    {Q : Bool → Hp → Prop} (q : ∀ w', Stp w w' → RS T w' σ s' → Q b w'.H) : tt σ w.H Q := by
  cases h with
  | nil =>
    simp only [Py.evT, Option.some.injEq, Prod.mk.injEq] at ev
    obtain ⟨rfl, rfl⟩ := ev
    exact q w (Stp.refl _) rs
  | one h =>
    intro s0 H0 C cl fp
    rw [Py.evT] at ev
    split at ev
    · rename_i s1 e1
      simp only [Py.evT, Option.some.injEq, Prod.mk.injEq] at ev
      obtain ⟨rfl, rfl⟩ := ev
      exact h s0 H0 C cl fp w σ s true _ rs e1 _ fun w1 st1 rs1 _ => q w1 st1 rs1
    · rename_i s1 e1
      simp only [Option.some.injEq, Prod.mk.injEq] at ev
      obtain ⟨rfl, rfl⟩ := ev
      exact h s0 H0 C cl fp w σ s false _ rs e1 _ fun w1 st1 rs1 _ => q w1 st1 rs1
    · cases ev
theorem SimTs.pts {scope : Scope} {es : List Expr} {Es : List Py.E} {tt : TT} (h : SimTs T c X scope es Es tt) : ∀ (s : Shared) (H : Hp) (C : Addr) (cl : List (Str × Addr)) (fp : List Addr), PTs (X.blk s H scope (compEnvC scope cl C X.env) fp) es tt := by
  intro s H C cl fp
  cases h with
  | nil => exact pts_nil
  | one h => exact pts_one (ptb s H C cl fp)
/-- what a comprehension asks for -/
structure LcOk (T : Tb) (c : Py.Cx) (X : Cx) (elt tg iter : Expr) (ifs : List Expr) (scope : Scope) (own : List (Str × Nat)) (t : Py.Tg) (k : Option Py.Itk) (Es Cs : List Py.E) (El : Py.E) (tt : TT) : Prop where
  calm : X.calm = true
  nd : X.N.Nodup
  it : SimI T c X tg iter k Es
  blk : BlkOk X.N X.env.scope scope own
  own : own.map (·.2) = t.slots
  tg : Blk X scope fun B => tgC B.env.scope B.fn B.N t tg = true
  ts : SimTs T c X scope ifs Cs tt
  el : Blk X scope fun B => SimE T c B elt El
  fold : ∀ x, foldedSetIterable iter X.env x = pure x
/-- what it does -/
theorem lc_walk {elt tg iter : Expr} {ifs : List Expr} {scope : Scope} {own : List (Str × Nat)} {t : Py.Tg} {k : Option Py.Itk} {Es Cs : List Py.E} {El : Py.E} {tt : TT} (L : LcOk T c X elt tg iter ifs scope own t k Es Cs El tt)
    {m : Bool} {w : Wd} {σ : L2.St} {s : Py.St} {o : Py.O} {s' : Py.St} (rs : RS T w σ s) (ev : Py.ev c m (.lc t k Es Cs El) s = some (o, s')) {Q : VK} (q : ∀ v w', Stp w w' → RS T w' σ s' → Res T w w' v o → Q v w'.H) :
    tLc (WI X tg iter) (gT X.K t) tt (WEb X scope elt) (own.map (·.2)) σ w.H Q := by
  rw [L.own]
  obtain ⟨vs, hvs⟩ : ∃ vs, t.slots = vs := ⟨_, rfl⟩
  rw [hvs]
  simp only [Py.ev, hvs] at ev
  split at ev
  · rename_i ds s1 e1
    split at ev
    · rename_i xs e2
      split at ev
      · rename_i ys s2 e3
        split at ev
        · rename_i hlen
          simp only [Option.some.injEq, Prod.mk.injEq] at ev
          obtain ⟨rfl, rfl⟩ := ev
          refine L.it w σ s ds s1 xs rs e1 e2 _ fun J w1 st1 rs1 yl => fun D hD => ?_
          generalize hf : (fun (x : Py.D) (s : Py.St) => match Py.bindT t x (Py.wipe s.env vs) with
            | some env => match Py.evT c Cs { s with env := env } with
              | some (true, s2) => match Py.ev c false El s2 with
                | some (o, s3) => some (some o.toD, s3)
                | none => none
              | some (false, s2) => some (none, s2)
              | none => none
            | none => none) = f at e3
          have hD0 : w.H D = none := by
            cases z : w.H D with
            | none => rfl
            | some u => exact absurd hD (st1.t D (by rw [z]; exact fun y => nomatch y))
          have hDl : w1.lab D = none := by
            cases z : w1.lab D with
            | none => rfl
            | some r => exact absurd hD (rs1.lg D r z).2
          have hDg : w1.G D = none := by
            cases z : w1.G D with
            | none => rfl
            | some u => rw [rs1.gh D u z] at hD; cases hD
          let Iv : Nat → Hp → Prop := fun i H => ∃ (w' : Wd) (s' : Py.St) (acc : List V) (accd : List Py.D), w'.H = H ∧ Stp w1 w' ∧ RS T w' (L2.wipe σ vs) { s' with env := Py.wipe s'.env vs } ∧
            w'.H D = some (.lst acc) ∧ w'.lab D = none ∧ w'.G D = none ∧ Reps T w'.G w'.φ acc accd.reverse ∧ Py.lcLoop f (xs.drop i) accd s' = some (ys, s2)
          obtain ⟨a1, a2⟩ := rs1.alloc hD (.lst [])
          have i0 : Iv 0 (upd w1.H D (.lst [])) := ⟨_, s1, [], [], rfl, a1, a2.wipe vs, upd_same, hDl, hDg, .nil, e3⟩
          refine ⟨fun i n H => n = xs.length - i ∧ i ≤ xs.length ∧ Iv i H, ⟨_, rfl, Nat.zero_le _, i0⟩, ?_⟩
          rintro i n H ⟨rfl, hi, w2, s3, acc, accd, rfl, st2, rs2, hH2, hl2, hg2, r2, lp⟩
          by_cases hlt : i < xs.length
          · refine .inr ⟨yl.go i w2 st2.lat rs2.toLabOk hlt, Iv (i + 1), fun H' p => ⟨xs.length - (i + 1), by omega, rfl, hlt, p⟩, fun x H' y => ?_⟩
            have hd : xs[i]? = some xs[i] := List.getElem?_eq_getElem hlt
            obtain ⟨w3, rfl, st3, rs3, rx⟩ := yl.yld i w2 _ _ x H' _ st2.lat rs2 hd y
            rw [List.drop_eq_getElem_cons hlt, Py.lcLoop] at lp
            have hf' := hf
            -- D through a step
            have keepD : ∀ {wa wb : Wd}, Stp wa wb → wa.H D = some (.lst acc) → wa.lab D = none → wa.G D = none → wb.H D = some (.lst acc) ∧ wb.lab D = none ∧ wb.G D = none := fun {wa wb} st h l g => by
              obtain ⟨h1, h2, h3⟩ := st.h D _ h l
              exact ⟨h1, h2, h3.trans g⟩
            obtain ⟨hH3, hl3, hg3⟩ := keepD st3 hH2 hl2 hg2
            cases hfx : f xs[i] s3 with
            | none => rw [hfx] at lp; cases lp
            | some r =>
              rw [hfx] at lp
              rw [← hf] at hfx
              simp only at hfx
              cases hb : Py.bindT t xs[i] (Py.wipe s3.env vs) with
              | none => rw [hb] at hfx; cases hfx
              | some env =>
                rw [hb] at hfx
                simp only at hfx
                refine bind_tg (s := s3) rs3 rx hb _ fun σ2 rs4 hw2 => ?_
                have hws : L2.wipe σ2 vs = L2.wipe σ vs := (hw2 vs (by rw [hvs]; exact fun _ h => h)).trans wipe_wipe
                refine ⟨hws, ?_⟩
                cases ht : Py.evT c Cs { s3 with env := env } with
                | none => rw [ht] at hfx; cases hfx
                | some p =>
                  obtain ⟨b, s4⟩ := p
                  rw [ht] at hfx
                  refine L.ts.run rs4 ht fun w4 st4 rs5 => ?_
                  obtain ⟨hH4, hl4, hg4⟩ := keepD st4 hH3 hl3 hg3
                  have st24 : Stp w1 w4 := (st2.trans st3).trans st4
                  have r4 : Reps T w4.G w4.φ acc accd.reverse := r2.mono (st3.g.trans st4.g) (st3.f.trans st4.f)
                  cases b with
                  | false =>
                    simp only at hfx
                    cases hfx
                    simp only [Bool.false_eq_true, if_false]
                    refine ⟨w4, s4, acc, accd, rfl, st24, ?_, hH4, hl4, hg4, r4, lp⟩
                    rw [← hws]
                    exact rs5.wipe vs
                  | true =>
                    simp only at hfx
                    simp only [if_true]
                    cases he : Py.ev c false El s4 with
                    | none => rw [he] at hfx; cases hfx
                    | some p =>
                      obtain ⟨o, s5⟩ := p
                      rw [he] at hfx
                      cases hfx
                      intro s0 H0 C cl fp
                      refine L.el s0 H0 C cl fp false w4 σ2 s4 o _ rs5 he _ fun v w5 st5 rs6 q5 p5 => ?_
                      obtain ⟨w6, h6, st6, rs7, r7, f7, g7, l7⟩ := p5.res.toD st5 rs6
                      obtain ⟨hH6, hl6, hg6⟩ := keepD st6 hH4 hl4 hg4
                      have hz : acc.length < sizeLine := by
                        have h1 := lcLoop_len lp
                        have h2 := lenOk_le hlen
                        rw [List.length_cons] at h1
                        have h3 := r2.length
                        rw [List.length_reverse] at h3
                        omega
                      refine ⟨acc, by rw [← h6]; exact hH6, hz, ?_⟩
                      refine ⟨{ w6 with H := upd w6.H D (.lst (acc ++ [v])) }, _, acc ++ [v], o.toD :: accd, by rw [← h6], (st24.trans st6).updN hD, ?_, upd_same, hl6, hg6, ?_, lp⟩
                      · rw [← hws]
                        exact (rs7.updH hl6 hg6).wipe vs
                      · rw [List.reverse_cons]
                        exact (r4.mono st6.g st6.f).append (.cons r7 .nil)
          · have hi' : i = xs.length := by omega
            subst hi'
            refine .inl ⟨yl.stop w2 st2.lat rs2.toLabOk, ?_⟩
            rw [List.drop_length, Py.lcLoop] at lp
            simp only [Option.some.injEq, Prod.mk.injEq] at lp
            obtain ⟨rfl, rfl⟩ := lp
            exact q _ w2 (st1.trans st2) (rs1.unwipe st2.lat rs2) (Res.list hl2 hg2 hH2 hD0 r2)
        · cases ev
      · cases ev
    · cases ev
  · cases ev
theorem sim_lc {elt tg iter : Expr} {ifs : List Expr} {scope : Scope} {own : List (Str × Nat)} {t : Py.Tg} {k : Option Py.Itk} {Es Cs : List Py.E} {El : Py.E} {tt : TT} {pos : Pos} (L : LcOk T c X elt tg iter ifs scope own t k Es Cs El tt) :
    SimE T c X (.ListComp elt [⟨tg, iter, ifs, 0⟩] scope pos) (.lc t k Es Cs El) := by
  intro m w σ s o s' rs ev Q q
  refine WE.of (pe_lc (g := gT X.K t) L.calm L.nd pi_self L.blk (fun s H C cl fp => pg_tg (X := X.blk s H scope (compEnvC scope cl C X.env) fp) L.calm L.nd (L.tg s H C cl fp)) L.ts.pts peb L.fold) ?_
  exact lc_walk L rs ev fun v w' st rs' r => q v w' st rs' (fun qq => by simp only [Py.E.quiet] at qq; cases qq) (PO.of r)
end
end PyS
end

section
set_option Elab.async false
set_option linter.all false
set_option maxRecDepth 100000
set_option maxHeartbeats 2000000
/-! Z6: statements. -/
namespace PyS
open PySem L2
variable {T : Tb}
def WS (X : Cx) (st : Stmt) : TS := fun D σ H => ∀ (pins : List (Addr × Obj)) (s : Shared), Inv X pins σ H s → wpAny (model X.prog X.w) X.A (exec st X.env) (SP X pins D) X.xe s
theorem ps_self {X : Cx} {st : Stmt} : PS X st (WS X st) := ⟨fun pins s σ H D I h => h pins s I⟩
theorem WS.of {X : Cx} {st : Stmt} {t : TS} (p : PS X st t) {D : Ends} {σ : L2.St} {H : Hp} (h : t D σ H) : WS X st D σ H := fun pins s I => p.run pins s σ H D I h
def WB (X : Cx) (st : List Stmt) : TS := fun D σ H => ∀ (pins : List (Addr × Obj)) (s : Shared), Inv X pins σ H s → wpAny (model X.prog X.w) X.A (execs st X.env) (SP X pins D) X.xe s
theorem pb_self {X : Cx} {st : List Stmt} : PSs X st (WB X st) := ⟨fun pins s σ H D I h => h pins s I⟩
theorem WB.of {X : Cx} {st : List Stmt} {t : TS} (p : PSs X st t) {D : Ends} {σ : L2.St} {H : Hp} (h : t D σ H) : WB X st D σ H := fun pins s I => p.run pins s σ H D I h
def EndOk (T : Tb) (w w' : Wd) (σ' : L2.St) (D : Ends) : Py.Out → Prop
  | .nx => D.nx σ' w'.H
  | .cont => D.ct σ' w'.H
  | .brk => D.bk σ' w'.H
  | .ret o => ∀ v, Res T w w' v o → D.rt v w'.H
/-- every end is met -/
def EndsAt (T : Tb) (w : Wd) (D : Ends) (out : Py.Out) (s' : Py.St) : Prop := ∀ (w' : Wd) (σ' : L2.St), Stp w w' → RS T w' σ' s' → match out with
  | .nx => D.nx σ' w'.H
  | .cont => D.ct σ' w'.H
  | .brk => D.bk σ' w'.H
  | .ret o => ∀ v, Res T w w' v o → D.rt v w'.H
def SimS (T : Tb) (c : Py.Cx) (X : Cx) (st : Stmt) (S : Py.S) : Prop :=
  ∀ (w : Wd) (σ : L2.St) (s : Py.St) (out : Py.Out) (s' : Py.St), RS T w σ s → Py.ex c S s = some (out, s') → ∀ D : Ends, EndsAt T w D out s' → WS X st D σ w.H
def SimB (T : Tb) (c : Py.Cx) (X : Cx) (st : List Stmt) (S : List Py.S) : Prop :=
  ∀ (w : Wd) (σ : L2.St) (s : Py.St) (out : Py.Out) (s' : Py.St), RS T w σ s → Py.exs c S s = some (out, s') → ∀ D : Ends, EndsAt T w D out s' → WB X st D σ w.H
theorem EndsAt.later {w w1 : Wd} {D : Ends} {out : Py.Out} {s' : Py.St} (h : EndsAt T w D out s') (st : Stp w w1) : EndsAt T w1 D out s' := by
  intro w' σ' st' rs'
  have := h w' σ' (st.trans st') rs'
  cases out with
  | nx => exact this
  | cont => exact this
  | brk => exact this
  | ret o => exact fun v r => this v (r.from st)
section
variable {c : Py.Cx} {X : Cx}
theorem simB_nil : SimB T c X [] [] := by
  intro w σ s out s' rs ev D d
  simp only [Py.exs, Option.some.injEq, Prod.mk.injEq] at ev
  obtain ⟨rfl, rfl⟩ := ev
  exact WB.of pss_nil (d w σ (Stp.refl _) rs)
theorem simB_cons {st : Stmt} {sts : List Stmt} {S : Py.S} {Ss : List Py.S} (h : SimS T c X st S) (hs : SimB T c X sts Ss) : SimB T c X (st :: sts) (S :: Ss) := by
  intro w σ s out s' rs ev D d
  refine WB.of (pss_cons ps_self pb_self) ?_
  rw [Py.exs] at ev
  split at ev
  · rename_i s1 e1
    refine h w σ s .nx s1 rs e1 _ fun w1 σ1 st1 rs1 => ?_
    exact hs w1 σ1 s1 out s' rs1 ev D (d.later st1)
  · rename_i o s1 hn e1
    simp only [Option.some.injEq, Prod.mk.injEq] at ev
    obtain ⟨rfl, rfl⟩ := ev
    refine h w σ s o s1 rs e1 _ fun w1 σ1 st1 rs1 => ?_
    have := d w1 σ1 st1 rs1
    cases o with
    | nx => exact (hn rfl).elim
    | cont => exact this
    | brk => exact this
    | ret o => exact this
  · cases ev
/-- a docstring -/
theorem simS_doc {x : Str} {j : Nat} {p p' : Pos} : SimS T c X (.Expr (.Constant (.str x) j p) p') .pass := by
  intro w σ s out s' rs ev D d
  simp only [Py.ex, Option.some.injEq, Prod.mk.injEq] at ev
  obtain ⟨rfl, rfl⟩ := ev
  exact WS.of ps_doc (d w σ (Stp.refl _) rs)
theorem simS_pass {p : Pos} : SimS T c X (.Pass p) .pass := by
  intro w σ s out s' rs ev D d
  simp only [Py.ex, Option.some.injEq, Prod.mk.injEq] at ev
  obtain ⟨rfl, rfl⟩ := ev
  exact WS.of ps_pass (d w σ (Stp.refl _) rs)
theorem simS_brk {p : Pos} : SimS T c X (.Break p) .brk := by
  intro w σ s out s' rs ev D d
  simp only [Py.ex, Option.some.injEq, Prod.mk.injEq] at ev
  obtain ⟨rfl, rfl⟩ := ev
  exact WS.of ps_break (d w σ (Stp.refl _) rs)
theorem simS_cont {p : Pos} : SimS T c X (.Continue p) .cont := by
  intro w σ s out s' rs ev D d
  simp only [Py.ex, Option.some.injEq, Prod.mk.injEq] at ev
  obtain ⟨rfl, rfl⟩ := ev
  exact WS.of ps_continue (d w σ (Stp.refl _) rs)
theorem simS_ex {e : Expr} {E : Py.E} {p : Pos} (hs : swapsWith e none p.line X.env = pure false) (h : SimE T c X e E) : SimS T c X (.Expr e p) (.ex E) := by
  intro w σ s out s' rs ev D d
  simp only [Py.ex] at ev
  split at ev
  · rename_i o s1 e1
    simp only [Option.some.injEq, Prod.mk.injEq] at ev
    obtain ⟨rfl, rfl⟩ := ev
    refine WS.of (ps_expr pe_self hs) ?_
    exact h false w σ s o s1 rs e1 _ fun v w1 st1 rs1 _ _ => d w1 σ st1 rs1
  · cases ev
theorem simS_ret {e : Expr} {E : Py.E} {p : Pos} (h : SimE T c X e E) : SimS T c X (.Return (some e) p) (.ret E) := by
  intro w σ s out s' rs ev D d
  simp only [Py.ex] at ev
  split at ev
  · rename_i o s1 e1
    simp only [Option.some.injEq, Prod.mk.injEq] at ev
    obtain ⟨rfl, rfl⟩ := ev
    refine WS.of (ps_ret pe_self) ?_
    exact h false w σ s o s1 rs e1 _ fun v w1 st1 rs1 _ r => d w1 σ st1 rs1 v r.res
  · cases ev
theorem simS_if {e : Expr} {E : Py.E} {a b : List Stmt} {A B : List Py.S} {p : Pos} (h : SimT T c X e E) (ha : SimB T c X a A) (hb : SimB T c X b B) : SimS T c X (.If e a b p) (.ite E A B) := by
  intro w σ s out s' rs ev D d
  simp only [Py.ex] at ev
  refine WS.of (ps_if pt_self pb_self pb_self) ?_
  split at ev
  · rename_i s1 e1
    refine h w σ s true s1 rs e1 _ fun w1 st1 rs1 _ => ?_
    rw [if_pos rfl]
    exact ha w1 σ s1 out s' rs1 ev D (d.later st1)
  · rename_i s1 e1
    refine h w σ s false s1 rs e1 _ fun w1 st1 rs1 _ => ?_
    rw [if_neg Bool.false_ne_true]
    exact hb w1 σ s1 out s' rs1 ev D (d.later st1)
  · cases ev
/-! ### one name stored -/
theorem RS.frzAt {w : Wd} {σ : L2.St} {env : List (Option Py.O)} {sto : List Py.O} {i : Nat} {v : V} {o : Py.O} (rs : RS T w (σ.set i (some v)) ⟨env.set i (some o), sto⟩) (hi : i < env.length) :
    ∃ w', w'.H = w.H ∧ Stp w w' ∧ RS T w' (σ.set i (some v)) ⟨env.set i (some (.d o.toD)), sto⟩ := by
  obtain ⟨v', w', h1, h2, h3, h4, h5⟩ := rs.freeze (i := i) (o := o) (by
    show (env.set i (some o))[i]? = some (some o)
    rw [List.getElem?_set_self hi])
  refine ⟨w', h2, h3, ?_⟩
  have e : (env.set i (some o)).set i (some (.d o.toD)) = env.set i (some (.d o.toD)) := List.set_set ..
  rw [← e]
  exact h4
/-- an owned result becomes a cell -/
theorem Res.cell {w0 w : Wd} {v : V} {o : Py.O} {σ : L2.St} {s : Py.St} (h : Res T w0 w v o) (hv : o.isD = false) (st : Stp w0 w) (rs : RS T w σ s) :
    ∃ w', w'.H = w.H ∧ Stp w0 w' ∧ RS T w' σ { s with sto := s.sto ++ [o] } ∧ Rep T w'.G w'.φ v (.cell s.sto.length) := by
  obtain ⟨l, a, r⟩ := h
  obtain ⟨p, rfl⟩ : ∃ p, v = .ref p := by
    cases r with
    | d _ => cases hv
    | lst _ _ _ => exact ⟨_, rfl⟩
    | dic _ _ _ => exact ⟨_, rfl⟩
    | ins _ _ _ _ => exact ⟨_, rfl⟩
  generalize hn : s.sto.length = n
  let lab' : Lab := fun q => match l q with
    | some (_, π) => some (.cell n, π)
    | none => w.lab q
  have l1 : ∀ {q r π}, l q = some (r, π) → lab' q = some (.cell n, π) := fun {q r π} e => by
    show (match l q with | some (_, π) => some (Root.cell n, π) | none => w.lab q) = _
    rw [e]
  have l0 : ∀ {q}, l q = none → lab' q = w.lab q := fun {q} e => by
    show (match l q with | some (_, π) => some (Root.cell n, π) | none => w.lab q) = _
    rw [e]
  have hP : PLe w.φ (w.φ ++ [p]) := fun k b e => by
    rw [List.getElem?_append_left (List.getElem?_eq_some_iff.mp e).1]
    exact e
  have other : ∀ r', Moves w { w with lab := lab', φ := w.φ ++ [p] } r' r' := fun r' => ⟨GLe.refl _, hP, fun q π e => ⟨(by
    show lab' q = _
    cases z : l q with
    | none =>
      rw [l0 z]
      exact e
    | some y =>
      rw [(a q y z).2.1] at e
      cases e), fun _ z => z⟩⟩
  refine ⟨{ w with lab := lab', φ := w.φ ++ [p] }, rfl, ⟨st.g, st.f.trans hP, fun q u hu hl => ?_, st.t⟩, ⟨⟨rs.gh, fun q x e => ?_⟩, fun i u hu => ?_, fun k u hu => ?_, ?_, rs.el⟩, ?_⟩
  · obtain ⟨b1, b2, b3⟩ := st.h q u hu hl
    refine ⟨b1, ?_, b3⟩
    cases z : l q with
    | none =>
      show lab' q = none
      rw [l0 z]
      exact b2
    | some y =>
      rcases (a q y z).2.2.2.2 with y | y
      · rw [y] at hu; cases hu
      · exact absurd hl y
  · cases z : l q with
    | none =>
      have e : lab' q = some x := e
      rw [l0 z] at e
      exact rs.lg q x e
    | some y => exact ⟨(a q y z).2.2.1, (a q y z).2.2.2.1⟩
  · obtain ⟨v', e1, e2⟩ := rs.env i u hu
    exact ⟨v', e1, e2.move (other _)⟩
  · by_cases hk : k < s.sto.length
    · rw [List.getElem?_append_left hk] at hu
      obtain ⟨v', e1, e2⟩ := rs.sto k u hu
      exact ⟨v', hP k v' e1, e2.move (other _)⟩
    · rw [List.getElem?_append_right (by omega)] at hu
      have e : k - s.sto.length = 0 := by
        cases z : k - s.sto.length with
        | zero => rfl
        | succ j => rw [z] at hu; simp at hu
      rw [e] at hu
      simp at hu
      subst hu
      have hkn : k = n := by omega
      subst hkn
      refine ⟨p, ?_, RepO.move ?_ r⟩
      · show (w.φ ++ [p])[k]? = some p
        rw [List.getElem?_append_right (by rw [rs.len]; omega), rs.len, e]
        rfl
      · exact ⟨GLe.refl _, hP, fun q π e => ⟨l1 e, fun _ z => z⟩⟩
  · show (w.φ ++ [p]).length = (s.sto ++ [o]).length
    rw [List.length_append, List.length_append, rs.len] <;> rfl
  · refine .cell ?_
    show (w.φ ++ [p])[n]? = some p
    rw [List.getElem?_append_right (by rw [rs.len, hn]; exact Nat.le_refl _), rs.len, hn, Nat.sub_self]
    rfl
/-- the name's new state -/
theorem store_one {w0 w : Wd} {v : V} {o : Py.O} {σ : L2.St} {s : Py.St} {i : Nat} (h : Res T w0 w v o) (st : Stp w0 w) (rs : RS T w σ s) (hi : i < σ.length) (hc : i ∈ c.cel → o.isD = false) :
    ∃ w', w'.H = w.H ∧ Stp w0 w' ∧ RS T w' (σ.set i (some v)) (Py.stE c i o s) := by
  unfold Py.stE
  split
  · rename_i hm
    obtain ⟨w', h1, h2, h3, h4⟩ := h.cell (hc hm) st rs
    exact ⟨w', h1, h2, h3.setD h4 i⟩
  · split
    · exact h.store st rs hi
    · obtain ⟨w', h1, h2, h3⟩ := h.store st rs hi
      obtain ⟨w2, h4, h5, h6⟩ := RS.frzAt h3 (by rw [rs.el]; exact hi)
      exact ⟨w2, h4.trans h1, h2.trans h5, h6⟩
end
end PyS
end

section
set_option Elab.async false
set_option linter.all false
set_option maxRecDepth 100000
set_option maxHeartbeats 2000000
/-! Z7: assignments. -/
namespace PyS
open PySem L2
variable {T : Tb}
/-! ### several owned values -/
abbrev labJ (l : Addr → Option (Nat × List Nat)) : Lab := fun a => (l a).map fun x => (Root.slot x.1, x.2)
def ResL (T : Tb) (w0 w : Wd) (vs : List V) (os : List Py.O) : Prop :=
  vs.length = os.length ∧ ∃ l : Addr → Option (Nat × List Nat), (∀ a x, l a = some x → w.lab a = none ∧ w.G a = none ∧ w.H a ≠ none ∧ (w0.H a = none ∨ w0.lab a ≠ none)) ∧
    ∀ (j : Nat) (v : V) (o : Py.O), vs[j]? = some v → os[j]? = some o → RepO T { w with lab := labJ l } (.slot j) [] v o
theorem ResL.nil {w0 w : Wd} : ResL T w0 w [] [] := ⟨rfl, fun _ => none, fun _ _ e => (nomatch e), fun j v o e => by simp at e⟩
theorem labJ_some {l : Addr → Option (Nat × List Nat)} {a : Addr} {r : Root} {π : List Nat} (h : labJ l a = some (r, π)) : ∃ j, l a = some (j, π) ∧ r = .slot j := by
  unfold labJ at h
  cases e : l a with
  | none => rw [e] at h; cases h
  | some x =>
    obtain ⟨j, π'⟩ := x
    rw [e] at h
    cases h
    exact ⟨j, rfl, rfl⟩
theorem ResL.cons {w0 w1 w2 : Wd} {v : V} {o : Py.O} {vs : List V} {os : List Py.O} (h : Res T w0 w1 v o) (st0 : Stp w0 w1) (st : Stp w1 w2) (t : ResL T w1 w2 vs os) : ResL T w0 w2 (v :: vs) (o :: os) := by
  obtain ⟨l1, a1, r1⟩ := h
  obtain ⟨hl, l2, a2, r2⟩ := t
  let l : Addr → Option (Nat × List Nat) := fun a => match l1 a with
    | some (_, π) => some (0, π)
    | none => (l2 a).map fun (x : Nat × List Nat) => (x.1 + 1, x.2)
  have e1 : ∀ {a r π}, l1 a = some (r, π) → l a = some (0, π) := fun {a r π} e => by
    show (match l1 a with | some (_, π) => some (0, π) | none => (l2 a).map fun (x : Nat × List Nat) => (x.1 + 1, x.2)) = _
    rw [e]
  have e0 : ∀ {a}, l1 a = none → l a = (l2 a).map fun (x : Nat × List Nat) => (x.1 + 1, x.2) := fun {a} e => by
    show (match l1 a with | some (_, π) => some (0, π) | none => (l2 a).map fun (x : Nat × List Nat) => (x.1 + 1, x.2)) = _
    rw [e]
  have k1 : ∀ a x, l1 a = some x → ∃ u, w1.H a = some u ∧ w1.lab a = none ∧ w2.H a = some u ∧ w2.lab a = none ∧ w2.G a = none := fun a x e => by
    obtain ⟨_, b2, b3, b4, _⟩ := a1 a x e
    cases z : w1.H a with
    | none => exact absurd z b4
    | some u =>
      obtain ⟨c1, c2, c3⟩ := st.h a u z b2
      exact ⟨u, rfl, b2, c1, c2, c3.trans b3⟩
  have dis : ∀ a x, l2 a = some x → l1 a = none := fun a x e => by
    cases z : l1 a with
    | none => rfl
    | some y =>
      obtain ⟨u, h1, h2, _⟩ := k1 a y z
      rcases (a2 a x e).2.2.2 with q | q
      · rw [h1] at q; cases q
      · exact absurd h2 q
  refine ⟨by rw [List.length_cons, List.length_cons, hl], l, fun a x e => ?_, fun j v' o' hv ho => ?_⟩
  · cases z : l1 a with
    | some y =>
      obtain ⟨u, h1, h2, h3, h4, h5⟩ := k1 a y z
      exact ⟨h4, h5, (by rw [h3]; exact fun q => nomatch q), (a1 a y z).2.2.2.2⟩
    | none =>
      rw [e0 z] at e
      cases z2 : l2 a with
      | none => rw [z2] at e; cases e
      | some y =>
        obtain ⟨b1, b2, b3, b4⟩ := a2 a y z2
        refine ⟨b1, b2, b3, ?_⟩
        cases zz : w0.H a with
        | none => exact .inl rfl
        | some u =>
          refine .inr fun q => ?_
          obtain ⟨c1, c2, c3⟩ := st0.h a u zz q
          rcases b4 with b4 | b4
          · rw [c1] at b4; cases b4
          · exact b4 c2
  · cases j with
    | zero =>
      simp only [List.getElem?_cons_zero, Option.some.injEq] at hv ho
      subst hv ho
      refine RepO.move (w := { w1 with lab := l1 }) (w' := { w2 with lab := labJ l }) ⟨st.g, st.f, fun a π q => ?_⟩ r1
      obtain ⟨u, h1, h2, h3, h4, h5⟩ := k1 a _ q
      refine ⟨?_, fun o' z => ?_⟩
      · show (l a).map _ = _
        rw [e1 q]
        rfl
      · have z : w1.H a = some o' := z
        rw [h1] at z
        cases z
        exact h3
    | succ j =>
      simp only [List.getElem?_cons_succ] at hv ho
      refine RepO.move (w := { w2 with lab := labJ l2 }) (w' := { w2 with lab := labJ l }) ⟨GLe.refl _, PLe.refl _, fun a π q => ⟨?_, fun _ z => z⟩⟩ (r2 j v' o' hv ho)
      obtain ⟨j', q1, q2⟩ := labJ_some q
      cases q2
      show (l a).map _ = _
      rw [e0 (dis a _ q1), q1]
      rfl
theorem ResL.same {w0 w w' : Wd} {vs : List V} {os : List Py.O} (h : ResL T w0 w vs os) (st : Stp w w') : ResL T w0 w' vs os := by
  obtain ⟨hl, l, a, r⟩ := h
  have k : ∀ p x, l p = some x → ∃ u, w.H p = some u ∧ w'.H p = some u ∧ w'.lab p = none ∧ w'.G p = none := fun p x e => by
    obtain ⟨b1, b2, b3, _⟩ := a p x e
    cases z : w.H p with
    | none => exact absurd z b3
    | some u =>
      obtain ⟨c1, c2, c3⟩ := st.h p u z b1
      exact ⟨u, rfl, c1, c2, c3.trans b2⟩
  refine ⟨hl, l, fun p x e => ?_, fun j v o hv ho => RepO.move (w := { w with lab := labJ l }) (w' := { w' with lab := labJ l }) ⟨st.g, st.f, fun p π q => ⟨q, fun u z => ?_⟩⟩ (r j v o hv ho)⟩
  · obtain ⟨u, h1, h2, h3, h4⟩ := k p x e
    exact ⟨h3, h4, (by rw [h2]; exact fun q => nomatch q), (a p x e).2.2.2⟩
  · obtain ⟨j', q1, _⟩ := labJ_some q
    obtain ⟨u', h1, h2, _⟩ := k p _ q1
    have z : w.H p = some u := z
    rw [h1] at z
    cases z
    exact h2
/-- the first is stored, the others stay -/
theorem ResL.store {w0 w : Wd} {v : V} {o : Py.O} {vs : List V} {os : List Py.O} {σ : L2.St} {s : Py.St} {i : Nat} (h : ResL T w0 w (v :: vs) (o :: os)) (st : Stp w0 w) (rs : RS T w σ s) (hi : i < σ.length) :
    ∃ w', w'.H = w.H ∧ Stp w0 w' ∧ RS T w' (σ.set i (some v)) { s with env := s.env.set i (some o) } ∧ ResL T w0 w' vs os := by
  obtain ⟨hl, l, a, r⟩ := h
  have r0 := r 0 v o rfl rfl
  let lab' : Lab := fun p => match l p with
    | some (0, π) => some (.slot i, π)
    | some (_ + 1, _) => none
    | none => dropL (.slot i) w.lab p
  have l1 : ∀ {p π}, l p = some (0, π) → lab' p = some (.slot i, π) := fun {p π} e => by
    show (match l p with | some (0, π) => some (Root.slot i, π) | some (_ + 1, _) => none | none => dropL (.slot i) w.lab p) = _
    rw [e]
  have l2 : ∀ {p j π}, l p = some (j + 1, π) → lab' p = none := fun {p j π} e => by
    show (match l p with | some (0, π) => some (Root.slot i, π) | some (_ + 1, _) => none | none => dropL (.slot i) w.lab p) = _
    rw [e]
  have l0 : ∀ {p}, l p = none → lab' p = dropL (.slot i) w.lab p := fun {p} e => by
    show (match l p with | some (0, π) => some (Root.slot i, π) | some (_ + 1, _) => none | none => dropL (.slot i) w.lab p) = _
    rw [e]
  have other : ∀ r', r' ≠ .slot i → Moves w { w with lab := lab' } r' r' := fun r' hr => ⟨GLe.refl _, PLe.refl _, fun p π q => ⟨(by
    cases z : l p with
    | none =>
      show lab' p = _
      rw [l0 z, dropL_ne fun π' e => ?_]
      · exact q
      · rw [q] at e
        exact hr (Prod.mk.inj (Option.some.inj e)).1
    | some y =>
      rw [(a p y z).1] at q
      cases q), fun _ z => z⟩⟩
  refine ⟨{ w with lab := lab' }, rfl, ⟨st.g, st.f, fun p u hu hn => ?_, st.t⟩, ⟨⟨rs.gh, fun p x e => ?_⟩, fun j u hu => ?_, fun n u hu => ?_, rs.len, ?_⟩, Nat.succ.inj hl, ?_⟩
  · obtain ⟨b1, b2, b3⟩ := st.h p u hu hn
    refine ⟨b1, ?_, b3⟩
    cases q : l p with
    | none =>
      show lab' p = none
      rw [l0 q]
      exact dropL_none b2
    | some x =>
      rcases (a p x q).2.2.2 with z | z
      · rw [z] at hu
        cases hu
      · exact absurd hn z
  · cases q : l p with
    | none =>
      have e : lab' p = some x := e
      rw [l0 q] at e
      exact rs.lg p x (dropL_some e).1
    | some y => exact ⟨(a p y q).2.1, (a p y q).2.2.1⟩
  · by_cases hj : j = i
    · subst hj
      have hje : j < s.env.length := by rw [rs.el]; exact hi
      rw [List.getElem?_set_self hje] at hu
      cases hu
      refine ⟨v, by rw [List.getElem?_set_self hi], RepO.move (w := { w with lab := labJ l }) (w' := { w with lab := lab' }) ?_ r0⟩
      refine ⟨GLe.refl _, PLe.refl _, fun p π q => ⟨?_, fun _ z => z⟩⟩
      obtain ⟨j', q1, q2⟩ := labJ_some q
      cases q2
      exact l1 q1
    · rw [List.getElem?_set_ne (Ne.symm hj)] at hu
      obtain ⟨v', e1, e2⟩ := rs.env j u hu
      exact ⟨v', by rw [List.getElem?_set_ne (Ne.symm hj)]; exact e1, e2.move (other _ fun z => hj (Root.slot.inj z))⟩
  · obtain ⟨v', e1, e2⟩ := rs.sto n u hu
    exact ⟨v', e1, e2.move (other (.cell n) fun z => nomatch z)⟩
  · show (s.env.set i (some o)).length = (σ.set i (some v)).length
    rw [List.length_set, List.length_set]
    exact rs.el
  · refine ⟨fun p => match l p with | some (j + 1, π) => some (j, π) | _ => none, fun p x e => ?_, fun j v' o' hv ho => ?_⟩
    · replace e : (match l p with | some (j + 1, π) => some (j, π) | _ => none) = some x := e
      cases q : l p with
      | none => rw [q] at e; cases e
      | some y =>
        obtain ⟨j, π⟩ := y
        cases j with
        | zero => rw [q] at e; cases e
        | succ j =>
          obtain ⟨b1, b2, b3, b4⟩ := a p _ q
          exact ⟨l2 q, b2, b3, b4⟩
    · refine RepO.move (w := { w with lab := labJ l }) ?_ (r (j + 1) v' o' (by simpa using hv) (by simpa using ho))
      refine ⟨GLe.refl _, PLe.refl _, fun p π q => ⟨?_, fun _ z => z⟩⟩
      obtain ⟨j', q1, q2⟩ := labJ_some q
      cases q2
      show Option.map _ (match l p with | some (j + 1, π) => some (j, π) | _ => none) = _
      rw [q1]
      rfl
theorem ResL.frz {w0 w : Wd} {vs : List V} {os : List Py.O} {i : Nat} (h : ResL T w0 w vs os) (k : LabOk w) : ResL T w0 (PyS.frz w (.slot i)) vs os := by
  obtain ⟨hl, l, a, r⟩ := h
  refine ⟨hl, l, fun p x e => ?_, fun j v o hv ho => RepO.move (w := { w with lab := labJ l }) (w' := { PyS.frz w (.slot i) with lab := labJ l }) ⟨k.gle _, PLe.refl _, fun p π q => ⟨q, fun _ z => z⟩⟩ (r j v o hv ho)⟩
  obtain ⟨b1, b2, b3, b4⟩ := a p x e
  refine ⟨dropL_none b1, ?_, b3, b4⟩
  show frzG w (.slot i) p = none
  rw [frzG_ne fun π z => by rw [b1] at z; cases z]
  exact b2
def setL : List Nat → List V → L2.St → L2.St
  | i :: is, v :: vs, σ => setL is vs (σ.set i (some v))
  | _, _, σ => σ
section
variable {c : Py.Cx} {X : Cx}
/-- all are stored -/
theorem store_all : ∀ {is : List Nat} {w0 w : Wd} {vs : List V} {os : List Py.O} {σ : L2.St} {s s' : Py.St}, ResL T w0 w vs os → Stp w0 w → RS T w σ s → (∀ i ∈ is, i < σ.length) → Py.stEs c is os s = some s' →
    ∃ w', w'.H = w.H ∧ Stp w0 w' ∧ RS T w' (setL is vs σ) s'
  | [], w0, w, vs, [], σ, s, s', h, st, rs, hi, e => by
    rw [Py.stEs] at e
    cases e
    have : vs = [] := List.eq_nil_of_length_eq_zero h.1
    subst this
    exact ⟨w, rfl, st, rs⟩
  | i :: is, w0, w, vs, o :: os, σ, s, s', h, st, rs, hi, e => by
    rw [Py.stEs] at e
    split at e
    · cases e
    · rename_i hc
      cases vs with
      | nil => exact absurd h.1 (by simp)
      | cons v vs =>
        have hi0 := hi i List.mem_cons_self
        obtain ⟨w1, h1, st1, rs1, t1⟩ := h.store st rs hi0
        have hle : ∀ j ∈ is, j < (σ.set i (some v)).length := fun j hj => by rw [List.length_set]; exact hi j (List.mem_cons_of_mem _ hj)
        unfold Py.stE at e
        rw [if_neg hc] at e
        split at e
        · obtain ⟨w2, h2, st2, rs2⟩ := store_all t1 st1 rs1 hle e
          exact ⟨w2, h2.trans h1, st2, rs2⟩
        · have hie : i < s.env.length := by rw [rs.el]; exact hi0
          obtain ⟨v', f1, f2, f3, f4⟩ := rs1.freezeX (i := i) (o := o) (by
            show (s.env.set i (some o))[i]? = _
            rw [List.getElem?_set_self hie])
          have e2 : (s.env.set i (some o)).set i (some (.d o.toD)) = s.env.set i (some (.d o.toD)) := List.set_set ..
          have f3' : RS T (PyS.frz w1 (.slot i)) (σ.set i (some v)) { s with env := s.env.set i (some (.d o.toD)) } := by
            rw [← e2]
            exact f3
          obtain ⟨w2, h2, st2, rs2⟩ := store_all (t1.frz rs1.toLabOk) (st1.trans f2) f3' hle e
          exact ⟨w2, h2.trans h1, st2, rs2⟩
  | [], _, _, _, _ :: _, _, _, _, _, _, _, _, e => by simp [Py.stEs] at e
  | _ :: _, _, _, _, [], _, _, _, _, _, _, _, e => by simp [Py.stEs] at e
def SimOs (T : Tb) (c : Py.Cx) (X : Cx) (es : List Expr) (Es : List Py.E) : Prop :=
  ∀ (w : Wd) (σ : L2.St) (s : Py.St) (os : List Py.O) (s' : Py.St), RS T w σ s → Py.evOs c Es s = some (os, s') →
    ∀ Q : List V → Hp → Prop, (∀ vs w', Stp w w' → RS T w' σ s' → ResL T w w' vs os → Q vs w'.H) → WA X es σ w.H Q
theorem simo_nil : SimOs T c X [] [] := by
  intro w σ s os s' rs ev Q q
  simp only [Py.evOs, Option.some.injEq, Prod.mk.injEq] at ev
  obtain ⟨rfl, rfl⟩ := ev
  exact WA.of pa_nil (q [] w (Stp.refl _) rs ResL.nil)
theorem simo_cons {e : Expr} {es : List Expr} {E : Py.E} {Es : List Py.E} (n : notStar e = true) (h : SimE T c X e E) (hs : SimOs T c X es Es) : SimOs T c X (e :: es) (E :: Es) := by
  intro w σ s os s' rs ev Q q
  rw [Py.evOs] at ev
  split at ev
  · rename_i o s1 e1
    split at ev
    · rename_i os2 s2 e2
      simp only [Option.some.injEq, Prod.mk.injEq] at ev
      obtain ⟨rfl, rfl⟩ := ev
      refine WA.of (pa_cons pe_self pa_self (starEach_not n es X.env)) ?_
      refine h false w σ s o s1 rs e1 _ fun v w1 st1 rs1 q1 p1 => ?_
      refine hs w1 σ s1 os2 s2 rs1 e2 _ fun vs w2 st2 rs2 r2 => ?_
      exact q (v :: vs) w2 (st1.trans st2) rs2 (ResL.cons p1.res st1 st2 r2)
    · cases ev
  · cases ev
/-! ### name = e -/
theorem simS_set {e : Expr} {E : Py.E} {i : Nat} {x : Str} {p pos : Pos} (hN : X.N.Nodup) (hl : locC X.env.scope X.fn X.N x i = true) (hs : swapsWith e (some (.Name x p)) pos.line X.env = pure false) (h : SimE T c X e E) :
    SimS T c X (.Assign [.Name x p] e pos) (.asg (.nm i) E) := by
  intro w σ s out s' rs ev D d
  obtain ⟨h1, h2, h3⟩ := locC_ok hl
  simp only [Py.ex] at ev
  split at ev
  · rename_i o s1 e1
    simp only [Py.asgT] at ev
    split at ev
    · simp only [Option.map_none] at ev
      cases ev
    · rename_i hc
      simp only [Option.map_some, Option.some.injEq, Prod.mk.injEq] at ev
      obtain ⟨rfl, rfl⟩ := ev
      intro pins sh I
      refine (WS.of (ps_set hN h1 h2 pe_self hs h3) ?_) pins sh I
      refine h false w σ s o s1 rs e1 _ fun v w1 st1 rs1 q1 p1 => ?_
      have hi : i < σ.length := by
        rw [I.len]
        exact (List.getElem?_eq_some_iff.mp h1).1
      obtain ⟨w2, e2, st2, rs2⟩ := store_one (c := c) p1.res st1 rs1 hi (fun hm => by
        cases z : o.isD with
        | false => rfl
        | true => exact absurd ⟨hm, z⟩ hc)
      have := d w2 _ st2 rs2
      rw [← e2]
      exact this
  · cases ev
/-- name = [..] -/
theorem simS_setLc {elt tg iter : Expr} {ifs : List Expr} {scope : Scope} {own : List (Str × Nat)} {t : Py.Tg} {k : Option Py.Itk} {Es Cs : List Py.E} {El : Py.E} {tt : TT} {i : Nat} {y : Str} {py pos spos : Pos} (hi : X.N[i]? = some y) (hyl : X.env.scope.names.lookup y = some .local)
    (hsw : swapsWith (.ListComp elt [⟨tg, iter, ifs, 0⟩] scope pos) (some (.Name y py)) spos.line X.env = pure true) (L : LcOk T c X elt tg iter ifs scope own t k Es Cs El tt) :
    SimS T c X (.Assign [.Name y py] (.ListComp elt [⟨tg, iter, ifs, 0⟩] scope pos) spos) (.asg (.nm i) (.lc t k Es Cs El)) := by
  intro w σ s out s' rs ev D d
  simp only [Py.ex] at ev
  split at ev
  · rename_i o s1 e1
    simp only [Py.asgT] at ev
    split at ev
    · simp only [Option.map_none] at ev
      cases ev
    · rename_i hc
      simp only [Option.map_some, Option.some.injEq, Prod.mk.injEq] at ev
      obtain ⟨rfl, rfl⟩ := ev
      intro pins sh I
      refine (WS.of (ps_setLc (g := gT X.K t) L.calm L.nd hi hyl hsw pi_self L.blk (fun s H C cl fp => pg_tg (X := X.blk s H scope (compEnvC scope cl C X.env) fp) L.calm L.nd (L.tg s H C cl fp)) L.ts.pts peb L.fold) ?_) pins sh I
      refine lc_walk L rs e1 fun v w1 st1 rs1 r1 => ?_
      have hi' : i < σ.length := by
        rw [I.len]
        exact (List.getElem?_eq_some_iff.mp hi).1
      obtain ⟨w2, e2, st2, rs2⟩ := store_one (c := c) r1 st1 rs1 hi' (fun hm => by
        cases z : o.isD with
        | false => rfl
        | true => exact absurd ⟨hm, z⟩ hc)
      have := d w2 _ st2 rs2
      rw [← e2]
      exact this
  · cases ev
/-- a, (b, c) = e -/
theorem simS_tup {e : Expr} {E : Py.E} {l : List Py.Tg} {es : List Expr} {k : Nat} {p pos : Pos} (hc : X.calm = true) (hN : X.N.Nodup) (ht : tgC X.env.scope X.fn X.N (.tup l) (.Tuple es k p) = true)
    (hs : swapsWith e (some (.Tuple es k p)) pos.line X.env = pure false) (hw : swappedStores [.Tuple es k p] e X.env = pure none) (h : SimE T c X e E) : SimS T c X (.Assign [.Tuple es k p] e pos) (.asg (.tup l) E) := by
  intro w σ s out s' rs ev D d
  simp only [Py.ex] at ev
  split at ev
  · rename_i o s1 e1
    simp only [Py.asgT] at ev
    split at ev
    · rename_i x
      cases hb : Py.bindT (.tup l) x s1.env with
      | none => rw [hb] at ev; cases ev
      | some env =>
        rw [hb] at ev
        simp only [Option.map_some, Option.some.injEq, Prod.mk.injEq] at ev
        obtain ⟨rfl, rfl⟩ := ev
        refine WS.of (ps_asg pe_self (pg_tg hc hN ht) hs hw (by rfl)) ?_
        refine h false w σ s _ s1 rs e1 _ fun v w1 st1 rs1 q1 p1 => ?_
        exact bind_tg rs1 p1.rep hb _ fun σ' rs' _ => d w1 σ' st1 rs'
    · cases ev
  · cases ev
end
end PyS
end

section
set_option Elab.async false
set_option linter.all false
set_option maxRecDepth 100000
set_option maxHeartbeats 2000000
/-! Z8: objects changed in place. -/
namespace PyS
open PySem L2
variable {T : Tb}
/-- what lies outside p of root r stays -/
structure MOff (w w' : Wd) (r : Root) (p : List Nat) : Prop where
  g : GLe w.G w'.G
  f : PLe w.φ w'.φ
  l : ∀ a ρ, w.lab a = some (r, ρ) → ¬ p <+: ρ → w'.lab a = some (r, ρ) ∧ ∀ o, w.H a = some o → w'.H a = some o
def Apart (p π : List Nat) : Prop := ∀ ρ, ¬ p <+: π ++ ρ
theorem Apart.ext {p π : List Nat} (h : Apart p π) (j : Nat) : Apart p (π ++ [j]) := fun ρ q => h ([j] ++ ρ) (by rw [← List.append_assoc]; exact q)
theorem Apart.here {p π : List Nat} (h : Apart p π) : ¬ p <+: π := by
  have := h []
  rw [List.append_nil] at this
  exact this
theorem Apart.sib {π π1 : List Nat} {j j' : Nat} (h : j ≠ j') : Apart (π ++ [j] ++ π1) (π ++ [j']) := by
  intro ρ q
  obtain ⟨t, e⟩ := q
  rw [List.append_assoc, List.append_assoc, List.append_assoc] at e
  have e := List.append_cancel_left e
  simp only [List.singleton_append, List.cons.injEq] at e
  exact h e.1
mutual
theorem RepO.off {w w' : Wd} {r : Root} {p : List Nat} (k : MOff w w' r p) : ∀ {π : List Nat} {v : V} {o : Py.O}, Apart p π → RepO T w r π v o → RepO T w' r π v o
  | _, _, _, _, .d h => .d (h.mono k.g k.f)
  | _, _, _, q, .lst a b c => .lst (k.l _ _ a q.here).1 ((k.l _ _ a q.here).2 _ b) (c.off k q)
  | _, _, _, q, .dic a b c => .dic (k.l _ _ a q.here).1 ((k.l _ _ a q.here).2 _ b) (c.off k q)
  | _, _, _, q, .ins a t b c => .ins (k.l _ _ a q.here).1 t ((k.l _ _ a q.here).2 _ b) (c.off k q)
theorem RepOs.off {w w' : Wd} {r : Root} {p : List Nat} (k : MOff w w' r p) : ∀ {π : List Nat} {j : Nat} {v : List V} {o : List Py.O}, Apart p π → RepOs T w r π j v o → RepOs T w' r π j v o
  | _, _, _, _, _, .nil => .nil
  | _, _, _, _, q, .cons a b => .cons (a.off k (q.ext _)) (b.off k q)
theorem RepOk.off {w w' : Wd} {r : Root} {p : List Nat} (k : MOff w w' r p) : ∀ {π : List Nat} {j : Nat} {v : List (Key × V)} {o : List (Py.D × Py.O)}, Apart p π → RepOk T w r π j v o → RepOk T w' r π j v o
  | _, _, _, _, _, .nil => .nil
  | _, _, _, _, q, .cons a b => .cons (a.off k (q.ext _)) (b.off k q)
theorem RepOf.off {w w' : Wd} {r : Root} {p : List Nat} (k : MOff w w' r p) : ∀ {π : List Nat} {j : Nat} {v : List (Str × V)} {o : List (Nat × Py.O)}, Apart p π → RepOf T w r π j v o → RepOf T w' r π j v o
  | _, _, _, _, _, .nil => .nil
  | _, _, _, _, q, .cons a b => .cons (a.off k (q.ext _)) (b.off k q)
end
/-- the items of the object at p, when that object alone is written -/
theorem Apart.kid {π : List Nat} {j : Nat} {ρ : List Nat} (h : π ++ [j] ++ ρ = π) : False := by
  have := congrArg List.length h
  simp only [List.length_append, List.length_singleton] at this
  omega
structure MKid (w w' : Wd) (r : Root) (p : List Nat) : Prop where
  g : GLe w.G w'.G
  f : PLe w.φ w'.φ
  l : ∀ a ρ, w.lab a = some (r, ρ) → ρ ≠ p → w'.lab a = some (r, ρ) ∧ ∀ o, w.H a = some o → w'.H a = some o
def Below (p π : List Nat) : Prop := ∀ ρ, π ++ ρ ≠ p
theorem Below.ext {p π : List Nat} (h : Below p π) (j : Nat) : Below p (π ++ [j]) := fun ρ q => h ([j] ++ ρ) (by rw [← List.append_assoc]; exact q)
theorem Below.here {p π : List Nat} (h : Below p π) : π ≠ p := by
  have := h []
  rw [List.append_nil] at this
  exact this
theorem Below.kid {π : List Nat} {j : Nat} : Below π (π ++ [j]) := fun ρ q => Apart.kid q
mutual
theorem RepO.kid {w w' : Wd} {r : Root} {p : List Nat} (k : MKid w w' r p) : ∀ {π : List Nat} {v : V} {o : Py.O}, Below p π → RepO T w r π v o → RepO T w' r π v o
  | _, _, _, _, .d h => .d (h.mono k.g k.f)
  | _, _, _, q, .lst a b c => .lst (k.l _ _ a q.here).1 ((k.l _ _ a q.here).2 _ b) (RepOs.kidd k q c)
  | _, _, _, q, .dic a b c => .dic (k.l _ _ a q.here).1 ((k.l _ _ a q.here).2 _ b) (RepOk.kidd k q c)
  | _, _, _, q, .ins a t b c => .ins (k.l _ _ a q.here).1 t ((k.l _ _ a q.here).2 _ b) (RepOf.kidd k q c)
theorem RepOs.kidd {w w' : Wd} {r : Root} {p : List Nat} (k : MKid w w' r p) : ∀ {π : List Nat} {j : Nat} {v : List V} {o : List Py.O}, Below p π → RepOs T w r π j v o → RepOs T w' r π j v o
  | _, _, _, _, _, .nil => .nil
  | _, _, _, _, q, .cons a b => .cons (a.kid k (q.ext _)) (RepOs.kidd k q b)
theorem RepOk.kidd {w w' : Wd} {r : Root} {p : List Nat} (k : MKid w w' r p) : ∀ {π : List Nat} {j : Nat} {v : List (Key × V)} {o : List (Py.D × Py.O)}, Below p π → RepOk T w r π j v o → RepOk T w' r π j v o
  | _, _, _, _, _, .nil => .nil
  | _, _, _, _, q, .cons a b => .cons (a.kid k (q.ext _)) (RepOk.kidd k q b)
theorem RepOf.kidd {w w' : Wd} {r : Root} {p : List Nat} (k : MKid w w' r p) : ∀ {π : List Nat} {j : Nat} {v : List (Str × V)} {o : List (Nat × Py.O)}, Below p π → RepOf T w r π j v o → RepOf T w' r π j v o
  | _, _, _, _, _, .nil => .nil
  | _, _, _, _, q, .cons a b => .cons (a.kid k (q.ext _)) (RepOf.kidd k q b)
end
theorem RepOs.kid {w w' : Wd} {r : Root} {π : List Nat} (k : MKid w w' r π) : ∀ {j : Nat} {v : List V} {o : List Py.O}, RepOs T w r π j v o → RepOs T w' r π j v o
  | _, _, _, .nil => .nil
  | _, _, _, .cons a b => .cons (a.kid k Below.kid) (RepOs.kid k b)
theorem RepOk.kid {w w' : Wd} {r : Root} {π : List Nat} (k : MKid w w' r π) : ∀ {j : Nat} {v : List (Key × V)} {o : List (Py.D × Py.O)}, RepOk T w r π j v o → RepOk T w' r π j v o
  | _, _, _, .nil => .nil
  | _, _, _, .cons a b => .cons (a.kid k Below.kid) (RepOk.kid k b)
theorem RepOf.kid {w w' : Wd} {r : Root} {π : List Nat} (k : MKid w w' r π) : ∀ {j : Nat} {v : List (Str × V)} {o : List (Nat × Py.O)}, RepOf T w r π j v o → RepOf T w' r π j v o
  | _, _, _, .nil => .nil
  | _, _, _, .cons a b => .cons (a.kid k Below.kid) (RepOf.kid k b)
/-! ### the place of an item -/
theorem RepOs.lens {w : Wd} {r : Root} {π : List Nat} : ∀ {os : List Py.O} {j n : Nat} {vs : List V} {o : Py.O}, RepOs T w r π j vs os → os[n]? = some o → ∃ u, vs[n]? = some u ∧ RepO T w r (π ++ [j + n]) u o ∧
    ∀ (w' : Wd) (o' : Py.O) (π1 : List Nat), MOff w w' r (π ++ [j + n] ++ π1) → RepO T w' r (π ++ [j + n]) u o' → RepOs T w' r π j vs (os.set n o')
  | [], _, _, _, _, .nil, h => by simp at h
  | _ :: _, j, 0, _, _, .cons a b, h => by
    simp at h
    subst h
    refine ⟨_, rfl, a, fun w' o' π1 k r' => ?_⟩
    rw [List.set_cons_zero]
    refine .cons r' ?_
    exact sib k b (Nat.lt_succ_self _)
  | _ :: _, j, n + 1, _, _, .cons a b, h => by
    obtain ⟨u, h1, h2, h3⟩ := b.lens (n := n) (by simpa using h)
    have e : j + 1 + n = j + (n + 1) := by omega
    rw [e] at h2 h3
    refine ⟨u, by simpa using h1, h2, fun w' o' π1 k r' => ?_⟩
    rw [List.set_cons_succ]
    exact .cons (a.off k (Apart.sib (by omega))) (h3 w' o' π1 k r')
where sib {w w' : Wd} {r : Root} {π π1 : List Nat} {n : Nat} (k : MOff w w' r (π ++ [n] ++ π1)) : ∀ {os : List Py.O} {j : Nat} {vs : List V}, RepOs T w r π j vs os → n < j → RepOs T w' r π j vs os
  | [], _, _, .nil, _ => .nil
  | _ :: _, _, _, .cons a b, h => .cons (a.off k (Apart.sib (by omega))) (sib k b (by omega))
theorem RepOk.lens {w : Wd} {r : Root} {π : List Nat} (key : Key) : ∀ {os : List (Py.D × Py.O)} {j : Nat} {vs : List (Key × V)} {k0 : Py.D} {o : Py.O}, RepOk T w r π j vs os → (os.find? fun p => Py.D.eqv p.1 (kD key)) = some (k0, o) → ∃ u n, valV vs key = some u ∧ RepO T w r (π ++ [j + n]) u o ∧
    ∀ (w' : Wd) (o' : Py.O) (π1 : List Nat), MOff w w' r (π ++ [j + n] ++ π1) → RepO T w' r (π ++ [j + n]) u o' → RepOk T w' r π j vs (Py.replK (kD key) o' os)
  | _, _, _, _, _, .nil, h => by cases h
  | _, j, _, k0, o, @RepOk.cons _ _ _ _ _ k' v' vs o'' os a b, h => by
    rw [List.find?_cons, kD_eqv] at h
    by_cases e : k' = key
    · rw [decide_eq_true e] at h
      cases h
      refine ⟨v', 0, valV_pos (p := (k', v')) e, a, fun w' o' π1 k r' => ?_⟩
      rw [Py.replK, kD_eqv, decide_eq_true e, if_pos rfl]
      exact .cons r' (sib k b (Nat.lt_succ_self _))
    · rw [decide_eq_false e] at h
      obtain ⟨u, n, h1, h2, h3⟩ := b.lens key h
      have e2 : j + 1 + n = j + (n + 1) := by omega
      rw [e2] at h2 h3
      refine ⟨u, n + 1, (valV_neg (p := (k', v')) e).trans h1, h2, fun w' o' π1 k r' => ?_⟩
      rw [Py.replK, kD_eqv, decide_eq_false e, if_neg Bool.false_ne_true]
      exact .cons (a.off k (Apart.sib (by omega))) (h3 w' o' π1 k r')
where sib {w w' : Wd} {r : Root} {π π1 : List Nat} {n : Nat} (k : MOff w w' r (π ++ [n] ++ π1)) : ∀ {os : List (Py.D × Py.O)} {j : Nat} {vs : List (Key × V)}, RepOk T w r π j vs os → n < j → RepOk T w' r π j vs os
  | [], _, _, .nil, _ => .nil
  | _ :: _, _, _, .cons a b, h => .cons (a.off k (Apart.sib (by omega))) (sib k b (by omega))
/-- reading by one key -/
def Reads (H : Hp) (v : V) (k : V) (u : V) : Prop :=
  (∃ p xs i, v = .ref p ∧ k = .int i ∧ H p = some (.lst xs) ∧ L2.atI xs i = some u) ∨ ∃ p kvs key, v = .ref p ∧ k = kV key ∧ H p = some (.dK kvs) ∧ valV kvs key = some u
theorem Reads.mono {H H' : Hp} {v k u : V} (h : Reads H v k u) (g : GLe H H') : Reads H' v k u := by
  rcases h with ⟨p, xs, i, a, b, d, e⟩ | ⟨p, xs, i, a, b, d, e⟩
  · exact .inl ⟨p, xs, i, a, b, g _ _ d, e⟩
  · exact .inr ⟨p, xs, i, a, b, g _ _ d, e⟩
end PyS
end

section
set_option Elab.async false
set_option linter.all false
set_option maxRecDepth 100000
set_option maxHeartbeats 2000000
/-! Z9: changes at a place. -/
namespace PyS
open PySem L2
variable {T : Tb}
theorem not_pre {π : List Nat} {j : Nat} {π1 : List Nat} : ¬ π ++ [j] ++ π1 <+: π := fun h => by
  have := h.length_le
  simp only [List.length_append, List.length_singleton] at this
  omega
theorem modAt_ok {α : Type} {f : Py.O → Option (Py.O × α)} {w : Wd} (ok : LabOk w) {r : Root} {π : List Nat} {v : V} {o : Py.O} {k : Py.D} {o' : Py.O} {x : α} (h : RepO T w r π v o) (e : Py.modAt k f o = some (o', x)) :
    ∃ j u sub sub', RepO T w r (π ++ [j]) u sub ∧ f sub = some (sub', x) ∧ (∀ kv, Rep T w.G w.φ kv k → Reads w.H v kv u) ∧
      ∀ (w' : Wd) (π1 : List Nat), MOff w w' r (π ++ [j] ++ π1) → RepO T w' r (π ++ [j]) u sub' → RepO T w' r π v o' := by
  cases h with
  | d h => cases e
  | @lst _ a xs os hl hH hs =>
    simp only [Py.modAt] at e
    split at e
    · rename_i i
      split at e
      · rename_i j hj
        split at e
        · rename_i o0 ho
          cases hf : f o0 with
          | none => rw [hf] at e; cases e
          | some p =>
            rw [hf] at e
            simp only [Option.map_some, Option.some.injEq, Prod.mk.injEq] at e
            obtain ⟨rfl, rfl⟩ := e
            obtain ⟨u, h1, h2, h3⟩ := hs.lens ho
            rw [Nat.zero_add] at h2 h3
            refine ⟨j, u, o0, p.1, h2, hf, fun kv rk => ?_, fun w' π1 m r' => ?_⟩
            · cases rk
              refine .inl ⟨a, xs, i, rfl, rfl, hH, ?_⟩
              unfold L2.atI
              rw [show L2.ixN xs.length i = some j by rw [hs.length]; exact hj]
              exact h1
            · exact .lst (m.l _ _ hl not_pre).1 ((m.l _ _ hl not_pre).2 _ hH) (h3 w' p.1 π1 m r')
        · cases e
      · cases e
    · cases e
  | @dic _ a kvs os hl hH hs =>
    simp only [Py.modAt] at e
    split at e
    · rename_i hk
      split at e
      · rename_i k0 o0 ho
        cases hf : f o0 with
        | none => rw [hf] at e; cases e
        | some p =>
          rw [hf] at e
          simp only [Option.map_some, Option.some.injEq, Prod.mk.injEq] at e
          obtain ⟨rfl, rfl⟩ := e
          have hkd : ∃ key, k = kD key := by
            cases k with
            | int i => exact ⟨.inl i, rfl⟩
            | str z => exact ⟨.inr ⟨z.toArray⟩, rfl⟩
            | _ => cases hk
          obtain ⟨key, rfl⟩ := hkd
          obtain ⟨u, n, h1, h2, h3⟩ := hs.lens key ho
          rw [Nat.zero_add] at h2 h3
          refine ⟨n, u, o0, p.1, h2, hf, fun kv rk => ?_, fun w' π1 m r' => ?_⟩
          · obtain ⟨key', e1, e2⟩ := rk.key (by cases key <;> rfl)
            have : key' = key := by
              have := congrArg keyD e1
              rw [keyD_k, keyD_k] at this
              exact (Option.some.inj this).symm
            subst this
            exact .inr ⟨a, kvs, key', rfl, e2, hH, h1⟩
          · exact .dic (m.l _ _ hl not_pre).1 ((m.l _ _ hl not_pre).2 _ hH) (h3 w' p.1 π1 m r')
      · cases e
    · cases e
  | ins _ _ _ _ => cases e
/-- reading along keys -/
def ReadsL (T : Tb) (w : Wd) : V → List Py.D → V → Prop
  | v, [], u => u = v
  | v, k :: ks, u => ∃ z, (∀ kv, Rep T w.G w.φ kv k → Reads w.H v kv z) ∧ ReadsL T w z ks u
theorem modPath_ok {α : Type} {f : Py.O → Option (Py.O × α)} {w : Wd} (ok : LabOk w) {r : Root} : ∀ {ks : List Py.D} {π : List Nat} {v : V} {o : Py.O} {o' : Py.O} {x : α}, RepO T w r π v o → Py.modPath f ks o = some (o', x) →
    ∃ π1 u sub sub', RepO T w r (π ++ π1) u sub ∧ f sub = some (sub', x) ∧ ReadsL T w v ks u ∧ ∀ w' : Wd, MOff w w' r (π ++ π1) → RepO T w' r (π ++ π1) u sub' → RepO T w' r π v o'
  | [], π, v, o, o', x, h, e => by
    rw [Py.modPath] at e
    refine ⟨[], v, o, o', by rw [List.append_nil]; exact h, e, rfl, fun w' _ r' => ?_⟩
    rw [List.append_nil] at r'
    exact r'
  | k :: ks, π, v, o, o', x, h, e => by
    rw [Py.modPath] at e
    obtain ⟨j, z, s1, s1', h1, h2, h3, h4⟩ := modAt_ok ok h e
    obtain ⟨π1, u, sub, sub', g1, g2, g3, g4⟩ := modPath_ok ok h1 h2
    rw [List.append_assoc] at g1 g4
    refine ⟨[j] ++ π1, u, sub, sub', g1, g2, ⟨z, h3, g3⟩, fun w' m r' => h4 w' π1 (by rw [List.append_assoc]; exact m) (g4 w' m r')⟩
/-- a change at a place, of the state -/
theorem mod_ok {α : Type} {f : Py.O → Option (Py.O × α)} {w : Wd} {σ : L2.St} {s : Py.St} {i : Nat} {ks : List Py.D} {x : α} {s' : Py.St} (rs : RS T w σ s) (e : Py.modR i ks f s = some (x, s')) :
    ∃ v u r π sub sub', σ[i]? = some (some v) ∧ ReadsL T w v ks u ∧ RepO T w r π u sub ∧ f sub = some (sub', x) ∧
      ∀ (a : Addr) (ob : HO), u = .ref a → w.lab a = some (r, π) → RepO T { w with H := upd w.H a ob } r π u sub' → Stp w { w with H := upd w.H a ob } ∧ RS T { w with H := upd w.H a ob } σ s' := by
  -- the world written at a labelled place
  have st : ∀ (a : Addr) (ob : HO) (r : Root) (π : List Nat), w.lab a = some (r, π) → Stp w { w with H := upd w.H a ob } := fun a ob r π hl => ⟨GLe.refl _, PLe.refl _, fun b u h l => by
    have : b ≠ a := fun z => by rw [z, hl] at l; cases l
    exact ⟨(upd_ne this).trans h, l, rfl⟩, fun b h => by
    show upd w.H a ob b ≠ none
    by_cases z : b = a
    · rw [z, upd_same]; exact fun q => nomatch q
    · rw [upd_ne z]; exact h⟩
  have lo : ∀ (a : Addr) (ob : HO) (r : Root) (π : List Nat), w.lab a = some (r, π) → LabOk { w with H := upd w.H a ob } := fun a ob r π hl => ⟨fun b u h => by
    show upd w.H a ob b = some u
    rw [upd_ne (fun z => by rw [z, (rs.lg a _ hl).1] at h; cases h)]
    exact rs.gh b u h, fun b r' h => ⟨(rs.lg b r' h).1, (st a ob r π hl).t b (rs.lg b r' h).2⟩⟩
  have mv : ∀ (a : Addr) (ob : HO) (r : Root) (π : List Nat), w.lab a = some (r, π) → ∀ r', r' ≠ r → Moves w { w with H := upd w.H a ob } r' r' := fun a ob r π hl r' hr => ⟨GLe.refl _, PLe.refl _, fun b ρ q => ⟨q, fun u hu => by
    show upd w.H a ob b = some u
    rw [upd_ne (fun z => by rw [z, hl] at q; cases q; exact hr rfl)]
    exact hu⟩⟩
  have mo : ∀ (a : Addr) (ob : HO) (r : Root) (π : List Nat), w.lab a = some (r, π) → MOff w { w with H := upd w.H a ob } r π := fun a ob r π hl => ⟨GLe.refl _, PLe.refl _, fun b ρ q n => ⟨q, fun u hu => by
    show upd w.H a ob b = some u
    rw [upd_ne (fun z => by rw [z, hl] at q; cases q; exact n (List.prefix_refl _))]
    exact hu⟩⟩
  unfold Py.modR at e
  split at e
  · rename_i n he
    split at e
    · rename_i o ho
      cases hp : Py.modPath f ks o with
      | none => rw [hp] at e; cases e
      | some p =>
        obtain ⟨o', x'⟩ := p
        rw [hp] at e
        simp only [Option.map_some, Option.some.injEq, Prod.mk.injEq] at e
        obtain ⟨rfl, rfl⟩ := e
        obtain ⟨v, e1, e2⟩ := rs.env i _ he
        obtain ⟨b, f1, f2⟩ := rs.sto n o ho
        cases e2 with
        | d e2 =>
          cases e2 with
          | cell g =>
            rw [f1] at g
            cases g
            obtain ⟨π1, u, sub, sub', g1, g2, g3, g4⟩ := modPath_ok rs.toLabOk f2 hp
            rw [List.nil_append] at g1 g4
            refine ⟨_, u, .cell n, π1, sub, sub', e1, g3, g1, g2, fun a ob hu hl hr => ⟨st a ob _ _ hl, ⟨lo a ob _ _ hl, fun j y hj => ?_, fun m y hm => ?_, by show w.φ.length = (s.sto.set n o').length; rw [List.length_set]; exact rs.len, rs.el⟩⟩⟩
            · obtain ⟨v', h1, h2⟩ := rs.env j y hj
              exact ⟨v', h1, h2.move (mv a ob _ _ hl (.slot j) fun z => nomatch z)⟩
            · by_cases hmn : m = n
              · subst hmn
                have hlt : m < s.sto.length := (List.getElem?_eq_some_iff.mp ho).1
                rw [show (s.sto.set m o')[m]? = some o' from List.getElem?_set_self hlt] at hm
                cases hm
                exact ⟨_, f1, g4 _ (mo a ob _ _ hl) hr⟩
              · rw [show (s.sto.set n o')[m]? = s.sto[m]? from List.getElem?_set_ne (Ne.symm hmn)] at hm
                obtain ⟨v', h1, h2⟩ := rs.sto m y hm
                exact ⟨v', h1, h2.move (mv a ob _ _ hl (.cell m) fun z => hmn (Root.cell.inj z))⟩
    · cases e
  · rename_i o hnc he
    cases hp : Py.modPath f ks o with
    | none => rw [hp] at e; cases e
    | some p =>
      obtain ⟨o', x'⟩ := p
      rw [hp] at e
      simp only [Option.map_some, Option.some.injEq, Prod.mk.injEq] at e
      obtain ⟨rfl, rfl⟩ := e
      obtain ⟨v, e1, e2⟩ := rs.env i _ he
      obtain ⟨π1, u, sub, sub', g1, g2, g3, g4⟩ := modPath_ok rs.toLabOk e2 hp
      rw [List.nil_append] at g1 g4
      refine ⟨v, u, .slot i, π1, sub, sub', e1, g3, g1, g2, fun a ob hu hl hr => ⟨st a ob _ _ hl, ⟨lo a ob _ _ hl, fun j y hj => ?_, fun m y hm => ?_, rs.len, by show (s.env.set i _).length = σ.length; rw [List.length_set]; exact rs.el⟩⟩⟩
      · by_cases hji : j = i
        · subst hji
          have hlt : j < s.env.length := (List.getElem?_eq_some_iff.mp he).1
          rw [show (s.env.set j (some o'))[j]? = some (some o') from List.getElem?_set_self hlt] at hj
          cases hj
          exact ⟨v, e1, g4 _ (mo a ob _ _ hl) hr⟩
        · rw [show (s.env.set i (some o'))[j]? = s.env[j]? from List.getElem?_set_ne (Ne.symm hji)] at hj
          obtain ⟨v', h1, h2⟩ := rs.env j y hj
          exact ⟨v', h1, h2.move (mv a ob _ _ hl (.slot j) fun z => hji (Root.slot.inj z))⟩
      · obtain ⟨v', h1, h2⟩ := rs.sto m y hm
        exact ⟨v', h1, h2.move (mv a ob _ _ hl (.cell m) fun z => nomatch z)⟩
  · cases e
/-! ### the changes -/
theorem RepOs.append {w : Wd} {r : Root} {π : List Nat} {v : V} {d : Py.D} (h : Rep T w.G w.φ v d) : ∀ {j : Nat} {vs : List V} {os : List Py.O}, RepOs T w r π j vs os → RepOs T w r π j (vs ++ [v]) (os ++ [.d d])
  | _, _, _, .nil => .cons (.d h) .nil
  | _, _, _, .cons a b => .cons a (b.append h)
theorem RepOs.setD {w : Wd} {r : Root} {π : List Nat} {v : V} {d : Py.D} (h : Rep T w.G w.φ v d) : ∀ {n j : Nat} {vs : List V} {os : List Py.O}, RepOs T w r π j vs os → RepOs T w r π j (vs.set n v) (os.set n (.d d))
  | _, _, _, _, .nil => .nil
  | 0, _, _, _, .cons a b => .cons (.d h) b
  | n + 1, _, _, _, .cons a b => .cons a (b.setD h (n := n))
theorem RepOs.dropLast {w : Wd} {r : Root} {π : List Nat} : ∀ {j : Nat} {vs : List V} {os : List Py.O}, RepOs T w r π j vs os → RepOs T w r π j vs.dropLast os.dropLast
  | _, _, _, .nil => .nil
  | _, _, _, .cons a .nil => .nil
  | _, _, _, .cons a (.cons b c) => .cons a (RepOs.dropLast (.cons b c))
theorem Reps.erase : ∀ {G : Hp} {φ : List Addr} {vs : List V} {ds : List Py.D} (n : Nat), Reps T G φ vs ds → Reps T G φ (vs.eraseIdx n) (ds.eraseIdx n)
  | _, _, _, _, _, .nil => .nil
  | _, _, _, _, 0, .cons a b => b
  | _, _, _, _, n + 1, .cons a b => .cons a (b.erase n)
theorem pures_map : ∀ {os : List Py.O} {ds : List Py.D}, Py.O.pures os = some ds → os = ds.map .d
  | [], ds, h => by cases h; rfl
  | .d x :: os, ds, h => by
    rw [Py.O.pures] at h
    cases e : Py.O.pures os with
    | none => rw [e] at h; cases h
    | some z =>
      rw [e] at h
      cases h
      rw [pures_map e]
      rfl
  | .lst _ :: _, _, h => by cases h
  | .dic _ :: _, _, h => by cases h
  | .ins _ _ :: _, _, h => by cases h
theorem map_erase {α β : Type} (f : α → β) : ∀ (l : List α) (n : Nat), (l.map f).eraseIdx n = (l.eraseIdx n).map f
  | [], _ => rfl
  | _ :: _, 0 => rfl
  | x :: l, n + 1 => by
    rw [List.map_cons, List.eraseIdx_cons_succ, List.eraseIdx_cons_succ, List.map_cons, map_erase f l n]
theorem RepOk.any {w : Wd} {r : Root} {π : List Nat} (k : Key) : ∀ {j : Nat} {vs : List (Key × V)} {os : List (Py.D × Py.O)}, RepOk T w r π j vs os → (os.any fun p => Py.D.eqv p.1 (kD k)) = (vs.any fun kv => decide (kv.1 = k))
  | _, _, _, .nil => rfl
  | _, _, _, .cons a b => by
    rw [List.any_cons, List.any_cons, b.any k, kD_eqv]
theorem RepOk.put {w : Wd} {r : Root} {π : List Nat} {v : V} {d : Py.D} (k : Key) (h : Rep T w.G w.φ v d) {vs : List (Key × V)} {os : List (Py.D × Py.O)} {j : Nat} (b : RepOk T w r π j vs os) : RepOk T w r π j (putK vs k v) (Py.putKs (kD k) (.d d) os) := by
  unfold putK Py.putKs
  rw [b.any k]
  split
  · rename_i hh
    clear hh
    exact go b
  · exact app b
where
  go : ∀ {j : Nat} {vs : List (Key × V)} {os : List (Py.D × Py.O)}, RepOk T w r π j vs os → RepOk T w r π j (vs.map fun kv => if kv.1 = k then (kv.1, v) else kv) (os.map fun p => if Py.D.eqv p.1 (kD k) = true then (p.1, .d d) else p)
    | _, _, _, .nil => .nil
    | _, _, _, @RepOk.cons _ _ _ _ _ k' v' _ _ _ a b => by
      rw [List.map_cons, List.map_cons, kD_eqv]
      by_cases e : k' = k
      · rw [if_pos (by simpa using e), if_pos (by simpa using e)]
        exact .cons (.d h) (go b)
      · rw [if_neg (by simpa using e), if_neg (by simpa using e)]
        exact .cons a (go b)
  app : ∀ {j : Nat} {vs : List (Key × V)} {os : List (Py.D × Py.O)}, RepOk T w r π j vs os → RepOk T w r π j (vs ++ [(k, v)]) (os ++ [(kD k, .d d)])
    | _, _, _, .nil => .cons (.d h) .nil
    | _, _, _, .cons a b => .cons a (app b)
theorem RepOk.length {w : Wd} {r : Root} {π : List Nat} : ∀ {j : Nat} {vs : List (Key × V)} {os : List (Py.D × Py.O)}, RepOk T w r π j vs os → vs.length = os.length
  | _, _, _, .nil => rfl
  | _, _, _, .cons _ b => by rw [List.length_cons, List.length_cons, b.length]
theorem mkid {w : Wd} {a : Addr} {r : Root} {π : List Nat} (hl : w.lab a = some (r, π)) (ob : HO) : MKid w { w with H := upd w.H a ob } r π := ⟨GLe.refl _, PLe.refl _, fun b ρ q n => ⟨q, fun u hu => by
    show upd w.H a ob b = some u
    rw [upd_ne (fun z => by rw [z, hl] at q; cases q; exact n rfl)]
    exact hu⟩⟩
/-- an object at a place, with what an append does there -/
theorem app_at {w : Wd} {r : Root} {π : List Nat} {u : V} {sub sub' : Py.O} {d : Py.D} {y : V} (h : RepO T w r π u sub) (ry : Rep T w.G w.φ y d) (e : Py.appAt (.d d) sub = some (sub', ())) :
    ∃ a xs, u = .ref a ∧ w.lab a = some (r, π) ∧ w.H a = some (.lst xs) ∧ xs.length < sizeLine ∧ RepO T { w with H := upd w.H a (.lst (xs ++ [y])) } r π u sub' := by
  cases h with
  | d _ => cases e
  | @lst _ a xs os hl hH hs =>
    simp only [Py.appAt] at e
    split at e
    · rename_i hz
      simp only [Option.some.injEq, Prod.mk.injEq, and_true] at e
      subst e
      refine ⟨a, xs, rfl, hl, hH, ?_, .lst hl upd_same ((RepOs.kid (mkid hl _) hs).append (w := { w with H := upd w.H a (.lst (xs ++ [y])) }) ry)⟩
      have := lenOk_le hz
      rw [hs.length]
      omega
    · cases e
  | dic _ _ _ => cases e
  | ins _ _ _ _ => cases e
theorem set_at {w : Wd} {r : Root} {π : List Nat} {u : V} {sub sub' : Py.O} {k d : Py.D} {kv y : V} (h : RepO T w r π u sub) (rk : Rep T w.G w.φ kv k) (ry : Rep T w.G w.φ y d) (e : Py.setAt k (.d d) sub = some (sub', ())) :
    ∃ a ob, u = .ref a ∧ w.lab a = some (r, π) ∧ RepO T { w with H := upd w.H a ob } r π u sub' ∧
      ((∃ xs i j, kv = .int i ∧ w.H a = some (.lst xs) ∧ L2.ixN xs.length i = some j ∧ ob = .lst (xs.set j y)) ∨ ∃ kvs key, kv = kV key ∧ w.H a = some (.dK kvs) ∧ kvs.length < sizeLine ∧ ob = .dK (putK kvs key y)) := by
  cases h with
  | d _ => cases e
  | @lst _ a xs os hl hH hs =>
    simp only [Py.setAt] at e
    split at e
    · rename_i i
      split at e
      · rename_i j hj
        simp only [Option.some.injEq, Prod.mk.injEq, and_true] at e
        subst e
        cases rk
        refine ⟨a, .lst (xs.set j y), rfl, hl, .lst hl upd_same ((RepOs.kid (mkid hl _) hs).setD (w := { w with H := upd w.H a (.lst (xs.set j y)) }) ry), .inl ⟨xs, i, j, rfl, hH, ?_, rfl⟩⟩
        rw [hs.length]
        exact hj
      · cases e
    · cases e
  | @dic _ a kvs os hl hH hs =>
    simp only [Py.setAt] at e
    split at e
    · rename_i hk
      rw [Bool.and_eq_true] at hk
      simp only [Option.some.injEq, Prod.mk.injEq, and_true] at e
      subst e
      obtain ⟨key, rfl, rfl⟩ := rk.key hk.1
      refine ⟨a, .dK (putK kvs key y), rfl, hl, .dic hl upd_same ((RepOk.kid (mkid hl _) hs).put (w := { w with H := upd w.H a (.dK (putK kvs key y)) }) key ry), .inr ⟨kvs, key, rfl, hH, ?_, rfl⟩⟩
      have := lenOk_le hk.2
      rw [hs.length]
      omega
    · cases e
  | ins _ _ _ _ => cases e
theorem pop_at {w : Wd} {r : Root} {π : List Nat} {u : V} {sub sub' : Py.O} {ds : List Py.D} {us : List V} {x : Py.O} (h : RepO T w r π u sub) (rd : Reps T w.G w.φ us ds) (e : Py.popAt ds sub = some (sub', x)) :
    ∃ a xs j y d, u = .ref a ∧ w.lab a = some (r, π) ∧ w.H a = some (.lst xs) ∧ x = .d d ∧ Rep T w.G w.φ y d ∧ ((us = [] ∧ xs[xs.length - 1]? = some y ∧ RepO T { w with H := upd w.H a (.lst xs.dropLast) } r π u sub') ∨
      ∃ i, us = [.int i] ∧ (-(2 : Int) ^ 62 ≤ i ∧ i < 2 ^ 62) ∧ L2.ixN xs.length i = some j ∧ xs[j]? = some y ∧ RepO T { w with H := upd w.H a (.lst (xs.eraseIdx j)) } r π u sub') := by
  cases h with
  | d _ => cases e
  | @lst _ a xs os hl hH hs =>
    simp only [Py.popAt] at e
    split at e
    · split at e
      · rename_i d he
        simp only [Option.some.injEq, Prod.mk.injEq] at e
        obtain ⟨rfl, rfl⟩ := e
        cases rd
        obtain ⟨y, h1, h2, _⟩ := hs.lens he
        cases h2 with
        | d h2 =>
          refine ⟨a, xs, 0, y, d, rfl, hl, hH, rfl, h2, .inl ⟨rfl, ?_, .lst hl upd_same (RepOs.kid (mkid hl _) hs).dropLast⟩⟩
          rw [hs.length]
          exact h1
      · cases e
    · rename_i i
      split at e
      · rename_i j hj
        split at e
        · rename_i d he
          split at e
          · cases e
          · rename_i hp
            simp only [Bool.or_eq_true, Bool.not_eq_true', not_or, Bool.not_eq_true, Bool.not_eq_false, Bool.and_eq_true, decide_eq_true_eq] at hp
            obtain ⟨hp, hb⟩ := hp
            simp only [Option.some.injEq, Prod.mk.injEq] at e
            obtain ⟨rfl, rfl⟩ := e
            cases rd with
            | cons r1 rr =>
            cases rr
            cases r1
            obtain ⟨y, h1, h2, _⟩ := hs.lens he
            cases h2 with
            | d h2 =>
              cases hq : Py.O.pures os with
              | none => rw [hq] at hp; cases hp
              | some ds =>
                refine ⟨a, xs, j, y, d, rfl, hl, hH, rfl, h2, .inr ⟨i, rfl, hb, by rw [hs.length]; exact hj, h1, ?_⟩⟩
                have := hs.pures hq
                rw [pures_map hq, map_erase]
                exact .lst hl upd_same (Reps.os (w := { w with H := upd w.H a (.lst (xs.eraseIdx j)) }) (this.erase j))
        · cases e
      · cases e
    · cases e
  | dic _ _ _ => cases e
  | ins _ _ _ _ => cases e
end PyS
end

section
set_option Elab.async false
set_option linter.all false
set_option maxRecDepth 100000
set_option maxHeartbeats 2000000
/-! ZA: statements that change things; loops. -/
namespace PyS
open PySem L2
variable {T : Tb}
section
variable {c : Py.Cx} {X : Cx}
theorem isL_ok {w : Wd} {σ : L2.St} {s : Py.St} {i : Nat} (rs : RS T w σ s) (h : Py.isL i s = true) : ∃ a xs, σ[i]? = some (some (.ref a)) ∧ w.H a = some (.lst xs) := by
  unfold Py.isL at h
  split at h
  · rename_i os e
    obtain ⟨v, e1, e2⟩ := rs.env i _ e
    cases e2 with
    | lst hl hH hs => exact ⟨_, _, e1, hH⟩
  · rename_i n e
    split at h
    · rename_i os e3
      obtain ⟨v, e1, e2⟩ := rs.env i _ e
      obtain ⟨b, f1, f2⟩ := rs.sto n _ e3
      cases e2 with
      | d e2 =>
        cases e2 with
        | cell g =>
          rw [f1] at g
          cases g
          cases f2 with
          | lst hl hH hs => exact ⟨_, _, e1, hH⟩
    · cases h
  · cases h
theorem isN_some {i : Nat} {s : Py.St} (h : Py.isN i s = true) : ∃ o, s.env[i]? = some (some o) := by
  unfold Py.isN at h
  split at h
  · rename_i o e
    exact ⟨o, e⟩
  · cases h
theorem tyL {K : PySem.W.Frag} {H : Hp} {a : Addr} {xs : List V} (h : H a = some (.lst xs)) : tyV K "list" (.ref a) H := .inl ⟨rfl, xs, .inl (.inl h)⟩
/-- a local name that is read -/
def visC (sc : Scope) (N : List Str) (x : Str) (i : Nat) : Bool :=
  decide (N[i]? = some x) && (match sc.names.lookup x with
    | some .local | some .cell | some .free => true
    | _ => false) && !(x == ("__debug__" : Str)) && !(x == ("__classdict__" : Str))
theorem visC_pe {i : Nat} {x : Str} {p : Pos} (h : visC X.env.scope X.N x i = true) : PE X (.Name x p) (tVar i) := by
  unfold visC at h
  simp only [Bool.and_eq_true, decide_eq_true_eq, Bool.not_eq_true'] at h
  obtain ⟨⟨⟨h1, h2⟩, h3⟩, h4⟩ := h
  refine pe_var h1 ?_ h3 h4
  split at h2
  · rename_i e; exact .inl e
  · rename_i e; exact .inr (.inl e)
  · rename_i e; exact .inr (.inr e)
  · cases h2
theorem simS_app {e : Expr} {E : Py.E} {i : Nat} {x : Str} {p ap cp pos : Pos} (hv : visC X.env.scope X.N x i = true) (n : notStar e = true) (hl : (ap.endLine == cp.line) = true) (h : SimE T c X e E) :
    SimS T c X (.Expr (.Call (.Attribute (.Name x p) "append" ap) [e] [] cp) pos) (.app (.var i) E) := by
  intro w σ s out s' rs ev D d
  simp only [Py.ex, Py.evPath] at ev
  by_cases hn : Py.isN i s = true
  case neg => rw [if_neg hn] at ev; cases ev
  rw [if_pos hn] at ev
  simp only at ev
  split at ev
  · rename_i hc
    rw [Bool.and_eq_true] at hc
    split at ev
    · rename_i o s2 e1
      cases hm : Py.modR i [] (Py.appAt (.d o.toD)) s2 with
      | none => rw [hm] at ev; cases ev
      | some r =>
        obtain ⟨x', s3⟩ := r
        rw [hm] at ev
        simp only [Option.map_some, Option.some.injEq, Prod.mk.injEq] at ev
        obtain ⟨rfl, rfl⟩ := ev
        obtain ⟨a, xs, f1, f2⟩ := isL_ok rs hc.2
        refine WS.of (ps_expr (pe_bm PySem.F.plainAttrs_list PySem.F.slot_list_append PySem.F.type_list_append mt_append (visC_pe hv) (pa_cons pe_self pa_nil (starEach_not n [] X.env)) (by rfl) (by rw [starEach_not n]; rfl) hl (starEach_not n [] X.env) (by rfl)) (by rfl)) ?_
        refine ⟨.ref a, f1, tyL f2, ?_⟩
        refine h false w σ s o s2 rs e1 _ fun v w1 st1 rs1 q1 p1 => ?_
        obtain ⟨w2, h2, st2, rs2, r2, _⟩ := p1.res.toD st1 rs1
        obtain ⟨v', u, r, π, sub, sub', g1, g2, g3, g4, g5⟩ := mod_ok rs2 hm
        rw [f1] at g1
        cases g1
        have : u = .ref a := g2
        subst this
        obtain ⟨a', xs', k1, k2, k3, k4, k5⟩ := app_at g3 r2 g4
        cases k1
        obtain ⟨st3, rs3⟩ := g5 a _ rfl k2 k5
        rw [← h2]
        exact ⟨a, xs', v, rfl, rfl, k3, k4, d _ σ (st2.trans st3) rs3⟩
    · cases ev
  · cases ev
theorem swS {e o k : Expr} {p : Pos} {l : Nat} {env : Env} : swapsWith e (some (.Subscript o k p)) l env = pure false := by
  cases e <;> rfl
def setAny : TSet := fun o i v H Q => rSetL o i v H Q ∨ rSetD o i v H Q
theorem set_any (hu : X.A.units + 1 < cLine) : PSet X setAny := by
  intro pins s σ H o i v ov iv u Q I ro ri rv h
  rcases h with h | h
  · exact set_list pins s σ H o i v ov iv u Q I ro ri rv h
  · exact set_dict hu pins s σ H o i v ov iv u Q I ro ri rv h
theorem simS_setK {k e : Expr} {K E : Py.E} {i : Nat} {x : Str} {p sp pos : Pos} (hu : X.A.units + 64 < cLine) (hv : visC X.env.scope X.N x i = true)
    (ha : ∀ v, assign (.Subscript (.Name x p) k sp) X.env v = (do
      let ov ← holding [v] (eval (.Name x p) X.env)
      let iv ← holding [v, ov] (eval k X.env)
      standAt sp
      holding [v, ov, iv] (setItem ov iv v)
      release [v, ov, iv] [])) (hk : SimE T c X k K) (h : SimE T c X e E) :
    SimS T c X (.Assign [.Subscript (.Name x p) k sp] e pos) (.set (.var i) K E) := by
  intro w σ s out s' rs ev D d
  simp only [Py.ex, Py.evPath] at ev
  split at ev
  · rename_i o s1 e1
    by_cases hn : Py.isN i s1 = true
    case neg => rw [if_neg hn] at ev; cases ev
    rw [if_pos hn] at ev
    simp only at ev
    split at ev
    · rename_i kd s3 e3
      cases hm : Py.modR i [] (Py.setAt kd (.d o.toD)) s3 with
      | none => rw [hm] at ev; cases ev
      | some r =>
        obtain ⟨x', s4⟩ := r
        rw [hm] at ev
        simp only [Option.map_some, Option.some.injEq, Prod.mk.injEq] at ev
        obtain ⟨rfl, rfl⟩ := ev
        refine WS.of (ps_asg pe_self (pg_sub (visC_pe hv) pe_self (set_any (by omega)) ha) (show swapsWith e (some (.Subscript (.Name x p) k sp)) pos.line X.env = pure false from swS) (by rfl) (by rfl)) ?_
        refine h false w σ s o s1 rs e1 _ fun v w1 st1 rs1 q1 p1 => ?_
        obtain ⟨w2, h2, st2, rs2, r2, _⟩ := p1.res.toD st1 rs1
        rw [← h2]
        -- what the name holds does not change by the key
        have tail : ∀ u, σ[i]? = some (some u) → gSub (tVar i) (WE X k) setAny v σ w2.H D.nx := by
          intro u hu'
          refine ⟨u, hu', ?_⟩
          refine hk false w2 σ s1 _ s3 rs2 e3 _ fun kv w3 st3 rs3 q3 p3 => ?_
          obtain ⟨v', u', r, π, sub, sub', g1, g2, g3, g4, g5⟩ := mod_ok rs3 hm
          rw [hu'] at g1
          cases g1
          have : u' = u := g2
          subst this
          obtain ⟨a, ob, rfl, k2, k3, k4⟩ := set_at g3 p3.res.of_d (r2.mono st3.g st3.f) g4
          obtain ⟨st4, rs4⟩ := g5 a ob rfl k2 k3
          have fin := d _ σ ((st2.trans st3).trans st4) rs4
          rcases k4 with ⟨xs, ii, j, rfl, hH, hj, rfl⟩ | ⟨kvs, key, rfl, hH, hz, rfl⟩
          · exact .inl ⟨a, xs, ii, j, rfl, rfl, hH, hj, fin⟩
          · exact .inr ⟨a, _, rfl, DPut.k hH hz, fin⟩
        obtain ⟨o', he⟩ := isN_some hn
        obtain ⟨u, hu', _⟩ := rs2.env i o' he
        exact tail u hu'
    · cases ev
  · cases ev
end
end PyS
end

section
set_option Elab.async false
set_option linter.all false
set_option maxRecDepth 100000
set_option maxHeartbeats 2000000
/-! ZB: pops, dict displays, attributes set, several names at once. -/
namespace PyS
open PySem L2
variable {T : Tb}
section
variable {c : Py.Cx} {X : Cx}
/-! ### pop -/
/-- a place, and its reading -/
structure Plc (T : Tb) (c : Py.Cx) (X : Cx) (p : Expr) (P : Py.E) (i : Nat) (ks : List Py.D) : Prop where
  ev : ∀ s r, Py.evPath c P s = some r → r = (i, ks, s) ∧ Py.isN i s = true
  rd : ∀ (w : Wd) (σ : L2.St) (v u : V) (Q : VK), LabOk w → σ[i]? = some (some v) → ReadsL T w v ks u → Q u w.H → WE X p σ w.H Q
theorem plc0 {i : Nat} {x : Str} {p : Pos} (hv : visC X.env.scope X.N x i = true) : Plc T c X (.Name x p) (.var i) i [] := by
  refine ⟨fun s r h => ?_, fun w σ v u Q ok e r q => ?_⟩
  · simp only [Py.evPath] at h
    split at h
    · rename_i hn
      exact ⟨(Option.some.inj h).symm, hn⟩
    · cases h
  · cases r
    exact WE.of (visC_pe hv) ⟨_, e, q⟩
theorem plc1 {i : Nat} {x : Str} {p sp : Pos} {k : Expr} {kd : Py.D} {kv : V} (hu : X.A.units + 64 < cLine) (hv : visC X.env.scope X.N x i = true) (pk : PE X k (tC kv)) (rk : ∀ G φ, Rep T G φ kv kd) (hs : notSlice k = true) : Plc T c X (.Subscript (.Name x p) k sp) (.idx (.var i) (.con kd)) i [kd] := by
  refine ⟨fun s r h => ?_, fun w σ v u Q ok e r q => ?_⟩
  · simp only [Py.evPath, Py.ev] at h
    by_cases hn : Py.isN i s = true
    · rw [if_pos hn] at h
      exact ⟨(Option.some.inj h).symm, hn⟩
    · rw [if_neg hn] at h
      cases h
  · obtain ⟨z, h1, rfl⟩ := r
    rcases h1 kv (rk _ _) with ⟨a, xs, j, rfl, rfl, hH, hx⟩ | ⟨a, kvs, key, rfl, rfl, hH, hx⟩
    · refine WE.of (pe_ix ix_seq (visC_pe hv) pk (plainIx hs)) ?_
      exact ⟨_, e, .inl ⟨a, xs, j, _, rfl, rfl, SqL.of hH, hx, q⟩⟩
    · refine WE.of (pe_dget (by omega) (visC_pe hv) pk (plainIx hs)) ?_
      refine ⟨_, e, a, _, rfl, ?_, q⟩
      rw [← hx]
      exact DGet.k hH
/-- the list a pop works on is not too long -/
theorem pop_body {w : Wd} {σ : L2.St} {s s' : Py.St} {i : Nat} {ks : List Py.D} {ds : List Py.D} {us : List V} {x : Py.O} (rs : RS T w σ s) (e : Py.modR i ks (Py.popAt ds) s = some (x, s')) (rd : Reps T w.G w.φ us ds) :
    ∃ v a xs y, σ[i]? = some (some v) ∧ ReadsL T w v ks (.ref a) ∧ w.H a = some (.lst xs) ∧
      ∀ (Q : VK), (∀ w', Stp w w' → RS T w' σ s' → Res T w w' y x → Q y w'.H) → (us = [] → rPop (.ref a) us w.H Q) ∧ (us ≠ [] → rPopAt (.ref a) us w.H Q) := by
  obtain ⟨v, u, r, π, sub, sub', g1, g2, g3, g4, g5⟩ := mod_ok rs e
  obtain ⟨a, xs, j, y, d, rfl, hl, hH, rfl, ry, hq⟩ := pop_at g3 rd g4
  refine ⟨v, a, xs, y, g1, g2, hH, fun Q q => ⟨fun hu => ?_, fun hu => ?_⟩⟩
  · rcases hq with ⟨rfl, hy, hr⟩ | ⟨i', rfl, _⟩
    · obtain ⟨st, rs'⟩ := g5 a _ rfl hl hr
      exact ⟨a, xs, y, rfl, rfl, hH, hy, q _ st rs' (Res.d ry)⟩
    · cases hu
  · rcases hq with ⟨rfl, _⟩ | ⟨i', rfl, ⟨b1, b2⟩, hj, hy, hr⟩
    · exact absurd rfl hu
    · obtain ⟨st, rs'⟩ := g5 a _ rfl hl hr
      exact ⟨a, xs, i', j, y, rfl, rfl, hH, by omega, by omega, (ixN_seq hj).1, hy, q _ st rs' (Res.d ry)⟩
theorem sim_pop0 {p : Expr} {P : Py.E} {i : Nat} {ks : List Py.D} {ap cp : Pos} (pl : Plc T c X p P i ks) (hb : attributeBase p "pop" X.env (eval p X.env) = eval p X.env) (hl : (ap.endLine == cp.line) = true) :
    SimE T c X (.Call (.Attribute p "pop" ap) [] [] cp) (.pop P []) := by
  intro m w σ s o s' rs ev Q q
  simp only [Py.ev] at ev
  split at ev
  · rename_i i' ks' s1 e1
    obtain ⟨e2, hn⟩ := pl.ev _ _ e1
    cases e2
    simp only [List.all_nil, Bool.or_true, if_true, Py.evs] at ev
    obtain ⟨v, a, xs, y, g1, g2, hH, g4⟩ := pop_body (us := []) rs ev .nil
    refine WE.of (pe_bm0 PySem.F.plainAttrs_list PySem.F.slot_list_pop PySem.F.type_list_pop mt_pop pe_self hb hl) ?_
    refine pl.rd w σ v _ _ rs.toLabOk g1 g2 ?_
    exact ⟨tyL hH, (g4 Q fun w' st rs' r => q y w' st rs' (fun qq => by simp only [Py.E.quiet] at qq; cases qq) (PO.of r)).1 rfl⟩
  · cases ev
/-- .. with a constant index -/
theorem sim_popC {p : Expr} {P : Py.E} {i : Nat} {ks : List Py.D} {ap cp kp : Pos} {n : Int} {j : Nat} (pl : Plc T c X p P i ks) (hb : attributeBase p "pop" X.env (eval p X.env) = eval p X.env) (hl : (ap.endLine == cp.line) = true) :
    SimE T c X (.Call (.Attribute p "pop" ap) [.Constant (.int n) j kp] [] cp) (.pop P [.con (.int n)]) := by
  intro m w σ s o s' rs ev Q q
  simp only [Py.ev] at ev
  split at ev
  · rename_i i' ks' s1 e1
    obtain ⟨e2, hn⟩ := pl.ev _ _ e1
    cases e2
    simp only [List.all_cons, List.all_nil, Py.E.isCon, Bool.and_true, Bool.or_true, if_true, Py.evs, Py.ev] at ev
    obtain ⟨v, a, xs, y, g1, g2, hH, g4⟩ := pop_body (us := [.int n]) rs ev (.cons (.int n) .nil)
    refine WE.of (pe_bm PySem.F.plainAttrs_list PySem.F.slot_list_pop PySem.F.type_list_pop mt_popAt pe_self (pa_cons pe_int pa_nil) hb (by rfl) hl (by rfl) (by rfl)) ?_
    refine pl.rd w σ v _ _ rs.toLabOk g1 g2 ?_
    exact ⟨tyL hH, (g4 Q fun w' st rs' r => q y w' st rs' (fun qq => by simp only [Py.E.quiet] at qq; cases qq) (PO.of r)).2 (by simp)⟩
  · cases ev
/-- .. of a name, any index -/
theorem sim_pop1 {i : Nat} {x : Str} {p ap cp : Pos} {e : Expr} {E : Py.E} (hv : visC X.env.scope X.N x i = true) (hnc : Py.E.isCon E = false) (n : notStar e = true) (n' : isStarE E = false) (hl : (ap.endLine == cp.line) = true) (h : SimE T c X e E) :
    SimE T c X (.Call (.Attribute (.Name x p) "pop" ap) [e] [] cp) (.pop (.var i) [E]) := by
  intro m w σ s o s' rs ev Q q
  simp only [Py.ev] at ev
  split at ev
  · rename_i i' ks' s1 e1
    obtain ⟨e2, hn⟩ := (plc0 (T := T) (c := c) (X := X) (p := p) hv).ev _ _ e1
    cases e2
    split at ev
    · rename_i hc
      simp only [List.isEmpty_nil, Bool.true_and, List.all_cons, hnc, Bool.false_and, Bool.or_false] at hc
      split at ev
      · rename_i ds s2 e3
        obtain ⟨a, xs, f1, f2⟩ := isL_ok rs hc
        refine WE.of (pe_bm PySem.F.plainAttrs_list PySem.F.slot_list_pop PySem.F.type_list_pop mt_popAt (visC_pe hv) (pa_cons pe_self pa_nil (starEach_not n [] X.env)) (by rfl) (by rw [starEach_not n]; rfl) hl (starEach_not n [] X.env) (by rfl)) ?_
        refine ⟨.ref a, f1, tyL f2, ?_⟩
        have hs : SimEs T c X [e] [E] := sims_cons n n' h sims_nil
        have hlen := evs_len (Es := [E]) (by simp [n']) e3
        rw [evs_cons n'] at e3
        split at e3
        · rename_i o1 s3 e4
          simp only [Py.evs, Option.some.injEq, Prod.mk.injEq] at e3
          obtain ⟨rfl, rfl⟩ := e3
          refine h false w σ s o1 s3 rs e4 _ fun v w1 st1 rs1 q1 p1 => ?_
          obtain ⟨w2, h2, st2, rs2, r2, _⟩ := p1.res.toD st1 rs1
          obtain ⟨v', a', xs', y, g1, g2, hH, g4⟩ := pop_body (us := [v]) rs2 ev (.cons r2 .nil)
          rw [f1] at g1
          cases g1
          have : V.ref a' = .ref a := g2
          cases this
          rw [← h2]
          show rPopAt (.ref a) [v] w2.H Q
          exact (g4 Q fun w' st rs' r => q y w' (st2.trans st) rs' (fun qq => by simp only [Py.E.quiet] at qq; cases qq) (PO.of (r.from st2))).2 (by simp)
        · cases e3
      · cases ev
    · cases ev
  · cases ev
/-! ### self.x = e -/
theorem RepOf.len {w : Wd} {r : Root} {π : List Nat} : ∀ {j : Nat} {vs : List (Str × V)} {os : List (Nat × Py.O)}, RepOf T w r π j vs os → vs.length = os.length
  | _, _, _, .nil => rfl
  | _, _, _, .cons _ b => by rw [List.length_cons, List.length_cons, b.len]
theorem RepOf.put {w : Wd} {r : Root} {π : List Nat} {v : V} {d : Py.D} (inj : ∀ f g, T.nm f = T.nm g → f = g) (f : Nat) (h : Rep T w.G w.φ v d) : ∀ {vs : List (Str × V)} {os : List (Nat × Py.O)} {j : Nat}, RepOf T w r π j vs os → RepOf T w r π j (L2.putF (T.nm f) v vs) (Py.putF f (.d d) os)
  | _, _, _, .nil => .cons (.d h) .nil
  | _, _, _, @RepOf.cons _ _ _ _ _ g v' _ _ _ a b => by
    rw [L2.putF, Py.putF]
    by_cases e : g = f
    · subst e
      rw [if_pos rfl, if_pos rfl]
      exact .cons (.d h) b
    · rw [if_neg e, if_neg fun z => e (inj _ _ z)]
      exact .cons a (b.put inj f h)
theorem swA {e o : Expr} {f : Str} {p : Pos} {l : Nat} {env : Env} : swapsWith e (some (.Attribute o f p)) l env = pure false := by
  cases e <;> rfl
theorem simS_setA {e : Expr} {E : Py.E} {i f : Nat} {x : Str} {p ap pos : Pos} (F : Clss T) (hK : X.K = T.K) (hf : f < T.na) (hv : visC X.env.scope X.N x i = true) (h : SimE T c X e E) :
    SimS T c X (.Assign [.Attribute (.Name x p) (T.nm f) ap] e pos) (.setA i f E) := by
  intro w σ s out s' rs ev D d
  simp only [Py.ex] at ev
  split at ev
  · rename_i o s1 e1
    split at ev
    · rename_i k l he
      split at ev
      · rename_i hz
        simp only [Option.some.injEq, Prod.mk.injEq] at ev
        obtain ⟨rfl, rfl⟩ := ev
        refine WS.of (ps_fld (visC_pe hv) pe_self swA) ?_
        refine h false w σ s o s1 rs e1 _ fun v w1 st1 rs1 q1 p1 => ?_
        obtain ⟨w2, h2, st2, rs2, r2, _⟩ := p1.res.toD st1 rs1
        obtain ⟨u, g1, g2⟩ := rs2.env i _ he
        rw [← h2]
        cases g2 with
        | @ins _ a C dx fs _ _ hl hC hH hs =>
          refine ⟨_, g1, a, C, dx, fs, rfl, hH, ?_, ?_, ?_, ?_⟩
          · rw [hK]; exact (F.one k C hC).cl
          · rw [hK]; exact F.na k C f hC hf
          · rw [hs.len]; omega
          · have hie : i < s1.env.length := (List.getElem?_eq_some_iff.mp he).1
            refine d { w2 with H := upd w2.H a (.ins C dx (L2.putF (T.nm f) v fs)) } σ (st2.trans ⟨GLe.refl _, PLe.refl _, fun b u h l => ?_, fun b h => ?_⟩) ⟨⟨fun b u h => ?_, fun b r' h => ⟨(rs2.lg b r' h).1, ?_⟩⟩, fun j y hj => ?_, fun n y hn => ?_, rs2.len, ?_⟩
            · have : b ≠ a := fun z => by rw [z, hl] at l; cases l
              exact ⟨(upd_ne this).trans h, l, rfl⟩
            · show upd w2.H a _ b ≠ none
              by_cases z : b = a
              · rw [z, upd_same]; exact fun q => nomatch q
              · rw [upd_ne z]; exact h
            · show upd w2.H a _ b = some u
              rw [upd_ne (fun z => by rw [z, (rs2.lg a _ hl).1] at h; cases h)]
              exact rs2.gh b u h
            · show upd w2.H a _ b ≠ none
              by_cases z : b = a
              · rw [z, upd_same]; exact fun q => nomatch q
              · rw [upd_ne z]; exact (rs2.lg b r' h).2
            · by_cases hji : j = i
              · subst hji
                rw [show (s1.env.set j _)[j]? = _ from List.getElem?_set_self hie] at hj
                cases hj
                exact ⟨_, g1, .ins hl hC upd_same ((RepOf.kid (mkid hl _) hs).put (w := { w2 with H := upd w2.H a (.ins C dx (L2.putF (T.nm f) v fs)) }) F.inj f r2)⟩
              · rw [show (s1.env.set i _)[j]? = s1.env[j]? from List.getElem?_set_ne (Ne.symm hji)] at hj
                obtain ⟨v', k1, k2⟩ := rs2.env j y hj
                refine ⟨v', k1, RepO.move (w := w2) (w' := { w2 with H := upd w2.H a (.ins C dx (L2.putF (T.nm f) v fs)) }) ⟨GLe.refl _, PLe.refl _, fun b ρ q => ⟨q, fun u hu => ?_⟩⟩ k2⟩
                show upd w2.H a _ b = some u
                rw [upd_ne (fun z => by rw [z, hl] at q; cases q; exact hji rfl)]
                exact hu
            · obtain ⟨v', k1, k2⟩ := rs2.sto n y hn
              refine ⟨v', k1, RepO.move (w := w2) (w' := { w2 with H := upd w2.H a (.ins C dx (L2.putF (T.nm f) v fs)) }) ⟨GLe.refl _, PLe.refl _, fun b ρ q => ⟨q, fun u hu => ?_⟩⟩ k2⟩
              show upd w2.H a _ b = some u
              rw [upd_ne (fun z => by rw [z, hl] at q; cases q)]
              exact hu
            · show (s1.env.set i _).length = σ.length
              rw [List.length_set]
              exact rs2.el
      · cases ev
    · cases ev
  · cases ev
end
end PyS
end

section
set_option Elab.async false
set_option linter.all false
set_option maxRecDepth 100000
set_option maxHeartbeats 2000000
/-! ZC: several names at once, dict displays, loops. -/
namespace PyS
open PySem L2
variable {T : Tb}
section
variable {c : Py.Cx} {X : Cx}
/-! ### a, b = x, y -/
/-- what a tuple display stored to a tuple of names does: swapped stores, and of which names (none: the model does not say) -/
def swNames (sc : Scope) (ts : List Expr) : List Str := ts.filterMap fun
  | .Name id pos => if sc.names.lookup id == some .local && pos.line == (ts.head?.map (·.pos.line)).getD 0 then some id else none
  | _ => none
def swC1 (sc : Scope) (ts vs : List Expr) : Bool := !(ts.length == 2 || ts.length == 3) || vs.length != ts.length || (if sc.kind.isAnnotationScope then ScopeKind.function else sc.kind) != .function
def swC2 (vs : List Expr) : Bool := vs.any fun | .Starred .. => true | _ => false
def swC3 (ts : List Expr) (names : List Str) : Bool := names.length != ts.length || names.eraseDups.length != names.length
def swSt (sc : Scope) (ts vs : List Expr) : Option (Option (List Str)) :=
  if swC1 sc ts vs = true then some none else if swC2 vs = true then some none else if swC3 ts (swNames sc ts) = true then some none else
  if (vs.all (foldedForSure 8)) = true then some none else if (vs.all (constantsAlone 8)) = true then none else some (some (swNames sc ts))
theorem swSt_ok {env : Env} {ts vs : List Expr} {k k2 : Nat} {p p2 : Pos} {r : Option (List Str)} (h : swSt env.scope ts vs = some r) : swappedStores [.Tuple ts k p] (.Tuple vs k2 p2) env = pure r := by
  unfold swSt at h
  unfold swappedStores
  by_cases h1 : swC1 env.scope ts vs = true
  · rw [if_pos h1] at h
    cases h
    exact if_pos h1
  rw [if_neg h1] at h
  refine (if_neg h1).trans ?_
  by_cases h2 : swC2 vs = true
  · rw [if_pos h2] at h
    cases h
    exact if_pos h2
  rw [if_neg h2] at h
  refine (if_neg h2).trans ?_
  by_cases h3 : swC3 ts (swNames env.scope ts) = true
  · rw [if_pos h3] at h
    cases h
    exact if_pos h3
  rw [if_neg h3] at h
  refine (if_neg h3).trans ?_
  by_cases h4 : (vs.all (foldedForSure 8)) = true
  · rw [if_pos h4] at h
    cases h
    exact if_pos h4
  rw [if_neg h4] at h
  refine (if_neg h4).trans ?_
  by_cases h5 : (vs.all (constantsAlone 8)) = true
  · rw [if_pos h5] at h
    cases h
  · rw [if_neg h5] at h
    cases h
    exact if_neg h5
/-- the names that get the values -/
def locsC (sc : Scope) (fq : Str → Bool) (N : List Str) : List Nat → List Expr → Bool
  | [], [] => true
  | i :: is, .Name x _ :: es => locC sc fq N x i && locsC sc fq N is es
  | _, _ => false
theorem locsC_len {sc : Scope} {fq : Str → Bool} {N : List Str} : ∀ {is : List Nat} {es : List Expr}, locsC sc fq N is es = true → es.length = is.length
  | [], [], _ => rfl
  | i :: is, e :: es, h => by
    cases e with
    | Name x p =>
      rw [locsC, Bool.and_eq_true] at h
      rw [List.length_cons, List.length_cons, locsC_len h.2]
    | _ => simp [locsC] at h
  | [], _ :: _, h => by simp [locsC] at h
  | _ :: _, [], h => by simp [locsC] at h
theorem locsC_tgs {sc : Scope} {fq : Str → Bool} {N : List Str} : ∀ {is : List Nat} {es : List Expr}, locsC sc fq N is es = true → tgCs sc fq N (is.map .nm) es = true
  | [], [], _ => rfl
  | i :: is, e :: es, h => by
    cases e with
    | Name x p =>
      rw [locsC, Bool.and_eq_true] at h
      rw [List.map_cons, tgCs, tgC, h.1, locsC_tgs h.2]
      rfl
    | _ => simp [locsC] at h
  | [], _ :: _, h => by simp [locsC] at h
  | _ :: _, [], h => by simp [locsC] at h
theorem locsC_lt {X : Cx} : ∀ {is : List Nat} {es : List Expr}, locsC X.env.scope X.fn X.N is es = true → ∀ i ∈ is, i < X.N.length
  | [], [], _, i, h => by simp at h
  | j :: is, e :: es, h, i, hi => by
    cases e with
    | Name x p =>
      rw [locsC, Bool.and_eq_true] at h
      rcases List.mem_cons.mp hi with q | q
      · subst q
        exact (List.getElem?_eq_some_iff.mp (locC_ok h.1).1).1
      · exact locsC_lt h.2 i q
    | _ => simp [locsC] at h
  | [], _ :: _, h, _, _ => by simp [locsC] at h
  | _ :: _, [], h, _, _ => by simp [locsC] at h
theorem gTs_set {K : PySem.W.Frag} : ∀ {is : List Nat} {vs : List V} {σ : L2.St} {H : Hp} {Q : L2.St → Hp → Prop}, vs.length = is.length → Q (setL is vs σ) H → gTs K (is.map .nm) vs σ H Q
  | [], [], _, _, _, _, q => ⟨rfl, q⟩
  | i :: is, v :: vs, σ, H, Q, hl, q => ⟨v, vs, rfl, gTs_set (Nat.succ.inj hl) q⟩
  | [], _ :: _, _, _, _, hl, _ => by simp at hl
  | _ :: _, [], _, _, _, hl, _ => by simp at hl
theorem evOs_len : ∀ {Es : List Py.E} {s : Py.St} {os : List Py.O} {s' : Py.St}, Py.evOs c Es s = some (os, s') → os.length = Es.length
  | [], s, os, s', e => by
    simp only [Py.evOs, Option.some.injEq, Prod.mk.injEq] at e
    rw [← e.1] <;> rfl
  | E :: Es, s, os, s', e => by
    rw [Py.evOs] at e
    split at e
    · split at e
      · rename_i e2
        simp only [Option.some.injEq, Prod.mk.injEq] at e
        rw [← e.1, List.length_cons, List.length_cons, evOs_len e2]
      · cases e
    · cases e
theorem stEs_len : ∀ {is : List Nat} {os : List Py.O} {s s' : Py.St}, Py.stEs c is os s = some s' → os.length = is.length
  | [], [], _, _, _ => rfl
  | i :: is, o :: os, s, s', e => by
    rw [Py.stEs] at e
    split at e
    · cases e
    · rw [List.length_cons, List.length_cons, stEs_len e]
  | [], _ :: _, _, _, e => by simp [Py.stEs] at e
  | _ :: _, [], _, _, e => by simp [Py.stEs] at e
theorem par_in {is : List Nat} {Es : List Py.E} {s : Py.St} {out : Py.Out} {s' : Py.St} (ev : Py.ex c (.par is Es) s = some (out, s')) : ∃ os s1, Py.evOs c Es s = some (os, s1) ∧ Py.stEs c is os s1 = some s' ∧ out = .nx := by
  simp only [Py.ex] at ev
  split at ev
  · rename_i os s1 e1
    cases e2 : Py.stEs c is os s1 with
    | none => rw [e2] at ev; cases ev
    | some s2 =>
      rw [e2] at ev
      simp only [Option.map_some, Option.some.injEq, Prod.mk.injEq] at ev
      obtain ⟨rfl, rfl⟩ := ev
      exact ⟨os, s1, e1, e2, rfl⟩
  · cases ev
/-- stored one after another -/
theorem simS_parN {ts es : List Expr} {is : List Nat} {Es : List Py.E} {k k2 : Nat} {p p2 pos : Pos} (hc : X.calm = true) (hN : X.N.Nodup) (hl : locsC X.env.scope X.fn X.N is ts = true) (hw : swSt X.env.scope ts es = some none) (hz : es.length ≤ 1000) (h : SimOs T c X es Es) (hes : es.length = Es.length) :
    SimS T c X (.Assign [.Tuple ts k p] (.Tuple es k2 p2) pos) (.par is Es) := by
  intro w σ s out s' rs ev D d
  obtain ⟨os, s1, e1, e2, rfl⟩ := par_in ev
  have ht := locsC_tgs hl
  intro pins sh I
  refine (WS.of (ps_asg (pe_tup pa_self) (pg_tg (t := .tup (is.map .nm)) hc hN (show tgC X.env.scope X.fn X.N (.tup (is.map .nm)) (.Tuple ts k p) = true by rw [tgC]; exact ht)) (by rfl) (swSt_ok hw) (by rfl)) ?_) pins sh I
  refine h w σ s os s1 rs e1 _ fun vs w1 st1 rs1 r1 => ?_
  have hlen : vs.length = is.length := r1.1.trans (stEs_len e2)
  refine ⟨?_, fun q hq => ?_⟩
  · have := evOs_len e1
    have := r1.1
    have h2 : sizeLine = 2 ^ 24 := by first | rfl | exact sizeLine_eq
    omega
  · obtain ⟨a1, a2⟩ := rs1.alloc hq (.tup vs)
    refine ⟨q, vs, rfl, .inl (.inl upd_same), ?_, ?_⟩
    · rw [List.length_map]; exact hlen
    · refine gTs_set hlen ?_
      obtain ⟨w3, h3, st3, rs3⟩ := store_all (c := c) (r1.same a1) (st1.trans a1) a2 (fun i hi => by rw [I.len]; exact locsC_lt hl i hi) e2
      have := d w3 _ st3 rs3
      rw [show upd w1.H q (.tup vs) = w3.H from h3.symm]
      exact this
/-- two names, stored from the right -/
theorem simS_par2 {x y : Str} {px py p p2 pos : Pos} {a b : Expr} {i j : Nat} {Es : List Py.E} {k k2 : Nat} (hc : X.calm = true) (hN : X.N.Nodup) (hi : locC X.env.scope X.fn X.N x i = true) (hj : locC X.env.scope X.fn X.N y j = true) (hij : i ≠ j)
    (hx : X.env.scope.names.lookup x = some .local) (hy : X.env.scope.names.lookup y = some .local) (hw : swSt X.env.scope [.Name x px, .Name y py] [a, b] = some (some [x, y])) (h : SimOs T c X [a, b] Es) :
    SimS T c X (.Assign [.Tuple [.Name x px, .Name y py] k p] (.Tuple [a, b] k2 p2) pos) (.par [i, j] Es) := by
  intro w σ s out s' rs ev D d
  obtain ⟨os, s1, e1, e2, rfl⟩ := par_in ev
  intro pins sh I
  refine (WS.of (ps_par hc hN (locC_ok hi).1 (locC_ok hj).1 hij hx hy pa_self (swSt_ok hw) (by rfl)) ?_) pins sh I
  refine h w σ s os s1 rs e1 _ fun vs w1 st1 rs1 r1 => ?_
  have hlen : vs.length = [i, j].length := r1.1.trans (stEs_len e2)
  match vs, hlen, r1 with
  | [v, u], _, r1 =>
    obtain ⟨w3, h3, st3, rs3⟩ := store_all (c := c) r1 st1 rs1 (fun l hl => by
      rw [I.len]
      simp only [List.mem_cons, List.not_mem_nil, or_false] at hl
      rcases hl with q | q
      · rw [q]; exact (List.getElem?_eq_some_iff.mp (locC_ok hi).1).1
      · rw [q]; exact (List.getElem?_eq_some_iff.mp (locC_ok hj).1).1) e2
    refine ⟨v, u, rfl, ?_⟩
    rw [← h3]
    exact d w3 _ st3 rs3
/-- three -/
theorem simS_par3 {x y z : Str} {px py pz p p2 pos : Pos} {a b e : Expr} {i j l : Nat} {Es : List Py.E} {k k2 : Nat} (hc : X.calm = true) (hN : X.N.Nodup) (hi : locC X.env.scope X.fn X.N x i = true) (hj : locC X.env.scope X.fn X.N y j = true) (hl : locC X.env.scope X.fn X.N z l = true)
    (hij : i ≠ j) (hil : i ≠ l) (hjl : j ≠ l) (hx : X.env.scope.names.lookup x = some .local) (hy : X.env.scope.names.lookup y = some .local) (hz : X.env.scope.names.lookup z = some .local)
    (hw : swSt X.env.scope [.Name x px, .Name y py, .Name z pz] [a, b, e] = some (some [x, y, z])) (h : SimOs T c X [a, b, e] Es) :
    SimS T c X (.Assign [.Tuple [.Name x px, .Name y py, .Name z pz] k p] (.Tuple [a, b, e] k2 p2) pos) (.par [i, j, l] Es) := by
  intro w σ s out s' rs ev D d
  obtain ⟨os, s1, e1, e2, rfl⟩ := par_in ev
  intro pins sh I
  refine (WS.of (ps_par3 hc hN (locC_ok hi).1 (locC_ok hj).1 (locC_ok hl).1 hij hil hjl hx hy hz pa_self (swSt_ok hw) (by rfl)) ?_) pins sh I
  refine h w σ s os s1 rs e1 _ fun vs w1 st1 rs1 r1 => ?_
  have hlen : vs.length = [i, j, l].length := r1.1.trans (stEs_len e2)
  match vs, hlen, r1 with
  | [v, u, t], _, r1 =>
    obtain ⟨w3, h3, st3, rs3⟩ := store_all (c := c) r1 st1 rs1 (fun n hn => by
      rw [I.len]
      simp only [List.mem_cons, List.not_mem_nil, or_false] at hn
      rcases hn with q | q | q
      · rw [q]; exact (List.getElem?_eq_some_iff.mp (locC_ok hi).1).1
      · rw [q]; exact (List.getElem?_eq_some_iff.mp (locC_ok hj).1).1
      · rw [q]; exact (List.getElem?_eq_some_iff.mp (locC_ok hl).1).1) e2
    refine ⟨v, u, t, rfl, ?_⟩
    rw [← h3]
    exact d w3 _ st3 rs3
/-! ### loops -/
theorem simS_for {tg iter : Expr} {body : List Stmt} {t : Py.Tg} {k : Option Py.Itk} {Es : List Py.E} {B : List Py.S} {pos : Pos} (hp : PassesOwn (model X.prog X.w) X.A X.env X.xe) (hc : X.calm = true) (hN : X.N.Nodup) (ht : tgC X.env.scope X.fn X.N t tg = true)
    (hf : ∀ x, foldedSetIterable iter X.env x = pure x) (hi : SimI T c X tg iter k Es) (hb : SimB T c X body B) : SimS T c X (.For tg iter body [] pos) (.for_ t k Es B) := by
  intro w σ s out s' rs ev D d
  simp only [Py.ex] at ev
  split at ev
  · rename_i ds s1 e1
    split at ev
    · rename_i xs e2
      refine WS.of (ps_for hp hc pi_self (pg_tg hc hN ht) pb_self hf) ?_
      refine hi w σ s ds s1 xs rs e1 e2 _ fun J w1 st1 rs1 yl => ?_
      generalize hfn : (fun (x : Py.D) (s : Py.St) => match Py.bindT t x s.env with
        | some env => Py.exs c B { s with env := env }
        | none => none) = f at ev
      let Iv : Nat → L2.St → Hp → Prop := fun i σ H => ∃ (w' : Wd) (s2 : Py.St), w'.H = H ∧ Stp w1 w' ∧ RS T w' σ s2 ∧ Py.forLoop f (xs.drop i) s2 = some (out, s')
      refine ⟨fun i n σ H => n = xs.length - i ∧ i ≤ xs.length ∧ Iv i σ H, ⟨_, rfl, Nat.zero_le _, w1, s1, rfl, Stp.refl _, rs1, ev⟩, ?_⟩
      rintro i n σ2 H ⟨rfl, hle, w2, s2, rfl, st2, rs2, lp⟩
      by_cases hlt : i < xs.length
      · refine .inr ⟨yl.go i w2 st2.lat rs2.toLabOk hlt, Iv (i + 1), fun σ' H' q => ⟨xs.length - (i + 1), by omega, rfl, hlt, q⟩, fun x H' y => ?_⟩
        have hd : xs[i]? = some xs[i] := List.getElem?_eq_getElem hlt
        obtain ⟨w3, rfl, st3, rs3, rx⟩ := yl.yld i w2 _ _ x H' _ st2.lat rs2 hd y
        rw [List.drop_eq_getElem_cons hlt, Py.forLoop] at lp
        cases hfx : f xs[i] s2 with
        | none => rw [hfx] at lp; cases lp
        | some r =>
          obtain ⟨o1, s3⟩ := r
          rw [hfx] at lp
          rw [← hfn] at hfx
          simp only at hfx
          cases hbd : Py.bindT t xs[i] s2.env with
          | none => rw [hbd] at hfx; cases hfx
          | some env =>
            rw [hbd] at hfx
            simp only at hfx
            refine bind_tg (s := s2) rs3 rx hbd _ fun σ3 rs4 _ => ?_
            refine hb w3 σ3 _ o1 s3 rs4 hfx _ fun w4 σ4 st4 rs5 => ?_
            have st14 : Stp w1 w4 := (st2.trans st3).trans st4
            cases o1 with
            | nx => exact ⟨w4, s3, rfl, st14, rs5, lp⟩
            | cont => exact ⟨w4, s3, rfl, st14, rs5, lp⟩
            | brk =>
              simp only [Option.some.injEq, Prod.mk.injEq] at lp
              obtain ⟨rfl, rfl⟩ := lp
              exact d w4 σ4 (st1.trans st14) rs5
            | ret o =>
              simp only [Option.some.injEq, Prod.mk.injEq] at lp
              obtain ⟨rfl, rfl⟩ := lp
              exact fun v r => d w4 σ4 (st1.trans st14) rs5 v (r.from ((st1.trans st2).trans st3))
      · have hi' : i = xs.length := by omega
        subst hi'
        refine .inl ⟨yl.stop w2 st2.lat rs2.toLabOk, ?_⟩
        rw [List.drop_length, Py.forLoop] at lp
        simp only [Option.some.injEq, Prod.mk.injEq] at lp
        obtain ⟨rfl, rfl⟩ := lp
        exact d w2 σ2 (st1.trans st2) rs2
    · cases ev
  · cases ev
/-- how a loop's ways are told: with a count of its turns -/
def LpOk (lp : (Py.St → Option (Py.St ⊕ (Py.Out × Py.St))) → Py.St → Option (Py.Out × Py.St)) : Prop := ∀ f s r, lp f s = some r → ∃ n, Py.iter f n s = some r
theorem simS_whl {e : Expr} {E : Py.E} {body : List Stmt} {B : List Py.S} {pos : Pos} (hp : PassesOwn (model X.prog X.w) X.A X.env X.xe) (hlp : LpOk c.lp) (he : SimT T c X e E) (hb : SimB T c X body B) : SimS T c X (.While e body [] pos) (.whl E B) := by
  intro w σ s out s' rs ev D d
  simp only [Py.ex] at ev
  obtain ⟨n0, it⟩ := hlp _ _ _ ev
  generalize hfn : (fun (s : Py.St) => match Py.ev c false E s with
      | some (.d (.bl true), s1) => match Py.exs c B s1 with
        | some (.nx, s2) => some (Sum.inl s2)
        | some (.cont, s2) => some (.inl s2)
        | some (.brk, s2) => some (.inr (Py.Out.nx, s2))
        | some (.ret o, s2) => some (.inr (.ret o, s2))
        | none => none
      | some (.d (.bl false), s1) => some (.inr (.nx, s1))
      | _ => none) = f at it
  refine WS.of (ps_while hp pt_self pb_self) ?_
  let Iv : Nat → L2.St → Hp → Prop := fun n σ H => ∃ (w' : Wd) (s2 : Py.St), w'.H = H ∧ Stp w w' ∧ RS T w' σ s2 ∧ Py.iter f n s2 = some (out, s')
  refine ⟨Iv, ⟨n0, w, s, rfl, Stp.refl _, rs, it⟩, ?_⟩
  rintro n σ2 H ⟨w2, s2, rfl, st2, rs2, it2⟩
  cases n with
  | zero => cases it2
  | succ n =>
    rw [Py.iter] at it2
    have hs : ∀ z, f s2 = z → (match Py.ev c false E s2 with
      | some (.d (.bl true), s1) => match Py.exs c B s1 with
        | some (.nx, s2) => some (Sum.inl s2)
        | some (.cont, s2) => some (.inl s2)
        | some (.brk, s2) => some (.inr (Py.Out.nx, s2))
        | some (.ret o, s2) => some (.inr (.ret o, s2))
        | none => none
      | some (.d (.bl false), s1) => some (.inr (.nx, s1))
      | _ => none) = z := fun z h => by rw [← h, ← hfn]
    cases hfx : f s2 with
    | none => rw [hfx] at it2; cases it2
    | some r =>
      rw [hfx] at it2
      have hb2 := hs _ hfx
      clear hs
      split at hb2
      · rename_i s3 e1
        refine he w2 σ2 s2 true s3 rs2 e1 _ fun w3 st3 rs3 _ => ?_
        rw [if_pos rfl]
        refine ⟨Iv n, fun σ' H' q => ⟨n, Nat.lt_succ_self _, q⟩, ?_⟩
        split at hb2
        · rename_i s4 e2
          cases hb2
          refine hb w3 σ2 s3 .nx s4 rs3 e2 _ fun w4 σ4 st4 rs4 => ?_
          exact ⟨w4, s4, rfl, (st2.trans st3).trans st4, rs4, it2⟩
        · rename_i s4 e2
          cases hb2
          refine hb w3 σ2 s3 .cont s4 rs3 e2 _ fun w4 σ4 st4 rs4 => ?_
          exact ⟨w4, s4, rfl, (st2.trans st3).trans st4, rs4, it2⟩
        · rename_i s4 e2
          cases hb2
          refine hb w3 σ2 s3 .brk s4 rs3 e2 _ fun w4 σ4 st4 rs4 => ?_
          simp only [Option.some.injEq, Prod.mk.injEq] at it2
          obtain ⟨rfl, rfl⟩ := it2
          exact d w4 σ4 ((st2.trans st3).trans st4) rs4
        · rename_i o s4 e2
          cases hb2
          refine hb w3 σ2 s3 (.ret o) s4 rs3 e2 _ fun w4 σ4 st4 rs4 => ?_
          simp only [Option.some.injEq, Prod.mk.injEq] at it2
          obtain ⟨rfl, rfl⟩ := it2
          exact fun v r => d w4 σ4 ((st2.trans st3).trans st4) rs4 v (r.from (st2.trans st3))
        · cases hb2
      · rename_i s3 e1
        cases hb2
        refine he w2 σ2 s2 false s3 rs2 e1 _ fun w3 st3 rs3 _ => ?_
        rw [if_neg Bool.false_ne_true]
        simp only [Option.some.injEq, Prod.mk.injEq] at it2
        obtain ⟨rfl, rfl⟩ := it2
        exact d w3 σ2 (st2.trans st3) rs3
      · cases hb2
end
end PyS
end

section
set_option Elab.async false
set_option linter.all false
set_option maxRecDepth 100000
set_option maxHeartbeats 2000000
/-! ZD: dict displays. -/
namespace PyS
open PySem L2
variable {T : Tb}
/-- moved under one more index -/
structure Under (w w' : Wd) (r r' : Root) (n : Nat) : Prop where
  g : GLe w.G w'.G
  f : PLe w.φ w'.φ
  l : ∀ a π, w.lab a = some (r, π) → w'.lab a = some (r', n :: π) ∧ ∀ o, w.H a = some o → w'.H a = some o
mutual
theorem RepO.under {w w' : Wd} {r r' : Root} {n : Nat} (k : Under w w' r r' n) : ∀ {π : List Nat} {v : V} {o : Py.O}, RepO T w r π v o → RepO T w' r' (n :: π) v o
  | _, _, _, .d h => .d (h.mono k.g k.f)
  | _, _, _, .lst a b c => .lst (k.l _ _ a).1 ((k.l _ _ a).2 _ b) (c.under k)
  | _, _, _, .dic a b c => .dic (k.l _ _ a).1 ((k.l _ _ a).2 _ b) (c.under k)
  | _, _, _, .ins a t b c => .ins (k.l _ _ a).1 t ((k.l _ _ a).2 _ b) (c.under k)
theorem RepOs.under {w w' : Wd} {r r' : Root} {n : Nat} (k : Under w w' r r' n) : ∀ {π : List Nat} {j : Nat} {v : List V} {o : List Py.O}, RepOs T w r π j v o → RepOs T w' r' (n :: π) j v o
  | _, _, _, _, .nil => .nil
  | _, _, _, _, .cons a b => .cons (a.under k) (b.under k)
theorem RepOk.under {w w' : Wd} {r r' : Root} {n : Nat} (k : Under w w' r r' n) : ∀ {π : List Nat} {j : Nat} {v : List (Key × V)} {o : List (Py.D × Py.O)}, RepOk T w r π j v o → RepOk T w' r' (n :: π) j v o
  | _, _, _, _, .nil => .nil
  | _, _, _, _, .cons a b => .cons (a.under k) (b.under k)
theorem RepOf.under {w w' : Wd} {r r' : Root} {n : Nat} (k : Under w w' r r' n) : ∀ {π : List Nat} {j : Nat} {v : List (Str × V)} {o : List (Nat × Py.O)}, RepOf T w r π j v o → RepOf T w' r' (n :: π) j v o
  | _, _, _, _, .nil => .nil
  | _, _, _, _, .cons a b => .cons (a.under k) (b.under k)
end
section
variable {c : Py.Cx} {X : Cx}
/-- pairs of a display -/
inductive SimKV (T : Tb) (c : Py.Cx) (X : Cx) : List (Option Expr) → List Expr → List Py.E → Prop
  | nil : SimKV T c X [] [] []
  | cons {k v : Expr} {ks : List (Option Expr)} {vs : List Expr} {K V : Py.E} {KVs : List Py.E} : SimE T c X k K → SimE T c X v V → SimKV T c X ks vs KVs → SimKV T c X (some k :: ks) (v :: vs) (K :: V :: KVs)
def wPairs (X : Cx) : List (Option Expr) → List Expr → List (TE × TE)
  | some k :: ks, v :: vs => (WE X k, WE X v) :: wPairs X ks vs
  | _, _ => []
theorem SimKV.pps {pos : Pos} : ∀ {ks : List (Option Expr)} {vs : List Expr} {KVs : List Py.E}, SimKV T c X ks vs KVs → PPs X pos ks vs (wPairs X ks vs)
  | _, _, _, .nil => pps_nil
  | _, _, _, .cons _ _ r => pps_cons pe_self pe_self r.pps
theorem SimKV.all : ∀ {ks : List (Option Expr)} {vs : List Expr} {KVs : List Py.E}, SimKV T c X ks vs KVs → ks.all (·.isSome) = true ∧ ks.length = vs.length
  | _, _, _, .nil => ⟨rfl, rfl⟩
  | _, _, _, .cons _ _ r => by
    obtain ⟨h1, h2⟩ := r.all
    exact ⟨by rw [List.all_cons, h1] <;> rfl, by rw [List.length_cons, List.length_cons, h2]⟩
/-- the keys of the pairs, as they stand in the heap -/
def KeysAre : List V → List (Py.D × Py.O) → Prop
  | [], [] => True
  | u :: us, (k, _) :: l => (∃ key, u = kV key ∧ k = kD key) ∧ KeysAre us l
  | _, _ => False
theorem SimKV.run : ∀ {ks : List (Option Expr)} {vs : List Expr} {KVs : List Py.E}, SimKV T c X ks vs KVs → ∀ {w : Wd} {σ : L2.St} {s : Py.St} {l : List (Py.D × Py.O)} {s' : Py.St}, RS T w σ s → Py.evKs c KVs s = some (l, s') → (∀ p ∈ l, Py.keyOf p.1 = true) →
    ∀ Q : List (V × V) → Hp → Prop, (∀ ps w', Stp w w' → RS T w' σ s' → KeysAre (ps.map (·.1)) l → ResL T w w' (ps.map (·.2)) (l.map (·.2)) → Q ps w'.H) → tPairs (wPairs X ks vs) σ w.H Q
  | _, _, _, .nil, w, σ, s, l, s', rs, ev, hk, Q, q => by
    simp only [Py.evKs, Option.some.injEq, Prod.mk.injEq] at ev
    obtain ⟨rfl, rfl⟩ := ev
    exact q [] w (Stp.refl _) rs trivial ResL.nil
  | _, _, _, @SimKV.cons _ _ _ k v ks vs K V KVs h1 h2 r, w, σ, s, l, s', rs, ev, hk, Q, q => by
    rw [Py.evKs] at ev
    split at ev
    · rename_i kd s1 e1
      split at ev
      · rename_i o s2 e2
        split at ev
        · rename_i l3 s3 e3
          simp only [Option.some.injEq, Prod.mk.injEq] at ev
          obtain ⟨rfl, rfl⟩ := ev
          refine h1 false w σ s _ s1 rs e1 _ fun u w1 st1 rs1 q1 p1 => ?_
          refine h2 false w1 σ s1 o s2 rs1 e2 _ fun y w2 st2 rs2 q2 p2 => ?_
          obtain ⟨key, hkd, hu⟩ := p1.res.of_d.key (hk _ List.mem_cons_self)
          -- the value, owned or frozen
          have fin : ∀ (w2' : Wd) (o' : Py.O), w2'.H = w2.H → Stp w1 w2' → RS T w2' σ s2 → Res T w1 w2' y o' → (if V.keeps = true then o else .d o.toD) = o' → tPairs (wPairs X ks vs) σ w2.H (fun ps H3 => Q ((u, y) :: ps) H3) := by
            intro w2' o' hH st2' rs2' r2 ho
            rw [← hH]
            refine SimKV.run r rs2' e3 (fun p hp => hk p (List.mem_cons_of_mem _ hp)) _ fun ps w3 st3 rs3 k3 r3 => ?_
            refine q ((u, y) :: ps) w3 ((st1.trans st2').trans st3) rs3 ⟨⟨key, hu, hkd⟩, k3⟩ ?_
            rw [List.map_cons, List.map_cons]
            show ResL T w w3 (y :: ps.map (·.2)) ((if V.keeps = true then o else .d o.toD) :: l3.map (·.2))
            rw [ho]
            exact ResL.cons (r2.from st1) (st1.trans st2') st3 r3
          cases hkp : V.keeps with
          | true => exact fin w2 o rfl st2 rs2 p2.res (by rw [hkp, if_pos rfl])
          | false =>
            obtain ⟨w3, h3, st3, rs3, r3, _⟩ := p2.res.toD st2 rs2
            exact fin w3 (.d o.toD) h3 st3 rs3 (Res.d r3) (by rw [hkp, if_neg Bool.false_ne_true])
        · cases ev
      · cases ev
    · cases ev
theorem keysOk_all : ∀ {l : List (Py.D × Py.O)}, Py.keysOk l = true → (∀ p ∈ l, Py.keyOf p.1 = true) ∧ l.length ≤ 15
  | [], _ => ⟨fun _ h => by simp at h, Nat.zero_le _⟩
  | (k, x) :: r, h => by
    rw [Py.keysOk, Bool.and_eq_true, Bool.and_eq_true, Bool.and_eq_true, decide_eq_true_eq] at h
    obtain ⟨⟨⟨h1, h2⟩, h3⟩, h4⟩ := h
    refine ⟨fun p hp => ?_, by rw [List.length_cons]; omega⟩
    rcases List.mem_cons.mp hp with e | e
    · rw [e]; exact h1
    · exact (keysOk_all h3).1 p e
/-- the pairs as a heap has them -/
theorem keys_kvs : ∀ {ps : List (V × V)} {l : List (Py.D × Py.O)}, KeysAre (ps.map (·.1)) l → ∃ kvs : List (Key × V), ps = kvs.map (fun kv => (kV kv.1, kv.2)) ∧ l.map (·.1) = kvs.map (fun kv => kD kv.1) ∧ kvs.map (·.2) = ps.map (·.2)
  | [], [], _ => ⟨[], rfl, rfl, rfl⟩
  | (u, y) :: ps, (k, o) :: l, h => by
    obtain ⟨⟨key, h1, h2⟩, h3⟩ := h
    obtain ⟨kvs, e1, e2, e3⟩ := keys_kvs h3
    refine ⟨(key, y) :: kvs, ?_, ?_, ?_⟩
    · rw [List.map_cons, ← e1]
      rw [show u = kV key from h1]
    · rw [List.map_cons, List.map_cons, e2]
      rw [show _ = kD key from h2]
    · rw [List.map_cons, List.map_cons, e3]
  | [], _ :: _, h => False.elim h
  | _ :: _, [], h => False.elim h
theorem putK_new {kvs : List (Key × V)} {k : Key} {v : V} (h : (kvs.any fun kv => decide (kv.1 = k)) = false) : putK kvs k v = kvs ++ [(k, v)] := by
  unfold putK
  rw [h, if_neg Bool.false_ne_true]
theorem mergeK_nodup : ∀ {more kvs : List (Key × V)} {l : List (Py.D × Py.O)}, l.map (·.1) = more.map (fun kv => kD kv.1) → Py.keysOk l = true → (∀ kv ∈ kvs, ∀ m ∈ more, kv.1 ≠ m.1) → mergeK kvs more = kvs ++ more
  | [], kvs, _, _, _, _ => (List.append_nil kvs).symm
  | (k, v) :: more, kvs, l, e, h, hd => by
    cases l with
    | nil => cases e
    | cons p l =>
      obtain ⟨d, o⟩ := p
      rw [List.map_cons, List.map_cons] at e
      obtain ⟨e1, e2⟩ := List.cons.inj e
      simp only at e1
      subst e1
      rw [Py.keysOk, Bool.and_eq_true, Bool.and_eq_true, Bool.and_eq_true] at h
      obtain ⟨⟨⟨h1, h2⟩, h3⟩, h4⟩ := h
      have hne : ∀ m ∈ more, k ≠ m.1 := fun m hm z => by
        have : kD m.1 ∈ l.map (·.1) := by rw [e2]; exact List.mem_map.mpr ⟨m, hm, rfl⟩
        obtain ⟨p, hp, hq⟩ := List.mem_map.mp this
        rw [Bool.not_eq_true'] at h2
        have := List.any_eq_false.mp h2 p hp
        rw [hq, kD_eqv, z] at this
        simp at this
      show mergeK (putK kvs k v) more = _
      rw [putK_new]
      · rw [mergeK_nodup e2 h3]
        · rw [List.append_assoc] <;> rfl
        · intro kv hkv m hm
          rcases List.mem_append.mp hkv with q | q
          · exact hd kv q m (List.mem_cons_of_mem _ hm)
          · rw [List.mem_singleton.mp q]
            exact hne m hm
      · refine List.any_eq_false.mpr fun kv hkv => ?_
        have := hd kv hkv (k, v) List.mem_cons_self
        simpa using this
theorem RepOk.of {w : Wd} {r : Root} {π : List Nat} : ∀ {kvs : List (Key × V)} {l : List (Py.D × Py.O)} {j : Nat}, l.map (·.1) = kvs.map (fun kv => kD kv.1) → (∀ (n : Nat) (v : V) (o : Py.O), (kvs.map (·.2))[n]? = some v → (l.map (·.2))[n]? = some o → RepO T w r (π ++ [j + n]) v o) → RepOk T w r π j kvs l
  | [], [], _, _, _ => .nil
  | (k, v) :: kvs, (d, o) :: l, j, e, h => by
    rw [List.map_cons, List.map_cons] at e
    obtain ⟨e1, e2⟩ := List.cons.inj e
    simp only at e1
    subst e1
    refine .cons (h 0 v o rfl rfl) (RepOk.of e2 fun n v' o' hv ho => ?_)
    have := h (n + 1) v' o' (by simpa using hv) (by simpa using ho)
    rw [show j + (n + 1) = j + 1 + n by omega] at this
    exact this
  | [], _ :: _, _, e, _ => by simp at e
  | _ :: _, [], _, e, _ => by simp at e
theorem sim_dict {ks : List (Option Expr)} {vs : List Expr} {KVs : List Py.E} {pos : Pos} (h : SimKV T c X ks vs KVs) (h0 : ks ≠ []) (h15 : ks.length ≤ 15) : SimE T c X (.Dict ks vs pos) (.dict KVs) := by
  intro m w σ s o s' rs ev Q q
  simp only [Py.ev] at ev
  split at ev
  · rename_i l s1 e1
    split at ev
    · rename_i hk
      simp only [Option.some.injEq, Prod.mk.injEq] at ev
      obtain ⟨rfl, rfl⟩ := ev
      obtain ⟨k1, k2⟩ := keysOk_all hk
      obtain ⟨a1, a2⟩ := h.all
      refine WE.of (pe_disp h.pps a1 a2 h0 h15) ?_
      intro p hp
      obtain ⟨st1, rs1⟩ := rs.alloc hp (.dK [])
      refine h.run rs1 e1 k1 _ fun ps w2 st2 rs2 kk r2 => ?_
      have hpl : w.lab p = none := by
        cases z : w.lab p with
        | none => rfl
        | some r => exact absurd hp (rs.lg p r z).2
      have hpg : w.G p = none := by
        cases z : w.G p with
        | none => rfl
        | some u => rw [rs.gh p u z] at hp; cases hp
      obtain ⟨b1, b2, b3⟩ := st2.h p (.dK []) upd_same hpl
      have b3 : w2.G p = none := b3.trans hpg
      refine ⟨b1, ?_⟩
      obtain ⟨kvs, c1, c2, c3⟩ := keys_kvs kk
      have hlen : kvs.length = l.length := by
        have := congrArg List.length c2
        rw [List.length_map, List.length_map] at this
        exact this.symm
      refine ⟨kvs, c1, by rw [hlen]; exact k2, ?_⟩
      rw [mergeK_nodup c2 hk (fun kv hkv => by simp at hkv), List.nil_append]
      obtain ⟨hl, lb, al, rl⟩ := r2
      have st : Stp w { w2 with H := upd w2.H p (.dK kvs) } := (st1.trans st2).updN hp
      refine q (.ref p) { w2 with H := upd w2.H p (.dK kvs) } st (rs2.updH b2 b3) (fun qq => by simp only [Py.E.quiet] at qq; cases qq) (PO.of ?_)
      have hpn : ∀ x, lb p = some x → False := fun x e => by
        rcases (al p x e).2.2.2 with z | z
        · have z : upd w.H p (.dK []) p = none := z
          rw [upd_same] at z
          cases z
        · exact z hpl
      refine ⟨fun a => if a = p then some (.tmp, []) else (lb a).map fun x => (.tmp, x.1 :: x.2), fun a x e => ?_, .dic (by simp) upd_same (RepOk.of (π := []) c2 fun n v o' hv ho => ?_)⟩
      · replace e : (if a = p then some (Root.tmp, ([] : List Nat)) else (lb a).map fun x => (Root.tmp, x.1 :: x.2)) = some x := e
        by_cases z : a = p
        · rw [if_pos z] at e
          cases e
          subst z
          exact ⟨rfl, b2, b3, (by show upd w2.H a _ a ≠ none; rw [upd_same]; exact fun z => nomatch z), .inl hp⟩
        · rw [if_neg z] at e
          cases hy : lb a with
          | none => rw [hy] at e; cases e
          | some y =>
            rw [hy] at e
            cases e
            obtain ⟨d1, d2, d3, d4⟩ := al a y hy
            refine ⟨rfl, d1, d2, (by show upd w2.H p _ a ≠ none; rw [upd_ne z]; exact d3), ?_⟩
            rcases d4 with d4 | d4
            · left
              have d4 : upd w.H p (.dK []) a = none := d4
              rw [upd_ne z] at d4
              exact d4
            · exact .inr d4
      · rw [Nat.zero_add, List.nil_append]
        rw [c3] at hv
        refine RepO.under (r := .slot n) (w := { w2 with lab := labJ lb }) (w' := { G := w2.G, φ := w2.φ, H := upd w2.H p (.dK kvs), lab := fun a => if a = p then some (Root.tmp, []) else Option.map (fun x => (Root.tmp, x.fst :: x.snd)) (lb a) }) ⟨GLe.refl _, PLe.refl _, fun a π e => ?_⟩ (rl n v o' hv ho)
        obtain ⟨j, f1, f2⟩ := labJ_some e
        cases f2
        have hne : a ≠ p := fun z => hpn _ (by rw [← z]; exact f1)
        refine ⟨?_, fun u hu => ?_⟩
        · show (if a = p then some (Root.tmp, ([] : List Nat)) else (lb a).map fun x => (Root.tmp, x.1 :: x.2)) = _
          rw [if_neg hne, f1]
          rfl
        · show upd w2.H p _ a = some u
          rw [upd_ne hne]
          exact hu
    · cases ev
  · cases ev
end
end PyS
end

section
set_option Elab.async false
set_option linter.all false
set_option maxRecDepth 100000
set_option maxHeartbeats 2000000
/-! ZE: what is left of the expressions. -/
namespace PyS
open PySem L2
variable {T : Tb}
section
variable {c : Py.Cx} {X : Cx}
/-- name i gives its object away -/
theorem sim_mv {e : Expr} {i : Nat} (p : PE X e (tVar i)) : SimE T c X e (.mv i) := by
  intro m w σ s o s' rs ev Q q
  simp only [Py.ev] at ev
  split at ev
  · rename_i u he
    simp only [Option.some.injEq, Prod.mk.injEq] at ev
    obtain ⟨rfl, rfl⟩ := ev
    obtain ⟨v, e1, e2⟩ := rs.env i _ he
    refine WE.of p ⟨v, e1, ?_⟩
    have st : Stp w { w with lab := dropL (.slot i) w.lab } := ⟨GLe.refl _, PLe.refl _, fun a u h l => ⟨h, dropL_none l, rfl⟩, fun _ h => h⟩
    have mv : ∀ r', r' ≠ Root.slot i → Moves w { w with lab := dropL (.slot i) w.lab } r' r' := fun r' hr => ⟨GLe.refl _, PLe.refl _, fun a π q => ⟨(dropL_ne fun π' z => by rw [q] at z; cases z; exact hr rfl).trans q, fun _ z => z⟩⟩
    have rs' : RS T { w with lab := dropL (.slot i) w.lab } σ { s with env := s.env.set i none } := by
      refine ⟨⟨rs.gh, fun a r z => rs.lg a r (dropL_some z).1⟩, fun j y hj => ?_, fun n y hn => ?_, rs.len, by rw [← rs.el]; exact List.length_set⟩
      · by_cases hji : j = i
        · subst hji
          have hlt : j < s.env.length := (List.getElem?_eq_some_iff.mp he).1
          rw [show (s.env.set j none)[j]? = _ from List.getElem?_set_self hlt] at hj
          cases hj
        · rw [show (s.env.set i none)[j]? = s.env[j]? from List.getElem?_set_ne (Ne.symm hji)] at hj
          obtain ⟨v', k1, k2⟩ := rs.env j y hj
          exact ⟨v', k1, k2.move (mv _ fun z => hji (Root.slot.inj z))⟩
      · obtain ⟨v', k1, k2⟩ := rs.sto n y hn
        exact ⟨v', k1, k2.move (mv (.cell n) fun z => nomatch z)⟩
    refine q v { w with lab := dropL (.slot i) w.lab } st rs' (fun qq => by simp only [Py.E.quiet] at qq; cases qq) (PO.of ?_)
    let l : Lab := fun a => match w.lab a with
      | some (r, π) => if r = Root.slot i then some (.tmp, π) else none
      | none => none
    have l1 : ∀ {a π}, w.lab a = some (.slot i, π) → l a = some (.tmp, π) := fun {a π} z => by
      show (match w.lab a with | some (r, π) => if r = Root.slot i then some (Root.tmp, π) else none | none => none) = _
      rw [z]
      exact if_pos rfl
    refine ⟨l, fun a x z => ?_, RepO.move (w := w) (w' := { w with lab := l }) ⟨GLe.refl _, PLe.refl _, fun a π q => ⟨l1 q, fun _ z => z⟩⟩ e2⟩
    have z : (match w.lab a with | some (r, π) => if r = Root.slot i then some (Root.tmp, π) else none | none => none) = some x := z
    split at z
    · rename_i r π hl
      split at z
      · rename_i hr
        subst hr
        cases z
        exact ⟨rfl, dropL_at hl, (rs.lg a _ hl).1, (rs.lg a _ hl).2, .inr (by rw [hl]; exact fun z => nomatch z)⟩
      · cases z
    · cases z
  · cases ev
theorem sim_keep {e : Expr} {E : Py.E} (h : SimE T c X e E) : SimE T c X e (.keep E) := by
  intro m w σ s o s' rs ev Q q
  simp only [Py.ev] at ev
  exact h false w σ s o s' rs ev Q fun v w1 st1 rs1 q1 p1 => q v w1 st1 rs1 (fun qq => by simp only [Py.E.quiet] at qq; cases qq) (PO.of p1.res)
theorem sim_dict0 {pos : Pos} : SimE T c X (.Dict [] [] pos) (.dict []) := by
  intro m w σ s o s' rs ev Q q
  simp only [Py.ev, Py.evKs, Py.keysOk, if_true, Option.some.injEq, Prod.mk.injEq] at ev
  obtain ⟨rfl, rfl⟩ := ev
  refine WE.of pe_dnewK fun p hp => ?_
  obtain ⟨st, rs'⟩ := rs.alloc hp (.dK [])
  refine q (.ref p) _ st rs' (fun qq => by simp only [Py.E.quiet] at qq; cases qq) (PO.of ⟨fun a => if a = p then some (.tmp, []) else none, fun a x e => ?_, .dic (by simp) upd_same .nil⟩)
  replace e : (if a = p then some (Root.tmp, ([] : List Nat)) else none) = some x := e
  by_cases z : a = p
  · rw [if_pos z] at e
    cases e
    subst z
    refine ⟨rfl, ?_, ?_, (by show upd w.H a _ a ≠ none; rw [upd_same]; exact fun z => nomatch z), .inl hp⟩
    · cases z : w.lab a with
      | none => rfl
      | some r => exact absurd hp (rs.lg a r z).2
    · cases z : w.G a with
      | none => rfl
      | some u => rw [rs.gh a u z] at hp; cases hp
  · rw [if_neg z] at e
    cases e
theorem pt_ife {t a b : Expr} {pos : Pos} {tt ta tb : TT} (ht : PT X t tt) (ha : PT X a ta) (hb : PT X b tb) : PT X (.IfExp t a b pos) (fun σ H Q => tt σ H fun z H1 => if z = true then ta σ H1 Q else tb σ H1 Q) := by
  refine ⟨fun pins s σ H Q I h => ?_⟩
  show wpAny (model X.prog X.w) X.A (isTrue t X.env (eval t X.env) >>= fun z => if z = true then isTrue a X.env (eval a X.env) else isTrue b X.env (eval b X.env)) _ _ s
  refine wpAny_bind (thn (ht.run pins s σ H _ I h) fun z s1 ⟨H1, I1, q1⟩ => ?_)
  cases z with
  | true =>
    rw [if_pos rfl] at q1 ⊢
    exact ha.run pins s1 σ H1 Q I1 q1
  | false =>
    rw [if_neg Bool.false_ne_true] at q1 ⊢
    exact hb.run pins s1 σ H1 Q I1 q1
theorem simT_ife {t a b : Expr} {C A B : Py.E} {pos : Pos} (ht : SimT T c X t C) (ha : SimT T c X a A) (hb : SimT T c X b B) : SimT T c X (.IfExp t a b pos) (.ife C A B) := by
  intro w σ s z s' rs ev Q q
  simp only [Py.ev] at ev
  refine WT.of (pt_ife pt_self pt_self pt_self) ?_
  split at ev
  · rename_i s1 e1
    refine ht w σ s _ _ rs e1 _ fun w1 st1 rs1 q1 => ?_
    rw [if_pos rfl]
    exact ha w1 σ s1 _ _ rs1 ev _ fun w2 st2 rs2 q2 => q w2 (st1.trans st2) rs2 (fun qq => by simp only [Py.E.quiet] at qq; cases qq)
  · rename_i s1 e1
    refine ht w σ s _ _ rs e1 _ fun w1 st1 rs1 q1 => ?_
    rw [if_neg Bool.false_ne_true]
    exact hb w1 σ s1 _ _ rs1 ev _ fun w2 st2 rs2 q2 => q w2 (st1.trans st2) rs2 (fun qq => by simp only [Py.E.quiet] at qq; cases qq)
  · cases ev
/-! ### what shapes there are -/
theorem stars_no {xs : List Expr} (h : xs.all notStar = true) (env : Env) (pos : Pos) : (backTo pos (starEach xs env)).any (·.1) = false := by
  induction xs with
  | nil => rfl
  | cons x xs ih =>
    rw [List.all_cons, Bool.and_eq_true] at h
    rw [starEach_not h.1]
    exact ih h.2
theorem kw_all {kws : List Keyword} {ks : List Str} (h : kws.map (·.arg) = ks.map some) (env : Env) (pos : Pos) : (backToKw pos (keywordEach kws env)).all (·.1.isSome) = true ∧ (backToKw pos (keywordEach kws env)).filterMap (·.1) = ks ∧ (backToKw pos (keywordEach kws env)).any (·.1.isNone) = false := by
  induction kws generalizing ks with
  | nil =>
    cases ks with
    | nil => exact ⟨rfl, rfl, rfl⟩
    | cons _ _ => cases h
  | cons kw kws ih =>
    cases ks with
    | nil => cases h
    | cons k ks =>
      obtain ⟨a, v, p⟩ := kw
      rw [List.map_cons, List.map_cons] at h
      obtain ⟨h1, h2⟩ := List.cons.inj h
      obtain ⟨i1, i2, i3⟩ := ih h2
      have h1 : a = some k := h1
      subst h1
      refine ⟨i1, ?_, i3⟩
      show k :: (backToKw pos (keywordEach kws env)).filterMap (·.1) = k :: ks
      rw [i2]
theorem attrB {x : Expr} (h : (match x with | .Call _ _ _ _ => false | _ => true) = true) (f : Str) (env : Env) (w : Sem Value) : attributeBase x f env w = w := by
  cases x <;> first | rfl | cases h
theorem foldB {x : Expr} (h : notSet x = true) (env : Env) (v : Value) : foldedSetIterable x env v = pure v := by
  cases x <;> first | rfl | cases h
theorem isTrueB {x : Expr} (h : (match x with | .BoolOp _ _ _ | .UnaryOp .Not _ _ | .Compare _ _ _ _ | .IfExp _ _ _ _ => false | _ => true) = true) (env : Env) (whole : Sem Value) : isTrue x env whole = (do let v ← whole; standAt x.pos; holding [v] (truthy v)) := by
  cases x with
  | UnaryOp op y p => cases op <;> first | rfl | cases h
  | BoolOp _ _ _ => cases h
  | Compare _ _ _ _ => cases h
  | IfExp _ _ _ _ => cases h
  | _ => rfl
theorem asgB {k : Expr} (h : notSlice k = true) {x : Str} {p sp : Pos} (env : Env) (v : Value) : assign (.Subscript (.Name x p) k sp) env v = (do
      let ov ← holding [v] (eval (.Name x p) env)
      let iv ← holding [v, ov] (eval k env)
      standAt sp
      holding [v, ov, iv] (setItem ov iv v)
      release [v, ov, iv] []) := by
  cases k <;> first | rfl | cases h
end
end PyS
end

section
set_option Elab.async false
set_option linter.all false
set_option maxRecDepth 100000
set_option maxHeartbeats 4000000
/-! ZF: a text checked against a def's code. -/
namespace PyS
open PySem L2
/-- a block: its scope, the names that are its own, the slots -/
structure Ct where
  sc : Scope
  fq : Str → Bool
  N : List Str
section
variable (G : Gx) (ct : Ct)
def globC (y : Str) : Bool := decide (ct.sc.names.lookup y = some .globalImplicit) && !(y == ("__debug__" : Str))
def conC (d : Py.D) (x : Expr) : Bool := match x with
  | .Constant v _ _ => (match d, v with
    | .int i, .int j => decide (i = j)
    | .str s, .str z => decide (z = ⟨s.toArray⟩)
    | .bl a, .bool b => decide (a = b)
    | .non, .none => true
    | _, _ => false)
  | .Name y _ => globC ct y && (match d with
    | .cls q => decide ((y, q) ∈ G.cls)
    | .fn f => decide ((y, f) ∈ G.fns)
    | .int i => decide ((y, i) ∈ G.nums)
    | .ty n => (decide (n = "int") && decide (y = "int")) || (decide (n = "bool") && decide (y = "bool")) || (decide (n = "str") && decide (y = "str")) || (decide (n = "list") && decide (y = "list")) || (decide (n = "tuple") && decide (y = "tuple")) || (decide (n = "dict") && decide (y = "dict"))
    | _ => false)
  | _ => false
def bopC : Py.Bop → Operator → Bool
  | .add, .Add | .sub, .Sub | .mul, .Mult | .fdiv, .FloorDiv | .mod, .Mod | .pow, .Pow => true
  | _, _ => false
def copC : Py.Cop → CmpOp → Bool
  | .eq, .Eq | .ne, .NotEq | .lt, .Lt | .le, .LtE | .gt, .Gt | .ge, .GtE | .isin, .In | .notin, .NotIn | .is, .Is | .isnot, .IsNot => true
  | _, _ => false
def biC (b : Py.Bi) (y : Str) : Bool := match b with
  | .len => decide (y = "len")
  | .abs => decide (y = "abs")
  | .int => decide (y = "int")
  | .list => decide (y = "list")
  | .tuple => decide (y = "tuple")
  | .sum => decide (y = "sum")
  | .all => decide (y = "all")
  | .any => decide (y = "any")
  | .min => decide (y = "min")
  | .max => decide (y = "max")
  | .isinst => decide (y = "isinstance")
  | _ => false
def notCall : Expr → Bool
  | .Call _ _ _ _ => false
  | _ => true
/-- arguments, stars among them -/
def starM (f : Py.E → Expr → Bool) (e : Py.E) (x : Expr) : Bool := match x with
  | .Starred y _ => (match e with
    | .star e' => f e' y
    | _ => false)
  | x => !isStarE e && f e x
def argC (f : Py.E → Expr → Bool) : List Py.E → List Expr → Bool
  | [], [] => true
  | e :: es, x :: xs => starM f e x && argC f es xs
  | _, _ => false
/-- arguments without stars -/
def all2 (f : Py.E → Expr → Bool) : List Py.E → List Expr → Bool
  | [], [] => true
  | e :: es, x :: xs => notStar x && !isStarE e && f e x && all2 f es xs
  | _, _ => false
def kvC (f : Py.E → Expr → Bool) : List Py.E → List (Option Expr) → List Expr → Bool
  | [], [], [] => true
  | k :: v :: r, some a :: ks, b :: vs => f k a && f v b && kvC f r ks vs
  | _, _, _ => false
def kwC (f : Py.E → Expr → Bool) : List Py.E → List Keyword → Bool
  | [], [] => true
  | e :: es, k :: ks => !isStarE e && f e k.value && kwC f es ks
  | _, _ => false
def optC (f : Py.E → Expr → Bool) : Option Py.E → Option Expr → Bool
  | none, none => true
  | some e, some x => f e x
  | _, _ => false
/-- the names of a target with their places -/
def ownOf : Py.Tg → Expr → List (Str × Nat)
  | .nm i, .Name x _ => [(x, i)]
  | .tup l, .Tuple es _ _ => go l es
  | _, _ => []
where go : List Py.Tg → List Expr → List (Str × Nat)
  | t :: ts, e :: es => ownOf t e ++ go ts es
  | _, _ => []
def itC (f : Py.E → Expr → Bool) (k : Option Py.Itk) (es : List Py.E) (tg iter : Expr) : Bool := match k with
  | none => (match es with
    | [e] => !isStarE e && f e iter
    | _ => false)
  | some .range => (match iter with
    | .Call (.Name y _) xs [] _ => decide (y = "range") && globC ct y && all2 f es xs && (decide (xs.length = 1) || decide (xs.length = 2))
    | _ => false)
  | some .enum => (match iter with
    | .Call (.Name y _) xs [] _ => decide (y = "enumerate") && globC ct y && all2 f es xs && decide (xs.length = 1) && (match tg with | .Tuple _ _ _ => true | _ => false)
    | _ => false)
  | some .zip => (match iter with
    | .Call (.Name y _) xs [] _ => decide (y = "zip") && globC ct y && all2 f es xs && decide (xs.length = 2)
    | _ => false)
  | _ => false
def tsC (f : Py.E → Expr → Bool) : List Py.E → List Expr → Bool
  | [], [] => true
  | [e], [x] => f e x
  | _, _ => false
/-- the block of a comprehension -/
def Ct.blk (scope : Scope) : Ct := ⟨relS scope ct.sc, fun x => scope.names.lookup x == some .cell, ct.N⟩
def popC (f : Py.E → Expr → Bool) (p : Py.E) (es : List Py.E) (x : Expr) : Bool := match x with
  | .Call (.Attribute q m ap) xs [] cp => decide (m = "pop") && (ap.endLine == cp.line) && (match p with
    | .var i => (match q with
      | .Name y _ => visC ct.sc ct.N y i && (match es, xs with
        | [], [] => true
        | [e], [a] => (match e, a with
          | .con (.int n), .Constant (.int k) _ _ => decide (n = k)
          | e, a => !Py.E.isCon e && !isStarE e && notStar a && f e a)
        | _, _ => false)
      | _ => false)
    | .idx (.var i) (.con d) => (match q with
      | .Subscript (.Name y _) (.Constant v j kp) _ => visC ct.sc ct.N y i && conC G ct d (.Constant v j kp) && (match es, xs with
        | [], [] => true
        | [.con (.int n)], [.Constant (.int k) _ _] => decide (n = k)
        | _, _ => false)
      | _ => false)
    | _ => false)
  | _ => false
end
def ckE (G : Gx) : Nat → Ct → Py.E → Expr → Bool
  | 0, _, _, _ => false
  | n + 1, ct, e, x => match e with
    | .var i => (match x with | .Name y _ => visC ct.sc ct.N y i | _ => false)
    | .mv i => (match x with | .Name y _ => visC ct.sc ct.N y i | _ => false)
    | .keep e => ckE G n ct e x
    | .con d => conC G ct d x
    | .tup es => (match x with | .Tuple xs _ _ => argC (ckE G n ct) es xs | _ => false)
    | .lst es => (match x with | .List xs _ => argC (ckE G n ct) es xs | _ => false)
    | .dict kvs => (match x with | .Dict ks vs _ => decide (ks.length ≤ 15) && kvC (ckE G n ct) kvs ks vs | _ => false)
    | .bin op a b => (match x with | .BinOp l p r _ => bopC op p && ckE G n ct a l && ckE G n ct b r | _ => false)
    | .neg a => (match x with | .UnaryOp .USub y _ => ckE G n ct a y | _ => false)
    | .not a => (match x with | .UnaryOp .Not y _ => ckE G n ct a y | _ => false)
    | .and a b => (match x with
      | .BoolOp .And [y, z] _ => ckE G n ct a y && ckE G n ct b z
      | .BoolOp .And (y :: z :: u :: r) p => ckE G n ct a y && ckE G n ct b (.BoolOp .And (z :: u :: r) p)
      | _ => false)
    | .or a b => (match x with
      | .BoolOp .Or [y, z] _ => ckE G n ct a y && ckE G n ct b z
      | .BoolOp .Or (y :: z :: u :: r) p => ckE G n ct a y && ckE G n ct b (.BoolOp .Or (z :: u :: r) p)
      | _ => false)
    | .cmp op a b => (match x with | .Compare l [p] [r] _ => copC op p && notSet r && ckE G n ct a l && ckE G n ct b r | _ => false)
    | .chain op op' a b d => (match x with | .Compare l [p, p'] [r, t] _ => copC op p && copC op' p' && notSet t && ckE G n ct a l && ckE G n ct b r && ckE G n ct d t | _ => false)
    | .ife t a b => (match x with | .IfExp y z u _ => ckE G n ct t y && ckE G n ct a z && ckE G n ct b u | _ => false)
    | .idx a i => (match x with | .Subscript y z _ => notSlice z && ckE G n ct a y && ckE G n ct i z | _ => false)
    | .slc a lo hi => (match x with | .Subscript y (.Slice l h none _) _ => ckE G n ct a y && optC (ckE G n ct) lo l && optC (ckE G n ct) hi h | _ => false)
    | .attr a f => (match x with | .Attribute y m _ => decide (m = G.nm f) && decide (f < G.na) && notCall y && ckE G n ct a y | _ => false)
    | .call f es => (match x with | .Call (.Name y _) (z :: zs) [] _ => globC ct y && decide ((y, f) ∈ G.fns) && all2 (ckE G n ct) es (z :: zs) | _ => false)
    | .calk f pm es => (match x with | .Call (.Name y _) xs kws _ => globC ct y && decide ((y, f, xs.length, kws.filterMap (·.arg), pm) ∈ G.kws) && kws.all (·.arg.isSome) && decide (es.length = xs.length + kws.length) && all2 (ckE G n ct) (es.take xs.length) xs && kwC (ckE G n ct) (es.drop xs.length) kws | _ => false)
    | .mk q es => (match x with | .Call (.Name y _) (z :: zs) [] _ => globC ct y && decide ((y, q) ∈ G.mks) && all2 (ckE G n ct) es (z :: zs) | _ => false)
    | .bi b es => (match x with | .Call (.Name y _) (z :: zs) [] _ => globC ct y && biC b y && all2 (ckE G n ct) es (z :: zs) | _ => false)
    | .pop p es => popC G ct (ckE G n ct) p es x
    | .lc t k es cs el => (match x with
      | .ListComp elt [⟨tg, iter, ifs, a⟩] scope _ => decide (a = 0) && notSet iter && itC ct (ckE G n ct) k es tg iter && blkC ct.N ct.sc scope (ownOf t tg) && decide ((ownOf t tg).map (·.2) = t.slots) && tgC (ct.blk scope).sc (ct.blk scope).fq ct.N t tg && tsC (ckE G n (ct.blk scope)) cs ifs && ckE G n (ct.blk scope) el elt
      | _ => false)
    | .stuck => true
    | _ => false
end PyS
end

section
set_option Elab.async false
set_option linter.all false
set_option maxRecDepth 100000
set_option maxHeartbeats 4000000
/-! ZG: what was checked holds: expressions. -/
namespace PyS
open PySem L2
variable {T : Tb}
/-- what is known where a def's code runs; j the calls that are left -/
structure GOk (T : Tb) (c : Py.Cx) (X : Cx) (j : Nat) (G : Gx) : Prop where
  calm : X.calm = true
  hK : T.K = X.K
  cl : Clss T
  room : Room (j + 1) X.A
  nm : T.nm = G.nm
  na : T.na = G.na
  fn : ∀ y f, (y, f) ∈ G.fns → ∃ a, X.mg y = some (.ref a) ∧ FnF T c X j f a ∧ T.fn f = some a
  kw : ∀ y f n ks pm, (y, f, n, ks, pm) ∈ G.kws → ∃ a, X.mg y = some (.ref a) ∧ FnK T c X j f a n ks pm
  nums : ∀ y i, (y, i) ∈ G.nums → ∃ t, X.mg y = some (.int i t)
  cls : ∀ y q, (y, q) ∈ G.cls → ∃ C, X.mg y = some (.ref C) ∧ T.cls q = some C
  mks : ∀ y q, (y, q) ∈ G.mks → ∃ C, X.mg y = some (.ref C) ∧ MkF T c X j q C
  blt : ∀ y ∈ blts, X.mg y = none
/-- the context is of that block -/
structure COk (X : Cx) (ct : Ct) : Prop where
  sc : X.env.scope = ct.sc
  fq : X.fn = ct.fq
  N : X.N = ct.N
  nd : ct.N.Nodup
theorem GOk.hu {c : Py.Cx} {X : Cx} {j : Nat} {G : Gx} (g : GOk T c X j G) : X.A.units + 64 < cLine := g.room.units
theorem GOk.blk {c : Py.Cx} {X : Cx} {j : Nat} {G : Gx} (g : GOk T c X j G) (s : Shared) (H : Hp) (scope : Scope) (ce : Env) (fp : List Addr) : GOk T c (X.blk s H scope ce fp) j G :=
  ⟨g.calm, g.hK, g.cl, g.room, g.nm, g.na, fun y f h => by
    obtain ⟨a, h1, h2, h3⟩ := g.fn y f h
    exact ⟨a, h1, ⟨h2.ex, h2.kp⟩, h3⟩, fun y f n ks pm h => by
    obtain ⟨a, h1, h2⟩ := g.kw y f n ks pm h
    exact ⟨a, h1, ⟨h2.ex, h2.kp⟩⟩, g.nums, g.cls, fun y q h => by
    obtain ⟨C, h1, h2⟩ := g.mks y q h
    exact ⟨C, h1, ⟨h2.ex, h2.cls⟩⟩, g.blt⟩
theorem COk.blk {X : Cx} {ct : Ct} (h : COk X ct) (s : Shared) (H : Hp) (scope : Scope) (cl : List (Str × Addr)) (C : Addr) (fp : List Addr) : COk (X.blk s H scope (compEnvC scope cl C X.env) fp) (ct.blk scope) := by
  refine ⟨?_, rfl, h.N, h.nd⟩
  show relabel scope X.env = relS scope ct.sc
  rw [← h.sc]
  rfl
section
variable {c : Py.Cx} {X : Cx} {G : Gx} {ct : Ct} {j : Nat}
/-- both readings of an expression -/
def Sim2 (T : Tb) (c : Py.Cx) (X : Cx) (x : Expr) (e : Py.E) : Prop := SimE T c X x e ∧ SimT T c X x e
theorem globC_ok (hc : COk X ct) {y : Str} (h : globC ct y = true) : Gl X y ∧ (y == ("__debug__" : Str)) = false := by
  unfold globC at h
  rw [Bool.and_eq_true, decide_eq_true_eq, Bool.not_eq_true'] at h
  refine ⟨?_, h.2⟩
  show X.env.scope.names.lookup y = _
  rw [hc.sc]
  exact h.1
theorem vis_ok (hc : COk X ct) {y : Str} {i : Nat} {p : Pos} (h : visC ct.sc ct.N y i = true) : PE X (.Name y p) (tVar i) := by
  rw [← hc.sc, ← hc.N] at h
  exact visC_pe h
theorem sim2_val {x : Expr} {e : Py.E} (hx : (match x with | .BoolOp _ _ _ | .UnaryOp .Not _ _ | .Compare _ _ _ _ | .IfExp _ _ _ _ => false | _ => true) = true) (h : SimE T c X x e) : Sim2 T c X x e := ⟨h, simT_val (isTrueB hx X.env) h⟩
theorem sim_ty {y : Str} {n : String} {p : Pos} (g : GOk T c X j G) (hg : Gl X y) (hb : y ∈ blts) (hv : bootBuiltins y = some (.type n)) (hn : y ≠ "__name__") (hd : (y == ("__debug__" : Str)) = false) : SimE T c X (.Name y p) (.con (.ty n)) :=
  sim_con (v := .ty n) (pe_bltn hg (g.blt y hb) hv rfl hn hd) fun _ _ => .ty n
theorem con_ok (g : GOk T c X j G) (hc : COk X ct) {d : Py.D} {x : Expr} (h : conC G ct d x = true) : SimE T c X x (.con d) := by
  unfold conC at h
  split at h
  · rename_i v k p
    split at h
    · rename_i i i'
      have := of_decide_eq_true h
      subst this
      exact sim_con pe_int fun _ _ => .int _
    · rename_i s z
      have := of_decide_eq_true h
      subst this
      exact sim_con pe_str fun _ _ => .str _
    · rename_i a b
      have := of_decide_eq_true h
      subst this
      exact sim_con pe_bl fun _ _ => .bl _
    · exact sim_con pe_non fun _ _ => .non
    · cases h
  · rename_i y p
    rw [Bool.and_eq_true] at h
    obtain ⟨hg, hd⟩ := globC_ok hc h.1
    have h2 := h.2
    split at h2
    · obtain ⟨C, h3, h4⟩ := g.cls _ _ (of_decide_eq_true h2)
      exact sim_con (v := .ref C) (pe_glob hg h3 rfl hd) fun _ _ => .cls h4
    · obtain ⟨a, h3, _, h4⟩ := g.fn _ _ (of_decide_eq_true h2)
      exact sim_con (v := .ref a) (pe_glob hg h3 rfl hd) fun _ _ => .fn h4
    · obtain ⟨t, h3⟩ := g.nums _ _ (of_decide_eq_true h2)
      exact sim_con (v := .int _) (pe_glob hg h3 ⟨t, rfl⟩ hd) fun _ _ => .int _
    · simp only [Bool.or_eq_true, Bool.and_eq_true, decide_eq_true_eq] at h2
      rcases h2 with ((((h2 | h2) | h2) | h2) | h2) | h2
      all_goals
        obtain ⟨rfl, rfl⟩ := h2
        exact sim_ty g hg (by decide +kernel) (by decide +kernel) (by decide +kernel) hd
    · cases h2
  · cases h
theorem bop_ok (g : GOk T c X j G) {op : Py.Bop} {p : Operator} (h : bopC op p = true) {a b : Expr} {A B : Py.E} {pos : Pos} (ha : SimE T c X a A) (hb : SimE T c X b B) : SimE T c X (.BinOp a p b pos) (.bin op A B) := by
  unfold bopC at h
  have hK := g.hK
  split at h
  · exact sim_bin (by rw [hK]; exact op_addA) os_add ha hb
  · exact sim_bin op_subA os_sub ha hb
  · exact sim_bin (by rw [hK]; exact op_mulA) os_mul ha hb
  · exact sim_bin op_fdivA os_fdiv ha hb
  · exact sim_bin op_modA os_mod ha hb
  · exact sim_bin op_powA os_pow ha hb
  · cases h
/-- an operator of comparison -/
theorem cop_ok (g : GOk T c X j G) {op : Py.Cop} {p : CmpOp} (h : copC op p = true) : ∃ r : R2, OpR X (compareOp p) r ∧ OpSim T (copO op) r := by
  have hK := g.hK
  have hu := g.hu
  unfold copC at h
  split at h
  · exact ⟨_, by rw [hK]; exact op_eqD hu, os_eq⟩
  · exact ⟨_, by rw [hK]; exact op_neD hu, os_ne⟩
  · exact ⟨_, op_lt, os_int ic_lt⟩
  · exact ⟨_, op_le, os_int ic_le⟩
  · exact ⟨_, op_gt, os_int ic_gt⟩
  · exact ⟨_, op_ge, os_int ic_ge⟩
  · exact ⟨_, by rw [hK]; exact op_inA (by omega), os_in⟩
  · exact ⟨_, by rw [hK]; exact op_notInA (by omega), os_notin⟩
  · exact ⟨_, op_isA, os_is⟩
  · exact ⟨_, op_isNotA, os_isnot⟩
  · cases h
theorem args_ok (hK : T.K = X.K) {f : Py.E → Expr → Bool} (hf : ∀ e x, f e x = true → SimE T c X x e) : ∀ {es : List Py.E} {xs : List Expr}, argC f es xs = true → SimEs T c X xs es
  | [], [], _ => sims_nil
  | e :: es, x :: xs, h => by
    rw [argC, Bool.and_eq_true] at h
    have ih := args_ok hK hf h.2
    have h1 := h.1
    unfold starM at h1
    split at h1
    · split at h1
      · exact sims_star hK (hf _ _ h1) ih
      · cases h1
    · rename_i hx
      rw [Bool.and_eq_true, Bool.not_eq_true'] at h1
      refine sims_cons ?_ h1.1 (hf _ _ h1.2) ih
      cases x <;> first | rfl | exact absurd rfl (hx _ _)
  | [], _ :: _, h => by simp [argC] at h
  | _ :: _, [], h => by simp [argC] at h
theorem all2_in {f : Py.E → Expr → Bool} : ∀ {es : List Py.E} {xs : List Expr}, all2 f es xs = true → es.length = xs.length ∧ xs.all notStar = true ∧ (es.all fun E => !isStarE E) = true
  | [], [], _ => ⟨rfl, rfl, rfl⟩
  | e :: es, x :: xs, h => by
    rw [all2, Bool.and_eq_true, Bool.and_eq_true, Bool.and_eq_true] at h
    obtain ⟨h1, h2, h3⟩ := all2_in h.2
    refine ⟨by rw [List.length_cons, List.length_cons, h1], ?_, ?_⟩
    · rw [List.all_cons, h2, h.1.1.1] <;> rfl
    · rw [List.all_cons, h3, h.1.1.2] <;> rfl
  | [], _ :: _, h => by simp [all2] at h
  | _ :: _, [], h => by simp [all2] at h
theorem all2_ok {f : Py.E → Expr → Bool} (hf : ∀ e x, f e x = true → SimE T c X x e) : ∀ {es : List Py.E} {xs : List Expr}, all2 f es xs = true → SimEs T c X xs es ∧ SimVs T c X xs es ∧ SimOs T c X xs es
  | [], [], _ => ⟨sims_nil, simv_nil, simo_nil⟩
  | e :: es, x :: xs, h => by
    rw [all2, Bool.and_eq_true, Bool.and_eq_true, Bool.and_eq_true, Bool.not_eq_true'] at h
    obtain ⟨⟨⟨h1, h2⟩, h3⟩, h4⟩ := h
    obtain ⟨i1, i2, i3⟩ := all2_ok hf h4
    exact ⟨sims_cons h1 h2 (hf _ _ h3) i1, simv_cons h1 (hf _ _ h3) i2, simo_cons h1 (hf _ _ h3) i3⟩
  | [], _ :: _, h => by simp [all2] at h
  | _ :: _, [], h => by simp [all2] at h
theorem kv_ok {f : Py.E → Expr → Bool} (hf : ∀ e x, f e x = true → SimE T c X x e) : ∀ {es : List Py.E} {ks : List (Option Expr)} {vs : List Expr}, kvC f es ks vs = true → SimKV T c X ks vs es
  | [], [], [], _ => .nil
  | k :: v :: r, some a :: ks, b :: vs, h => by
    rw [kvC, Bool.and_eq_true, Bool.and_eq_true] at h
    exact .cons (hf _ _ h.1.1) (hf _ _ h.1.2) (kv_ok hf h.2)
  | [], _ :: _, _, h => by simp [kvC] at h
  | [], [], _ :: _, h => by simp [kvC] at h
  | [_], _, _, h => by simp [kvC] at h
  | _ :: _ :: _, [], _, h => by simp [kvC] at h
  | _ :: _ :: _, none :: _, _, h => by simp [kvC] at h
  | _ :: _ :: _, some _ :: _, [], h => by simp [kvC] at h
theorem kw_ok {f : Py.E → Expr → Bool} (hf : ∀ e x, f e x = true → SimE T c X x e) : ∀ {es : List Py.E} {ks : List Keyword}, kwC f es ks = true → SimKs T c X ks es ∧ (es.all fun E => !isStarE E) = true ∧ es.length = ks.length
  | [], [], _ => ⟨simk_nil, rfl, rfl⟩
  | e :: es, k :: ks, h => by
    rw [kwC, Bool.and_eq_true, Bool.and_eq_true, Bool.not_eq_true'] at h
    obtain ⟨i1, i2, i3⟩ := kw_ok hf h.2
    obtain ⟨a, v, p⟩ := k
    refine ⟨simk_cons h.1.1 (hf _ _ h.1.2) i1, ?_, by rw [List.length_cons, List.length_cons, i3]⟩
    rw [List.all_cons, h.1.1, i2] <;> rfl
  | [], _ :: _, h => by simp [kwC] at h
  | _ :: _, [], h => by simp [kwC] at h
theorem opt_ok {f : Py.E → Expr → Bool} (hf : ∀ e x, f e x = true → SimE T c X x e) {e : Option Py.E} {x : Option Expr} (h : optC f e x = true) : SimO T c X x e := by
  unfold optC at h
  split at h
  · exact simo_none
  · exact simo_some (hf _ _ h)
  · cases h
theorem it_ok (g : GOk T c X j G) (hc : COk X ct) {f : Py.E → Expr → Bool} (hf : ∀ e x, f e x = true → SimE T c X x e) {k : Option Py.Itk} {es : List Py.E} {tg iter : Expr} (ht : okTg tg) (h : itC ct f k es tg iter = true) : SimI T c X tg iter k es := by
  have hK := g.hK
  unfold itC at h
  split at h
  · split at h
    · rw [Bool.and_eq_true, Bool.not_eq_true'] at h
      exact simI_seq hK h.1 (hf _ _ h.2)
    · cases h
  · split at h
    · rename_i y p xs pos
      simp only [Bool.and_eq_true, Bool.or_eq_true, decide_eq_true_eq] at h
      obtain ⟨⟨⟨rfl, hg⟩, ha⟩, hl⟩ := h
      obtain ⟨hg, _⟩ := globC_ok hc hg
      have hm := g.blt "range" (by decide +kernel)
      obtain ⟨l1, l2, l3⟩ := all2_in ha
      have hs := (all2_ok hf ha).1
      rcases hl with hl | hl
      · match xs, es, hl, l1, l2, l3, hs with
        | [x], [e], _, _, l2, l3, hs =>
          simp only [List.all_cons, List.all_nil, Bool.and_true, Bool.not_eq_true'] at l2 l3
          exact simI_range1 hg hm l2 l3 hs
      · match xs, es, hl, l1, l2, l3, hs with
        | [x, x2], [e, e2], _, _, l2, l3, hs =>
          simp only [List.all_cons, List.all_nil, Bool.and_true, Bool.and_eq_true, Bool.not_eq_true'] at l2 l3
          exact simI_range2 hg hm l2.1 l2.2 l3.1 l3.2 hs
    · cases h
  · split at h
    · rename_i y p xs pos
      simp only [Bool.and_eq_true, decide_eq_true_eq] at h
      obtain ⟨⟨⟨⟨rfl, hg⟩, ha⟩, hl⟩, ht2⟩ := h
      obtain ⟨hg, _⟩ := globC_ok hc hg
      have hm := g.blt "enumerate" (by decide +kernel)
      obtain ⟨l1, l2, l3⟩ := all2_in ha
      have hs := (all2_ok hf ha).1
      match xs, es, hl, l1, l2, l3, hs with
      | [x], [e], _, _, l2, l3, hs =>
        simp only [List.all_cons, List.all_nil, Bool.and_true, Bool.not_eq_true'] at l2 l3
        split at ht2
        · exact simI_enum hK hg hm l2 l3 hs
        · cases ht2
    · cases h
  · split at h
    · rename_i y p xs pos
      simp only [Bool.and_eq_true, decide_eq_true_eq] at h
      obtain ⟨⟨⟨rfl, hg⟩, ha⟩, hl⟩ := h
      obtain ⟨hg, _⟩ := globC_ok hc hg
      have hm := g.blt "zip" (by decide +kernel)
      obtain ⟨l1, l2, l3⟩ := all2_in ha
      have hs := (all2_ok hf ha).1
      match xs, es, hl, l1, l2, l3, hs with
      | [x, x2], [e, e2], _, _, l2, l3, hs =>
        simp only [List.all_cons, List.all_nil, Bool.and_true, Bool.and_eq_true, Bool.not_eq_true'] at l2 l3
        exact simI_zip hK ht hg hm l2.1 l2.2 l3.1 l3.2 hs
    · cases h
  · cases h
theorem bi_ok (g : GOk T c X j G) (hc : COk X ct) {b : Py.Bi} {y : Str} (hy : biC b y = true) (hg : globC ct y = true) {z : Expr} {zs : List Expr} {es : List Py.E} {p pos : Pos} (hs : SimVs T c X (z :: zs) es) (hz : (z :: zs).all notStar = true) :
    SimE T c X (.Call (.Name y p) (z :: zs) [] pos) (.bi b es) := by
  have hK := g.hK
  have hu := g.hu
  have hca := g.calm
  obtain ⟨hg, hd⟩ := globC_ok hc hg
  rw [List.all_cons, Bool.and_eq_true] at hz
  have he := starEach_not hz.1 zs X.env
  have hpl := stars_no hz.2 X.env pos
  unfold biC at hy
  split at hy
  · have := of_decide_eq_true hy
    subst this
    exact sim_bi (E := .stuck) (pe_callB (cb_len) hg (g.blt _ (by decide +kernel)) (by decide +kernel) pa_self (by decide +kernel) hd he hpl) (by rw [← hK]; exact bs_len) hs
  · have := of_decide_eq_true hy
    subst this
    exact sim_bi (E := .stuck) (pe_callB (cb_abs) hg (g.blt _ (by decide +kernel)) (by decide +kernel) pa_self (by decide +kernel) hd he hpl) bs_abs hs
  · have := of_decide_eq_true hy
    subst this
    exact sim_bi (E := .stuck) (pe_callTy (cb_int) hg (g.blt _ (by decide +kernel)) (by decide +kernel) pa_self (by decide +kernel) hd he hpl) bs_int hs
  · have := of_decide_eq_true hy
    subst this
    exact sim_bi (E := .stuck) (pe_callTy (cb_list) hg (g.blt _ (by decide +kernel)) (by decide +kernel) pa_self (by decide +kernel) hd he hpl) (by rw [← hK]; exact bs_list) hs
  · have := of_decide_eq_true hy
    subst this
    exact sim_bi (E := .stuck) (pe_callTy (cb_tuple) hg (g.blt _ (by decide +kernel)) (by decide +kernel) pa_self (by decide +kernel) hd he hpl) (by rw [← hK]; exact bs_tuple) hs
  · have := of_decide_eq_true hy
    subst this
    exact sim_bi (E := .stuck) (pe_callB (cb_sum hca) hg (g.blt _ (by decide +kernel)) (by decide +kernel) pa_self (by decide +kernel) hd he hpl) (by rw [← hK]; exact bs_sum) hs
  · have := of_decide_eq_true hy
    subst this
    exact sim_bi (E := .stuck) (pe_callB (cb_all hca) hg (g.blt _ (by decide +kernel)) (by decide +kernel) pa_self (by decide +kernel) hd he hpl) (by rw [← hK]; exact bs_all) hs
  · have := of_decide_eq_true hy
    subst this
    exact sim_bi (E := .stuck) (pe_callB (cb_any hca) hg (g.blt _ (by decide +kernel)) (by decide +kernel) pa_self (by decide +kernel) hd he hpl) (by rw [← hK]; exact bs_any) hs
  · have := of_decide_eq_true hy
    subst this
    exact sim_bi (E := .stuck) (pe_callB (cb_min hca hu) hg (g.blt _ (by decide +kernel)) (by decide +kernel) pa_self (by decide +kernel) hd he hpl) (by rw [← hK]; exact bs_min) hs
  · have := of_decide_eq_true hy
    subst this
    exact sim_bi (E := .stuck) (pe_callB (cb_max hca hu) hg (g.blt _ (by decide +kernel)) (by decide +kernel) pa_self (by decide +kernel) hd he hpl) (by rw [← hK]; exact bs_max) hs
  · have := of_decide_eq_true hy
    subst this
    exact sim_bi (E := .stuck) (pe_callB (cb_isi) hg (g.blt _ (by decide +kernel)) (by decide +kernel) pa_self (by decide +kernel) hd he hpl) (by rw [← hK]; exact bs_isi g.cl) hs
  · cases hy
end
end PyS
end

section
set_option Elab.async false
set_option linter.all false
set_option maxRecDepth 100000
set_option maxHeartbeats 4000000
/-! ZH: what was checked holds: the main theorem for expressions. -/
namespace PyS
open PySem L2
variable {T : Tb}
section
variable {c : Py.Cx} {G : Gx} {j : Nat}
theorem tsC_ok {X : Cx} {scope : Scope} {ct : Ct} {f : Py.E → Expr → Bool} (hf : ∀ e x, f e x = true → Blk X scope fun B => Sim2 T c B x e) {es : List Py.E} {xs : List Expr} (h : tsC f es xs = true) : ∃ tt, SimTs T c X scope xs es tt := by
  unfold tsC at h
  split at h
  · exact ⟨_, .nil⟩
  · exact ⟨_, .one fun s H C cl fp => (hf _ _ h s H C cl fp).2⟩
  · cases h
theorem pop_ok {X : Cx} {ct : Ct} (g : GOk T c X j G) (hc : COk X ct) {f : Py.E → Expr → Bool} (hf : ∀ e x, f e x = true → SimE T c X x e) {p : Py.E} {es : List Py.E} {x : Expr} (h : popC G ct f p es x = true) : SimE T c X x (.pop p es) ∧ ∃ q as ks pos, x = .Call q as ks pos := by
  unfold popC at h
  split at h
  · rename_i q m ap xs cp
    simp only [Bool.and_eq_true, decide_eq_true_eq] at h
    obtain ⟨⟨rfl, hl⟩, h⟩ := h
    refine ⟨?_, _, _, _, _, rfl⟩
    split at h
    · rename_i i
      split at h
      · rename_i y yp
        rw [Bool.and_eq_true] at h
        obtain ⟨hv, h⟩ := h
        rw [← hc.sc, ← hc.N] at hv
        split at h
        · exact sim_pop0 (plc0 hv) (by rfl) hl
        · rename_i e a
          split at h
          · have := of_decide_eq_true h
            subst this
            exact sim_popC (plc0 hv) (by rfl) hl
          · simp only [Bool.and_eq_true, Bool.not_eq_true'] at h
            exact sim_pop1 hv h.1.1.1 h.1.2 h.1.1.2 hl (hf _ _ h.2)
        · cases h
      · cases h
    · rename_i i d
      split at h
      · rename_i y yp v k kp sp
        simp only [Bool.and_eq_true] at h
        obtain ⟨⟨hv, hk⟩, h⟩ := h
        rw [← hc.sc, ← hc.N] at hv
        -- the constant
        obtain ⟨kv, pk, rk⟩ : ∃ kv, PE X (.Constant v k kp) (tC kv) ∧ ∀ G φ, Rep T G φ kv d := by
          unfold conC at hk
          simp only at hk
          split at hk
          · have := of_decide_eq_true hk
            subst this
            exact ⟨_, pe_int, fun _ _ => .int _⟩
          · have := of_decide_eq_true hk
            subst this
            exact ⟨_, pe_str, fun _ _ => .str _⟩
          · have := of_decide_eq_true hk
            subst this
            exact ⟨_, pe_bl, fun _ _ => .bl _⟩
          · exact ⟨_, pe_non, fun _ _ => .non⟩
          · cases hk
        split at h
        · exact sim_pop0 (plc1 g.hu hv pk rk rfl) (by rfl) hl
        · have := of_decide_eq_true h
          subst this
          exact sim_popC (plc1 g.hu hv pk rk rfl) (by rfl) hl
        · cases h
      · cases h
    · cases h
  · cases h
theorem kws_args : ∀ {kws : List Keyword}, kws.all (·.arg.isSome) = true → kws.map (·.arg) = (kws.filterMap (·.arg)).map some
  | [], _ => rfl
  | k :: ks, h => by
    rw [List.all_cons, Bool.and_eq_true] at h
    obtain ⟨a, v, p⟩ := k
    cases a with
    | none => cases h.1
    | some a =>
      rw [List.map_cons, kws_args h.2]
      rfl
theorem ck_ok : ∀ (n : Nat) {X : Cx} {ct : Ct}, GOk T c X j G → COk X ct → ∀ (e : Py.E) (x : Expr), ckE G n ct e x = true → Sim2 T c X x e
  | 0, X, ct, g, hc, e, x, h => by cases h
  | n + 1, X, ct, g, hc, e, x, h => by
    have ih : ∀ (e : Py.E) (x : Expr), ckE G n ct e x = true → Sim2 T c X x e := ck_ok n g hc
    have ihE : ∀ (e : Py.E) (x : Expr), ckE G n ct e x = true → SimE T c X x e := fun e x h => (ih e x h).1
    have hK := g.hK
    unfold ckE at h
    cases e with
    | var i =>
      simp only at h
      split at h
      · exact sim2_val rfl (sim_var (vis_ok hc h))
      · cases h
    | mv i =>
      simp only at h
      split at h
      · exact sim2_val rfl (sim_mv (vis_ok hc h))
      · cases h
    | keep e =>
      simp only at h
      have := ih _ _ h
      exact ⟨sim_keep this.1, fun w σ s b s' rs ev Q q => by
        simp only [Py.ev] at ev
        exact this.2 w σ s b s' rs ev Q fun w' st rs' _ => q w' st rs' fun qq => by simp only [Py.E.quiet] at qq; cases qq⟩
    | con d =>
      simp only at h
      refine sim2_val ?_ (con_ok g hc h)
      unfold conC at h
      cases x <;> first | rfl | cases h
    | tup es =>
      simp only at h
      split at h
      · exact sim2_val rfl (sim_tup (args_ok hK ihE h))
      · cases h
    | lst es =>
      simp only at h
      split at h
      · exact sim2_val rfl (sim_lst (args_ok hK ihE h))
      · cases h
    | star e => cases h
    | dict kvs =>
      simp only at h
      split at h
      · rename_i ks vs pos
        rw [Bool.and_eq_true, decide_eq_true_eq] at h
        have hk := kv_ok ihE h.2
        cases hk with
        | nil => exact sim2_val rfl sim_dict0
        | cons h1 h2 h3 => exact sim2_val rfl (sim_dict (.cons h1 h2 h3) (by simp) h.1)
      · cases h
    | bin op a b =>
      simp only at h
      split at h
      · simp only [Bool.and_eq_true] at h
        exact sim2_val rfl (bop_ok g h.1.1 (ihE _ _ h.1.2) (ihE _ _ h.2))
      · cases h
    | neg a =>
      simp only at h
      split at h
      · exact sim2_val rfl (sim_neg (ihE _ _ h))
      · cases h
    | not a =>
      simp only at h
      split at h
      · exact ⟨sim_not (ih _ _ h).1, simT_not (ih _ _ h).2⟩
      · cases h
    | and a b =>
      simp only at h
      split at h
      · simp only [Bool.and_eq_true] at h
        obtain ⟨h1, h2⟩ := h
        exact ⟨sim_and (ih _ _ h1).1 (sim_one (ih _ _ h2).1), simT_W (simW_and (ih _ _ h1).2 (simW_and1 (ih _ _ h2).2))⟩
      · rename_i y z u r p
        simp only [Bool.and_eq_true] at h
        obtain ⟨h1, h2⟩ := h
        have i2 := ih _ _ h2
        refine ⟨sim_and (ih _ _ h1).1 i2.1, simT_W (simW_and (ih _ _ h1).2 ?_)⟩
        exact fun w σ s b' s' rs ev Q q whole pins sh I => i2.2 w σ s b' s' rs ev Q q pins sh I
      · cases h
    | or a b =>
      simp only at h
      split at h
      · simp only [Bool.and_eq_true] at h
        obtain ⟨h1, h2⟩ := h
        exact ⟨sim_or (ih _ _ h1).1 (sim_one (ih _ _ h2).1), simT_W (simW_or (ih _ _ h1).2 (simW_or1 (ih _ _ h2).2))⟩
      · rename_i y z u r p
        simp only [Bool.and_eq_true] at h
        obtain ⟨h1, h2⟩ := h
        have i2 := ih _ _ h2
        refine ⟨sim_or (ih _ _ h1).1 i2.1, simT_W (simW_or (ih _ _ h1).2 ?_)⟩
        exact fun w σ s b' s' rs ev Q q whole pins sh I => i2.2 w σ s b' s' rs ev Q q pins sh I
      · cases h
    | cmp op a b =>
      simp only at h
      split at h
      · simp only [Bool.and_eq_true] at h
        obtain ⟨⟨⟨h1, h2⟩, h3⟩, h4⟩ := h
        obtain ⟨r, r1, r2⟩ := cop_ok g h1
        exact ⟨sim_cmp r1 r2 h2 (ihE _ _ h3) (ihE _ _ h4), simT_cmp r1 r2 h2 (ihE _ _ h3) (ihE _ _ h4)⟩
      · cases h
    | chain op op' a b d =>
      simp only at h
      split at h
      · simp only [Bool.and_eq_true] at h
        obtain ⟨⟨⟨⟨⟨h1, h1'⟩, h2⟩, h3⟩, h4⟩, h5⟩ := h
        obtain ⟨r, r1, r2⟩ := cop_ok g h1
        obtain ⟨r', r1', r2'⟩ := cop_ok g h1'
        exact ⟨sim_chain r1 r1' r2 r2' h2 (ihE _ _ h3) (ihE _ _ h4) (ihE _ _ h5), simT_chain r1 r1' r2 r2' h2 (ihE _ _ h3) (ihE _ _ h4) (ihE _ _ h5)⟩
      · cases h
    | ife t a b =>
      simp only at h
      split at h
      · simp only [Bool.and_eq_true] at h
        obtain ⟨⟨h1, h2⟩, h3⟩ := h
        exact ⟨sim_ife (ih _ _ h1).2 (ih _ _ h2).1 (ih _ _ h3).1, simT_ife (ih _ _ h1).2 (ih _ _ h2).2 (ih _ _ h3).2⟩
      · cases h
    | idx a i =>
      simp only at h
      split at h
      · simp only [Bool.and_eq_true] at h
        exact sim2_val rfl (sim_idx g.hu h.1.1 (ihE _ _ h.1.2) (ihE _ _ h.2))
      · cases h
    | slc a lo hi =>
      simp only at h
      split at h
      · simp only [Bool.and_eq_true] at h
        exact sim2_val rfl (sim_slc (ihE _ _ h.1.1) (opt_ok ihE h.1.2) (opt_ok ihE h.2) hK.symm)
      · cases h
    | attr a f =>
      simp only at h
      split at h
      · simp only [Bool.and_eq_true, decide_eq_true_eq] at h
        obtain ⟨⟨⟨h1, h2⟩, h3⟩, h4⟩ := h
        subst h1
        refine sim2_val rfl ?_
        rw [← g.nm]
        refine sim_attr g.cl hK.symm (by rw [g.na]; exact h2) (attrB ?_ _ _ _) (ihE _ _ h4)
        revert h3
        unfold notCall
        split <;> simp
      · cases h
    | call f es =>
      simp only at h
      split at h
      · simp only [Bool.and_eq_true, decide_eq_true_eq] at h
        obtain ⟨⟨h1, h2⟩, h3⟩ := h
        obtain ⟨hg, hd⟩ := globC_ok hc h1
        obtain ⟨a, hm, F, _⟩ := g.fn _ _ h2
        obtain ⟨l1, l2, l3⟩ := all2_in h3
        rw [List.all_cons, Bool.and_eq_true] at l2
        exact sim2_val rfl (sim_call F (g.room.mono (Nat.le_succ _)) hg hm hd l2.1 (stars_no l2.2 _ _) (all2_ok ihE h3).1)
      · cases h
    | calk f pm es =>
      simp only at h
      split at h
      · rename_i y yp xs kws pos
        simp only [Bool.and_eq_true, decide_eq_true_eq] at h
        obtain ⟨⟨⟨⟨⟨h1, h2⟩, h3⟩, h4⟩, h5⟩, h6⟩ := h
        obtain ⟨hg, hd⟩ := globC_ok hc h1
        obtain ⟨a, hm, F⟩ := g.kw _ _ _ _ _ h2
        obtain ⟨l1, l2, l3⟩ := all2_in h5
        obtain ⟨k1, k2, k3⟩ := kw_ok ihE h6
        obtain ⟨w1, w2, w3⟩ := kw_all (kws_args h3) X.env pos
        have hks : (es.drop xs.length).length = (kws.filterMap (·.arg)).length := by
          rw [k3]
          have := congrArg List.length (kws_args h3)
          rw [List.length_map, List.length_map] at this
          exact this
        refine sim2_val rfl ?_
        cases xs with
        | nil =>
          have e0 : es.drop ([] : List Expr).length = es := rfl
          rw [e0] at k1 k2 hks
          exact sim_calk0 F (g.room.mono (Nat.le_succ _)) hg hm hd w1 w2 (by rw [w3]; rfl) hks k2 k1
        | cons z zs =>
          have e1 : es = es.take (z :: zs).length ++ es.drop (z :: zs).length := (List.take_append_drop _ _).symm
          have l2' := l2
          rw [List.all_cons, Bool.and_eq_true] at l2'
          rw [e1]
          exact sim_calk F (g.room.mono (Nat.le_succ _)) hg hm hd l2'.1 w1 w2 (by rw [w3, stars_no l2]; rfl) l1 hks l3 k2 (all2_ok ihE h5).1 k1
      · cases h
    | calv i es => cases h
    | mk q es =>
      simp only at h
      split at h
      · simp only [Bool.and_eq_true, decide_eq_true_eq] at h
        obtain ⟨⟨h1, h2⟩, h3⟩ := h
        obtain ⟨hg, hd⟩ := globC_ok hc h1
        obtain ⟨C, hm, F⟩ := g.mks _ _ h2
        obtain ⟨l1, l2, l3⟩ := all2_in h3
        rw [List.all_cons, Bool.and_eq_true] at l2
        exact sim2_val rfl (sim_mk F g.room hg hm hd l2.1 (stars_no l2.2 _ _) (all2_ok ihE h3).1)
      · cases h
    | bi b es =>
      simp only at h
      split at h
      · simp only [Bool.and_eq_true] at h
        obtain ⟨⟨h1, h2⟩, h3⟩ := h
        exact sim2_val rfl (bi_ok g hc h2 h1 (all2_ok ihE h3).2.1 (all2_in h3).2.1)
      · cases h
    | bm b a es => cases h
    | bit b k es => cases h
    | pop p es =>
      simp only at h
      obtain ⟨h1, q, as, ks, pos, rfl⟩ := pop_ok g hc ihE h
      exact sim2_val rfl h1
    | lc t k es cs el =>
      simp only at h
      split at h
      · rename_i elt tg iter ifs a scope pos
        simp only [Bool.and_eq_true, decide_eq_true_eq] at h
        obtain ⟨⟨⟨⟨⟨⟨⟨h0, h1⟩, h2⟩, h3⟩, h4⟩, h5⟩, h6⟩, h7⟩ := h
        subst h0
        have ihb : ∀ (e : Py.E) (x : Expr), ckE G n (ct.blk scope) e x = true → Blk X scope fun B => Sim2 T c B x e := fun e x h s H C cl fp => ck_ok n (g.blk s H scope _ fp) (hc.blk s H scope cl C fp) e x h
        obtain ⟨tt, hts⟩ := tsC_ok (T := T) (c := c) (ct := ct) ihb h6
        refine sim2_val rfl (sim_lc (tt := tt) (own := ownOf t tg) ⟨g.calm, by rw [hc.N]; exact hc.nd, it_ok g hc ihE (tgC_shape h5) h2, ?_, h4, fun s H C cl fp => ?_, hts, fun s H C cl fp => (ihb _ _ h7 s H C cl fp).1, foldB h1 _⟩)
        · rw [hc.sc, hc.N]
          exact blkOk_by h3
        · have := (hc.blk s H scope cl C fp)
          show tgC (X.blk s H scope (compEnvC scope cl C X.env) fp).env.scope (X.blk s H scope (compEnvC scope cl C X.env) fp).fn (X.blk s H scope (compEnvC scope cl C X.env) fp).N t tg = true
          rw [this.sc, this.fq, this.N]
          exact h5
      · cases h
    | stuck => exact ⟨fun m w σ s o s' rs ev => (by simp only [Py.ev] at ev; cases ev), fun w σ s b s' rs ev => (by simp only [Py.ev] at ev; cases ev)⟩
end
end PyS
end

section
set_option Elab.async false
set_option linter.all false
set_option maxRecDepth 100000
set_option maxHeartbeats 4000000
/-! ZI: statements checked. -/
namespace PyS
open PySem L2
/-- a comprehension stored to a name swaps -/
def swLc (sc : Scope) (y : Str) (py : Pos) (scope : Scope) (pos : Pos) : Bool :=
  (if sc.kind.isAnnotationScope then ScopeKind.function else sc.kind) == .function && sc.names.lookup y == some .local && py.line == pos.line && !(scope.names.any fun (n, k) => n == y && (k == .local || k == .cell))
def noSwap : Expr → Bool
  | .ListComp _ _ _ _ | .SetComp _ _ _ _ | .DictComp _ _ _ _ _ => false
  | _ => true
def isLc : Py.E → Bool
  | .lc _ _ _ _ _ => true
  | _ => false
def notTup : Expr → Bool
  | .Tuple _ _ _ => false
  | _ => true
def blC (f : Py.S → Stmt → Bool) : List Py.S → List Stmt → Bool
  | [], [] => true
  | s :: ss, x :: xs => f s x && blC f ss xs
  | _, _ => false
def parC (G : Gx) (ct : Ct) (f : Py.E → Expr → Bool) (is : List Nat) (es : List Py.E) (ts vs : List Expr) : Bool :=
  locsC ct.sc ct.fq ct.N is ts && all2 f es vs && (match swSt ct.sc ts vs with
    | some none => decide (vs.length ≤ 1000)
    | some (some _) => (match ts with
      | [.Name x px, .Name y py] => (match is with
        | [i, j] => decide (i ≠ j) && decide (ct.sc.names.lookup x = some .local) && decide (ct.sc.names.lookup y = some .local) && decide (swSt ct.sc [.Name x px, .Name y py] vs = some (some [x, y]))
        | _ => false)
      | [.Name x px, .Name y py, .Name z pz] => (match is with
        | [i, j, l] => decide (i ≠ j) && decide (i ≠ l) && decide (j ≠ l) && decide (ct.sc.names.lookup x = some .local) && decide (ct.sc.names.lookup y = some .local) && decide (ct.sc.names.lookup z = some .local) && decide (swSt ct.sc [.Name x px, .Name y py, .Name z pz] vs = some (some [x, y, z]))
        | _ => false)
      | _ => false)
    | none => false)
def ckS (G : Gx) : Nat → Ct → Py.S → Stmt → Bool
  | 0, _, _, _ => false
  | n + 1, ct, s, x => match s with
    | .asg tg e => (match x with
      | .Assign [t] v pos => (match tg with
        | .nm i => (match t with
          | .Name y py => locC ct.sc ct.fq ct.N y i && ckE G n ct e v && (match v with
            | .ListComp elt gs scope cp => isLc e && (!swLc ct.sc y py scope cp || decide (ct.sc.names.lookup y = some .local))
            | v => noSwap v)
          | _ => false)
        | .tup l => notTup v && tgC ct.sc ct.fq ct.N (.tup l) t && ckE G n ct e v)
      | _ => false)
    | .par is es => (match x with
      | .Assign [.Tuple ts _ _] (.Tuple vs _ _) _ => parC G ct (ckE G n ct) is es ts vs
      | _ => false)
    | .set p k e => (match p with
      | .var i => (match x with
        | .Assign [.Subscript (.Name y _) kx _] v _ => visC ct.sc ct.N y i && notSlice kx && ckE G n ct k kx && ckE G n ct e v
        | _ => false)
      | _ => false)
    | .setA i f e => (match x with
      | .Assign [.Attribute (.Name y _) m _] v _ => visC ct.sc ct.N y i && decide (m = G.nm f) && decide (f < G.na) && ckE G n ct e v
      | _ => false)
    | .app p e => (match p with
      | .var i => (match x with
        | .Expr (.Call (.Attribute (.Name y _) m ap) [v] [] cp) _ => decide (m = "append") && (ap.endLine == cp.line) && visC ct.sc ct.N y i && notStar v && ckE G n ct e v
        | _ => false)
      | _ => false)
    | .ex e => (match x with
      | .Expr v _ => noSwap v && ckE G n ct e v
      | _ => false)
    | .pass => (match x with
      | .Pass _ => true
      | .Expr (.Constant (.str _) _ _) _ => true
      | _ => false)
    | .ret e => (match x with
      | .Return (some v) _ => ckE G n ct e v
      | _ => false)
    | .ite t a b => (match x with
      | .If y xa xb _ => ckE G n ct t y && blC (ckS G n ct) a xa && blC (ckS G n ct) b xb
      | _ => false)
    | .for_ t k es b => (match x with
      | .For tg iter xb [] _ => notSet iter && tgC ct.sc ct.fq ct.N t tg && itC ct (ckE G n ct) k es tg iter && blC (ckS G n ct) b xb
      | _ => false)
    | .whl t b => (match x with
      | .While y xb [] _ => ckE G n ct t y && blC (ckS G n ct) b xb
      | _ => false)
    | .cont => (match x with
      | .Continue _ => true
      | _ => false)
    | .brk => (match x with
      | .Break _ => true
      | _ => false)
    | .stuck => true
    | _ => false
variable {T : Tb}
section
variable {c : Py.Cx} {G : Gx} {j : Nat} {X : Cx} {ct : Ct}
theorem noSwap_ok {v : Expr} (h : noSwap v = true) (t : Option Expr) (l : Nat) (env : Env) : swapsWith v t l env = pure false := by
  cases v <;> first | rfl | cases h
theorem swTup {v : Expr} {es : List Expr} {k : Nat} {p : Pos} {l : Nat} {env : Env} : swapsWith v (some (.Tuple es k p)) l env = pure false := by
  cases v <;> rfl
theorem notTup_ok {v : Expr} (h : notTup v = true) {es : List Expr} {k : Nat} {p : Pos} {env : Env} : swappedStores [.Tuple es k p] v env = pure none := by
  cases v <;> first | rfl | cases h
theorem swLc_ok (hc : COk X ct) {elt : Expr} {gs : List Comprehension} {scope : Scope} {cp py : Pos} {y : Str} {l : Nat} : swapsWith (.ListComp elt gs scope cp) (some (.Name y py)) l X.env = pure (swLc ct.sc y py scope cp) := by
  rw [← hc.sc]
  rfl
theorem bl_ok {f : Py.S → Stmt → Bool} (hf : ∀ s x, f s x = true → SimS T c X x s) : ∀ {ss : List Py.S} {xs : List Stmt}, blC f ss xs = true → SimB T c X xs ss
  | [], [], _ => simB_nil
  | s :: ss, x :: xs, h => by
    rw [blC, Bool.and_eq_true] at h
    exact simB_cons (hf _ _ h.1) (bl_ok hf h.2)
  | [], _ :: _, h => by simp [blC] at h
  | _ :: _, [], h => by simp [blC] at h
theorem par_ok (g : GOk T c X j G) (hc : COk X ct) {f : Py.E → Expr → Bool} (hf : ∀ e x, f e x = true → SimE T c X x e) {is : List Nat} {es : List Py.E} {ts vs : List Expr} {k k2 : Nat} {p p2 pos : Pos} (h : parC G ct f is es ts vs = true) :
    SimS T c X (.Assign [.Tuple ts k p] (.Tuple vs k2 p2) pos) (.par is es) := by
  have hN : X.N.Nodup := by rw [hc.N]; exact hc.nd
  unfold parC at h
  simp only [Bool.and_eq_true] at h
  obtain ⟨⟨h1, h2⟩, h3⟩ := h
  obtain ⟨l1, l2, l3⟩ := all2_in h2
  have hs := (all2_ok hf h2).2.2
  rw [← hc.sc, ← hc.fq, ← hc.N] at h1
  split at h3
  · rename_i hw
    rw [← hc.sc] at hw
    exact simS_parN g.calm hN h1 hw (of_decide_eq_true h3) hs l1.symm
  · split at h3
    · rename_i x px y py
      split at h3
      · rename_i i j'
        simp only [Bool.and_eq_true, decide_eq_true_eq] at h3
        obtain ⟨⟨⟨a1, a2⟩, a3⟩, a4⟩ := h3
        rw [← hc.sc] at a2 a3 a4
        rw [locsC, locsC, locsC, Bool.and_eq_true, Bool.and_eq_true] at h1
        have hv : vs.length = 2 := by
          cases vs with
          | nil => simp [swSt, swC1] at a4
          | cons v1 vs =>
            cases vs with
            | nil => simp [swSt, swC1] at a4
            | cons v2 vs =>
              cases vs with
              | nil => rfl
              | cons v3 vs => simp [swSt, swC1] at a4
        match vs, hv, hs, a4 with
        | [v1, v2], _, hs, a4 => exact simS_par2 g.calm hN h1.1 h1.2.1 a1 a2 a3 a4 hs
      · cases h3
    · rename_i x px y py z pz
      split at h3
      · rename_i i j' l
        simp only [Bool.and_eq_true, decide_eq_true_eq] at h3
        obtain ⟨⟨⟨⟨⟨⟨a1, a2⟩, a3⟩, a4⟩, a5⟩, a6⟩, a7⟩ := h3
        rw [← hc.sc] at a4 a5 a6 a7
        rw [locsC, locsC, locsC, locsC, Bool.and_eq_true, Bool.and_eq_true, Bool.and_eq_true] at h1
        have hv : vs.length = 3 := by
          cases vs with
          | nil => simp [swSt, swC1] at a7
          | cons v1 vs =>
            cases vs with
            | nil => simp [swSt, swC1] at a7
            | cons v2 vs =>
              cases vs with
              | nil => simp [swSt, swC1] at a7
              | cons v3 vs =>
                cases vs with
                | nil => rfl
                | cons v4 vs => simp [swSt, swC1] at a7
        match vs, hv, hs, a7 with
        | [v1, v2, v3], _, hs, a7 => exact simS_par3 g.calm hN h1.1 h1.2.1 h1.2.2.1 a1 a2 a3 a4 a5 a6 a7 hs
      · cases h3
    · cases h3
  · cases h3
theorem ckS_ok (g : GOk T c X j G) (hc : COk X ct) (hp : PassesOwn (model X.prog X.w) X.A X.env X.xe) (hlp : LpOk c.lp) : ∀ (n : Nat) (s : Py.S) (x : Stmt), ckS G n ct s x = true → SimS T c X x s
  | 0, s, x, h => by cases h
  | n + 1, s, x, h => by
    have ih : ∀ (s : Py.S) (x : Stmt), ckS G n ct s x = true → SimS T c X x s := ckS_ok g hc hp hlp n
    have ihE : ∀ (e : Py.E) (x : Expr), ckE G n ct e x = true → SimE T c X x e := fun e x h => (ck_ok n g hc e x h).1
    have ihT : ∀ (e : Py.E) (x : Expr), ckE G n ct e x = true → SimT T c X x e := fun e x h => (ck_ok n g hc e x h).2
    have hN : X.N.Nodup := by rw [hc.N]; exact hc.nd
    unfold ckS at h
    cases s with
    | asg tg e =>
      simp only at h
      split at h
      · rename_i t v pos
        split at h
        · rename_i i
          split at h
          · rename_i y py
            simp only [Bool.and_eq_true] at h
            obtain ⟨⟨h1, h2⟩, h3⟩ := h
            rw [← hc.sc, ← hc.fq, ← hc.N] at h1
            split at h3
            · rename_i elt gs scope cp
              cases hsw : swLc ct.sc y py scope cp with
              | false => exact simS_set hN h1 (by rw [swLc_ok hc, hsw]) (ihE _ _ h2)
              | true =>
                rw [hsw, Bool.not_true, Bool.false_or, Bool.and_eq_true, decide_eq_true_eq] at h3
                obtain ⟨hlc, h3⟩ := h3
                -- the comprehension's own facts
                cases n with
                | zero => cases h2
                | succ n =>
                  have h2' := h2
                  unfold ckE at h2'
                  cases e with
                  | lc t k es cs el =>
                    simp only at h2'
                    split at h2'
                    · rename_i elt' tg iter ifs a scope' pos' heq
                      cases heq
                      simp only [Bool.and_eq_true, decide_eq_true_eq] at h2'
                      obtain ⟨⟨⟨⟨⟨⟨⟨b0, b1⟩, b2⟩, b3⟩, b4⟩, b5⟩, b6⟩, b7⟩ := h2'
                      subst b0
                      have ihE' : ∀ (e : Py.E) (x : Expr), ckE G n ct e x = true → SimE T c X x e := fun e x h => (ck_ok n g hc e x h).1
                      have ihb : ∀ (e : Py.E) (x : Expr), ckE G n (ct.blk scope) e x = true → Blk X scope fun B => Sim2 T c B x e := fun e x h s H C cl fp => ck_ok n (g.blk s H scope _ fp) (hc.blk s H scope cl C fp) e x h
                      obtain ⟨tt, hts⟩ := tsC_ok (T := T) (c := c) (ct := ct) ihb b6
                      refine simS_setLc (tt := tt) (own := ownOf t tg) (locC_ok h1).1 (by rw [hc.sc]; exact h3) (by rw [swLc_ok hc, hsw]) ⟨g.calm, hN, it_ok g hc ihE' (tgC_shape b5) b2, ?_, b4, fun s H C cl fp => ?_, hts, fun s H C cl fp => (ihb _ _ b7 s H C cl fp).1, foldB b1 _⟩
                      · rw [hc.sc, hc.N]
                        exact blkOk_by b3
                      · have := (hc.blk s H scope cl C fp)
                        show tgC (X.blk s H scope (compEnvC scope cl C X.env) fp).env.scope (X.blk s H scope (compEnvC scope cl C X.env) fp).fn (X.blk s H scope (compEnvC scope cl C X.env) fp).N t tg = true
                        rw [this.sc, this.fq, this.N]
                        exact b5
                    · cases h2'
                  | _ => cases hlc
            · exact simS_set hN h1 (noSwap_ok h3 _ _ _) (ihE _ _ h2)
          · cases h
        · rename_i l
          simp only [Bool.and_eq_true] at h
          obtain ⟨⟨h1, h2⟩, h3⟩ := h
          rw [← hc.sc, ← hc.fq, ← hc.N] at h2
          cases t with
          | Tuple es k p => exact simS_tup g.calm hN h2 swTup (notTup_ok h1) (ihE _ _ h3)
          | _ => simp [tgC] at h2
      · cases h
    | par is es =>
      simp only at h
      split at h
      · exact par_ok g hc ihE h
      · cases h
    | set p k e =>
      simp only at h
      split at h
      · split at h
        · simp only [Bool.and_eq_true] at h
          obtain ⟨⟨⟨h1, h2⟩, h3⟩, h4⟩ := h
          rw [← hc.sc, ← hc.N] at h1
          exact simS_setK g.hu h1 (asgB h2 _) (ihE _ _ h3) (ihE _ _ h4)
        · cases h
      · cases h
    | setA i f e =>
      simp only at h
      split at h
      · simp only [Bool.and_eq_true, decide_eq_true_eq] at h
        obtain ⟨⟨⟨h1, h2⟩, h3⟩, h4⟩ := h
        rw [← hc.sc, ← hc.N] at h1
        subst h2
        rw [← g.nm]
        exact simS_setA g.cl g.hK.symm (by rw [g.na]; exact h3) h1 (ihE _ _ h4)
      · cases h
    | aug i op e => cases h
    | augS p k op e => cases h
    | app p e =>
      simp only at h
      split at h
      · split at h
        · simp only [Bool.and_eq_true, decide_eq_true_eq] at h
          obtain ⟨⟨⟨⟨rfl, h1⟩, h2⟩, h3⟩, h4⟩ := h
          rw [← hc.sc, ← hc.N] at h2
          exact simS_app h2 h3 h1 (ihE _ _ h4)
        · cases h
      · cases h
    | ex e =>
      simp only at h
      split at h
      · rw [Bool.and_eq_true] at h
        exact simS_ex (noSwap_ok h.1 _ _ _) (ihE _ _ h.2)
      · cases h
    | ret e =>
      simp only at h
      split at h
      · exact simS_ret (ihE _ _ h)
      · cases h
    | ite t a b =>
      simp only at h
      split at h
      · simp only [Bool.and_eq_true] at h
        exact simS_if (ihT _ _ h.1.1) (bl_ok ih h.1.2) (bl_ok ih h.2)
      · cases h
    | for_ t k es b =>
      simp only at h
      split at h
      · simp only [Bool.and_eq_true] at h
        obtain ⟨⟨⟨h1, h2⟩, h3⟩, h4⟩ := h
        have h2' := h2
        rw [← hc.sc, ← hc.fq, ← hc.N] at h2'
        exact simS_for hp g.calm hN h2' (foldB h1 _) (it_ok g hc ihE (tgC_shape h2) h3) (bl_ok ih h4)
      · cases h
    | whl t b =>
      simp only at h
      split at h
      · rw [Bool.and_eq_true] at h
        exact simS_whl hp hlp (ihT _ _ h.1) (bl_ok ih h.2)
      · cases h
    | cont =>
      simp only at h
      split at h
      · exact simS_cont
      · cases h
    | brk =>
      simp only at h
      split at h
      · exact simS_brk
      · cases h
    | pass =>
      simp only at h
      split at h
      · exact simS_pass
      · exact simS_doc
      · cases h
    | stuck => exact fun w σ s out s' rs ev => by simp only [Py.ex] at ev; cases ev
end
end PyS
end

section
set_option Elab.async false
set_option linter.all false
set_option maxRecDepth 100000
set_option maxHeartbeats 4000000
/-! ZJ: an __init__'s statements, which leave the names alone. -/
namespace PyS
open PySem L2
variable {T : Tb}
section
variable {c : Py.Cx} {X : Cx} {G : Gx} {ct : Ct} {j : Nat}
def EndsF (T : Tb) (w : Wd) (σ : L2.St) (D : Ends) (out : Py.Out) (s' : Py.St) : Prop := ∀ w' : Wd, Stp w w' → RS T w' σ s' → out = .nx ∧ D.nx σ w'.H
/-- such a statement, if it ends as it should -/
def SimF (T : Tb) (c : Py.Cx) (X : Cx) (st : Stmt) (S : Py.S) : Prop :=
  ∀ (w : Wd) (σ : L2.St) (s : Py.St) (s' : Py.St), RS T w σ s → Py.ex c S s = some (.nx, s') → ∀ D : Ends, (∀ w' : Wd, Stp w w' → RS T w' σ s' → D.nx σ w'.H) → WS X st D σ w.H
def SimFB (T : Tb) (c : Py.Cx) (X : Cx) (st : List Stmt) (S : List Py.S) : Prop :=
  ∀ (w : Wd) (σ : L2.St) (s : Py.St) (s' : Py.St), RS T w σ s → Py.exs c S s = some (.nx, s') → ∀ D : Ends, (∀ w' : Wd, Stp w w' → RS T w' σ s' → D.nx σ w'.H) → WB X st D σ w.H
theorem simFB_nil : SimFB T c X [] [] := by
  intro w σ s s' rs ev D d
  simp only [Py.exs, Option.some.injEq, Prod.mk.injEq, true_and] at ev
  subst ev
  exact WB.of pss_nil (d w (Stp.refl _) rs)
theorem simFB_cons {st : Stmt} {sts : List Stmt} {S : Py.S} {Ss : List Py.S} (h : SimF T c X st S) (hs : SimFB T c X sts Ss) : SimFB T c X (st :: sts) (S :: Ss) := by
  intro w σ s s' rs ev D d
  refine WB.of (pss_cons ps_self pb_self) ?_
  rw [Py.exs] at ev
  split at ev
  · rename_i s1 e1
    refine h w σ s s1 rs e1 _ fun w1 st1 rs1 => ?_
    exact hs w1 σ s1 s' rs1 ev D fun w2 st2 rs2 => d w2 (st1.trans st2) rs2
  · rename_i o s1 hn e1
    simp only [Option.some.injEq, Prod.mk.injEq] at ev
    obtain ⟨rfl, rfl⟩ := ev
    exact (hn rfl).elim
  · cases ev
theorem simF_doc {x : Str} {k : Nat} {p p' : Pos} : SimF T c X (.Expr (.Constant (.str x) k p) p') .pass := by
  intro w σ s s' rs ev D d
  simp only [Py.ex, Option.some.injEq, Prod.mk.injEq, true_and] at ev
  subst ev
  exact WS.of ps_doc (d w (Stp.refl _) rs)
theorem simF_if {e : Expr} {E : Py.E} {a b : List Stmt} {A B : List Py.S} {p : Pos} (h : SimT T c X e E) (ha : SimFB T c X a A) (hb : SimFB T c X b B) : SimF T c X (.If e a b p) (.ite E A B) := by
  intro w σ s s' rs ev D d
  simp only [Py.ex] at ev
  refine WS.of (ps_if pt_self pb_self pb_self) ?_
  split at ev
  · rename_i s1 e1
    refine h w σ s true s1 rs e1 _ fun w1 st1 rs1 _ => ?_
    rw [if_pos rfl]
    exact ha w1 σ s1 s' rs1 ev D fun w2 st2 rs2 => d w2 (st1.trans st2) rs2
  · rename_i s1 e1
    refine h w σ s false s1 rs e1 _ fun w1 st1 rs1 _ => ?_
    rw [if_neg Bool.false_ne_true]
    exact hb w1 σ s1 s' rs1 ev D fun w2 st2 rs2 => d w2 (st1.trans st2) rs2
  · cases ev
theorem simF_setA {e : Expr} {E : Py.E} {i f : Nat} {x : Str} {p ap pos : Pos} (F : Clss T) (hK : X.K = T.K) (hf : f < T.na) (hv : visC X.env.scope X.N x i = true) (h : SimE T c X e E) :
    SimF T c X (.Assign [.Attribute (.Name x p) (T.nm f) ap] e pos) (.setA i f E) := by
  intro w σ s s' rs ev D d
  simp only [Py.ex] at ev
  split at ev
  · rename_i o s1 e1
    split at ev
    · rename_i k l he
      split at ev
      · rename_i hz
        simp only [Option.some.injEq, Prod.mk.injEq, true_and] at ev
        subst ev
        refine WS.of (ps_fld (visC_pe hv) pe_self swA) ?_
        refine h false w σ s o s1 rs e1 _ fun v w1 st1 rs1 q1 p1 => ?_
        obtain ⟨w2, h2, st2, rs2, r2, _⟩ := p1.res.toD st1 rs1
        obtain ⟨u, g1, g2⟩ := rs2.env i _ he
        rw [← h2]
        cases g2 with
        | @ins _ a C dx fs _ _ hl hC hH hs =>
          refine ⟨_, g1, a, C, dx, fs, rfl, hH, ?_, ?_, ?_, ?_⟩
          · rw [hK]; exact (F.one k C hC).cl
          · rw [hK]; exact F.na k C f hC hf
          · rw [hs.len]; omega
          · have hie : i < s1.env.length := (List.getElem?_eq_some_iff.mp he).1
            refine d { w2 with H := upd w2.H a (.ins C dx (L2.putF (T.nm f) v fs)) } (st2.trans ⟨GLe.refl _, PLe.refl _, fun b u h l => ?_, fun b h => ?_⟩) ⟨⟨fun b u h => ?_, fun b r' h => ⟨(rs2.lg b r' h).1, ?_⟩⟩, fun j y hj => ?_, fun n y hn => ?_, rs2.len, ?_⟩
            · have : b ≠ a := fun z => by rw [z, hl] at l; cases l
              exact ⟨(upd_ne this).trans h, l, rfl⟩
            · show upd w2.H a _ b ≠ none
              by_cases z : b = a
              · rw [z, upd_same]; exact fun q => nomatch q
              · rw [upd_ne z]; exact h
            · show upd w2.H a _ b = some u
              rw [upd_ne (fun z => by rw [z, (rs2.lg a _ hl).1] at h; cases h)]
              exact rs2.gh b u h
            · show upd w2.H a _ b ≠ none
              by_cases z : b = a
              · rw [z, upd_same]; exact fun q => nomatch q
              · rw [upd_ne z]; exact (rs2.lg b r' h).2
            · by_cases hji : j = i
              · subst hji
                rw [show (s1.env.set j _)[j]? = _ from List.getElem?_set_self hie] at hj
                cases hj
                exact ⟨_, g1, .ins hl hC upd_same ((RepOf.kid (mkid hl _) hs).put (w := { w2 with H := upd w2.H a (.ins C dx (L2.putF (T.nm f) v fs)) }) F.inj f r2)⟩
              · rw [show (s1.env.set i _)[j]? = s1.env[j]? from List.getElem?_set_ne (Ne.symm hji)] at hj
                obtain ⟨v', k1, k2⟩ := rs2.env j y hj
                refine ⟨v', k1, RepO.move (w := w2) (w' := { w2 with H := upd w2.H a (.ins C dx (L2.putF (T.nm f) v fs)) }) ⟨GLe.refl _, PLe.refl _, fun b ρ q => ⟨q, fun u hu => ?_⟩⟩ k2⟩
                show upd w2.H a _ b = some u
                rw [upd_ne (fun z => by rw [z, hl] at q; cases q; exact hji rfl)]
                exact hu
            · obtain ⟨v', k1, k2⟩ := rs2.sto n y hn
              refine ⟨v', k1, RepO.move (w := w2) (w' := { w2 with H := upd w2.H a (.ins C dx (L2.putF (T.nm f) v fs)) }) ⟨GLe.refl _, PLe.refl _, fun b ρ q => ⟨q, fun u hu => ?_⟩⟩ k2⟩
              show upd w2.H a _ b = some u
              rw [upd_ne (fun z => by rw [z, hl] at q; cases q)]
              exact hu
            · show (s1.env.set i _).length = σ.length
              rw [List.length_set]
              exact rs2.el
      · cases ev
    · cases ev
  · cases ev
def ckF (G : Gx) (m : Nat) : Nat → Ct → Py.S → Stmt → Bool
  | 0, _, _, _ => false
  | n + 1, ct, s, x => match s with
    | .setA i f e => (match x with
      | .Assign [.Attribute (.Name y _) z _] v _ => visC ct.sc ct.N y i && decide (z = G.nm f) && decide (f < G.na) && ckE G m ct e v
      | _ => false)
    | .pass => (match x with
      | .Expr (.Constant (.str _) _ _) _ => true
      | _ => false)
    | .ite t a b => (match x with
      | .If y xa xb _ => ckE G m ct t y && blC (ckF G m n ct) a xa && blC (ckF G m n ct) b xb
      | _ => false)
    | .stuck => true
    | _ => false
theorem blF_ok {f : Py.S → Stmt → Bool} (hf : ∀ s x, f s x = true → SimF T c X x s) : ∀ {ss : List Py.S} {xs : List Stmt}, blC f ss xs = true → SimFB T c X xs ss
  | [], [], _ => simFB_nil
  | s :: ss, x :: xs, h => by
    rw [blC, Bool.and_eq_true] at h
    exact simFB_cons (hf _ _ h.1) (blF_ok hf h.2)
  | [], _ :: _, h => by simp [blC] at h
  | _ :: _, [], h => by simp [blC] at h
theorem ckF_ok (g : GOk T c X j G) (hc : COk X ct) {m : Nat} : ∀ (n : Nat) (s : Py.S) (x : Stmt), ckF G m n ct s x = true → SimF T c X x s
  | 0, s, x, h => by cases h
  | n + 1, s, x, h => by
    have ih : ∀ (s : Py.S) (x : Stmt), ckF G m n ct s x = true → SimF T c X x s := ckF_ok g hc n
    have ihE : ∀ (e : Py.E) (x : Expr), ckE G m ct e x = true → SimE T c X x e := fun e x h => (ck_ok m g hc e x h).1
    have ihT : ∀ (e : Py.E) (x : Expr), ckE G m ct e x = true → SimT T c X x e := fun e x h => (ck_ok m g hc e x h).2
    unfold ckF at h
    cases s with
    | setA i f e =>
      simp only at h
      split at h
      · simp only [Bool.and_eq_true, decide_eq_true_eq] at h
        obtain ⟨⟨⟨h1, h2⟩, h3⟩, h4⟩ := h
        rw [← hc.sc, ← hc.N] at h1
        subst h2
        rw [← g.nm]
        exact simF_setA g.cl g.hK.symm (by rw [g.na]; exact h3) h1 (ihE _ _ h4)
      · cases h
    | pass =>
      simp only at h
      split at h
      · exact simF_doc
      · cases h
    | ite t a b =>
      simp only at h
      split at h
      · simp only [Bool.and_eq_true] at h
        exact simF_if (ihT _ _ h.1.1) (blF_ok ih h.1.2) (blF_ok ih h.2)
      · cases h
    | stuck => exact fun w σ s s' rs ev => by simp only [Py.ex] at ev; cases ev
    | _ => cases h
end
end PyS
end

section
set_option Elab.async false
set_option linter.all false
set_option maxRecDepth 100000
set_option maxHeartbeats 4000000
/-! ZK: defs, level by level. -/
namespace PyS
open PySem L2
def isIni (P : Py.Prog) (f : Nat) : Bool := P.ini.any fun p => p.2 == f
def fuel : Nat := 60
/-- the def's code fits its text -/
def bodyC (G : Gx) (P : Py.Prog) (f : Nat) (sc : Scope) (N : List Str) (b : List Py.S) (body : List Stmt) : Bool :=
  if isIni P f then blC (ckF G fuel fuel ⟨sc, fun _ => true, N⟩) b body else blC (ckS G fuel ⟨sc, fun _ => true, N⟩) b body
/-- what the head tells -/
structure Hd (T : Tb) (K : PySem.W.Frag) (mg : Str → Option Value) (G : Gx) (P : Py.Prog) (fn : List He.DefD) (fd : Nat → FuncData) (ps N : Nat → List Str) : Prop where
  hK : T.K = K
  cl : Clss T
  nm : T.nm = G.nm
  na : T.na = G.na
  fns : ∀ y f, (y, f) ∈ G.fns → ∃ d py, fn[f]? = some d ∧ P.defs[f]? = some py ∧ mg y = some (.ref (He.fAd K d.at_)) ∧ T.fn f = some (He.fAd K d.at_) ∧ isIni P f = false
  kws : ∀ y f n ks pm, (y, f, n, ks, pm) ∈ G.kws → ∃ d py, fn[f]? = some d ∧ P.defs[f]? = some py ∧ mg y = some (.ref (He.fAd K d.at_)) ∧ isIni P f = false ∧ KwF K (fd f) (ps f) n ks pm ∧ pm.length = (ps f).length
  nums : ∀ y i, (y, i) ∈ G.nums → ∃ t, mg y = some (.int i t)
  cls : ∀ y q, (y, q) ∈ G.cls → ∃ C, mg y = some (.ref C) ∧ T.cls q = some C
  mks : ∀ y q, (y, q) ∈ G.mks → ∃ C f d py, P.ini.lookup q = some f ∧ fn[f]? = some d ∧ P.defs[f]? = some py ∧ mg y = some (.ref C) ∧ T.cls q = some C ∧ Mk K C (He.fAd K d.at_)
  blt : ∀ y ∈ blts, mg y = none
  bnd : ∀ f d, fn[f]? = some d → Binds K (fd f) (ps f) []
  fdf : ∀ f d, fn[f]? = some d → FunD K d.name d.qual d.params d.body d.scope [] [] (He.fAd K d.at_) (fd f)
  st : ∀ f d py, fn[f]? = some d → P.defs[f]? = some py → py.ar = (ps f).length ∧ py.sl = (N f).length ∧ FnScope (N f) (ps f) d.scope ∧ bodyC G P f d.scope (N f) py.body d.body = true
section
variable {T : Tb} {K : PySem.W.Frag} {mg : Str → Option Value} {G : Gx} {P : Py.Prog} {fn : List He.DefD} {fd : Nat → FuncData} {ps N : Nat → List Str} {Pg : Program} {w0 : World} {base : Heap} {lp : (Py.St → Option (Py.St ⊕ (Py.Out × Py.St))) → Py.St → Option (Py.Out × Py.St)}
structure Lv (T : Tb) (Pg : Program) (w0 : World) (K : PySem.W.Frag) (mg : Str → Option Value) (base : Heap) (P : Py.Prog) (fn : List He.DefD) (fd : Nat → FuncData) (ps : Nat → List Str) (lp : (Py.St → Option (Py.St ⊕ (Py.Out × Py.St))) → Py.St → Option (Py.Out × Py.St)) (m : Nat) : Prop where
  f : ∀ f d py, fn[f]? = some d → P.defs[f]? = some py → isIni P f = false → FnOk Pg w0 K mg base CX0 (2 * m) (He.fAd K d.at_) (fd f) (ps f) (spF T (Py.callD lp P m) f (ps f).length)
  i : ∀ q f d py, P.ini.lookup q = some f → fn[f]? = some d → P.defs[f]? = some py → FnOk Pg w0 K mg base CX0 (2 * m) (He.fAd K d.at_) (fd f) (ps f) (spM T (Py.makeD lp P m) q (ps f).length)
theorem start_rs {w : Wd} {vs : List V} {os : List Py.O} {sto : List Py.O} {N : List Str} {d : Py.Def} (rs : RS T w [] ⟨[], sto⟩) (hl : vs.length = os.length) (hn : d.sl = N.length) (hle : os.length ≤ N.length) (h : ∀ (i : Nat) (v : V) (o : Py.O), vs[i]? = some v → os[i]? = some o → RepO T w (.slot i) [] v o) : RS T w (L2.start N vs) ⟨Py.start d os, sto⟩ := by
  refine ⟨rs.toLabOk, fun i o hi => ?_, rs.sto, rs.len, ?_⟩
  · have hi : (os.map some ++ List.replicate (d.sl - os.length) none)[i]? = some (some o) := hi
    by_cases hlt : i < os.length
    · rw [List.getElem?_append_left (by rw [List.length_map]; exact hlt), List.getElem?_map] at hi
      obtain ⟨o', ho⟩ : ∃ o', os[i]? = some o' := ⟨os[i], List.getElem?_eq_getElem hlt⟩
      rw [ho] at hi
      cases hi
      obtain ⟨v, hv⟩ : ∃ v, vs[i]? = some v := ⟨vs[i]'(by omega), List.getElem?_eq_getElem (by omega)⟩
      refine ⟨v, ?_, h i v o hv ho⟩
      show (vs.map some ++ List.replicate (N.length - vs.length) none)[i]? = _
      rw [List.getElem?_append_left (by rw [List.length_map]; omega), List.getElem?_map, hv]
      rfl
    · rw [List.getElem?_append_right (by rw [List.length_map]; omega)] at hi
      rw [List.getElem?_replicate] at hi
      split at hi <;> cases hi
  · show (os.map some ++ List.replicate (d.sl - os.length) none).length = (vs.map some ++ List.replicate (N.length - vs.length) none).length
    simp only [List.length_append, List.length_map, List.length_replicate]
    omega
theorem RS.bare {w : Wd} {σ : L2.St} {s : Py.St} (rs : RS T w σ s) : RS T w [] ⟨[], s.sto⟩ := ⟨rs.toLabOk, fun i o h => by simp at h, rs.sto, rs.len, rfl⟩
theorem gok (H : Hd T K mg G P fn fd ps N) {m : Nat} (lv : Lv T Pg w0 K mg base P fn fd ps lp m) {X : Cx} (hc : X.calm = true) (e1 : X.prog = Pg) (e2 : X.w = w0) (e3 : X.K = K) (e4 : X.mg = mg) (e5 : X.base = base) (hr : Room (2 * m + 1) X.A) {own cel : List Nat} :
    GOk T (Py.cxK lp P m own cel) X (2 * m) G := by
  have lenF : ∀ {f py}, P.defs[f]? = some py → py.ar = (ps f).length → ∀ ds sto r, Py.callD lp P m f ds sto = some r → ds.length = (ps f).length := by
    intro f py hp ha ds sto r h
    unfold Py.callD at h
    cases m with
    | zero => cases h
    | succ m =>
      rw [Py.callK_succ, hp] at h
      simp only at h
      by_cases hl : (ds.map Py.O.d).length = py.ar
      · rw [List.length_map] at hl
        exact hl.trans ha
      · rw [if_neg hl] at h
        cases h
  have lenM : ∀ {q f py}, P.ini.lookup q = some f → P.defs[f]? = some py → py.ar = (ps f).length → ∀ ds sto r, Py.makeD lp P m q ds sto = some r → ds.length + 1 = (ps f).length := by
    intro q f py hq hp ha ds sto r h
    unfold Py.makeD at h
    rw [hq] at h
    simp only at h
    cases m with
    | zero => cases h
    | succ m =>
      rw [Py.callK_succ, hp] at h
      simp only at h
      by_cases hl : (Py.O.ins q [] :: ds.map Py.O.d).length = py.ar
      · rw [List.length_cons, List.length_map] at hl
        exact hl.trans ha
      · rw [if_neg hl] at h
        cases h
  subst e1 e2 e3 e4 e5
  refine ⟨hc, H.hK, H.cl, hr, H.nm, H.na, fun y f h => ?_, fun y f n ks pm h => ?_, H.nums, H.cls, fun y q h => ?_, H.blt⟩
  · obtain ⟨d, py, h1, h2, h3, h4, h5⟩ := H.fns y f h
    exact ⟨_, h3, ⟨⟨fd f, ps f, lv.f f d py h1 h2 h5, H.bnd f d h1, lenF h2 (H.st f d py h1 h2).1⟩, (H.fdf f d h1).kp⟩, h4⟩
  · obtain ⟨d, py, h1, h2, h3, h4, h5, h6⟩ := H.kws y f n ks pm h
    exact ⟨_, h3, ⟨⟨fd f, ps f, lv.f f d py h1 h2 h4, h5, h6⟩, (H.fdf f d h1).kp⟩⟩
  · obtain ⟨C, f, d, py, h1, h2, h3, h4, h5, h6⟩ := H.mks y q h
    exact ⟨C, h4, ⟨⟨_, fd f, ps f, h6, lv.i q f d py h1 h2 h3, H.bnd f d h2, lenM h1 h3 (H.st f d py h2 h3).1⟩, h5⟩⟩
theorem lv_ok (H : Hd T K mg G P fn fd ps N) (hlp : LpOk lp) : ∀ m, Lv T Pg w0 K mg base P fn fd ps lp m
  | 0 => by
    refine ⟨fun f d py h1 h2 h3 => ⟨fun vs H Q E h => h.1, fun A outer s H' args us vs Q E hr he hb hv hs => ?_⟩, fun q f d py h0 h1 h2 => ⟨fun vs H Q E h => h.1, fun A outer s H' args us vs Q E hr he hb hv hs => ?_⟩⟩
    · obtain ⟨_, w, ds, sto, o, sto', _, _, _, hc, _⟩ := hs
      unfold Py.callD Py.callK at hc
      cases hc
    · obtain ⟨_, w, x, us', ds, sto, l, sto', _, _, _, _, _, _, _, hc, _⟩ := hs
      unfold Py.makeD at hc
      rw [h0] at hc
      unfold Py.callK at hc
      cases hc
  | m + 1 => by
    have lv := lv_ok H hlp m
    refine ⟨fun f d py h1 h2 h3 => ?_, fun qc f d py h0 h1 h2 => ?_⟩
    · obtain ⟨s1, s2, S, s4⟩ := H.st f d py h1 h2
      rw [show 2 * (m + 1) = (2 * m + 1) + 1 by omega]
      refine (H.fdf f d h1).ok S (fun vs H Q E h => h.1) fun cdv A outer s H' vs Q E hr hsp => ?_
      obtain ⟨hlen, w, ds, sto, o, sto', rfl, rs, rp, hc, q⟩ := hsp
      have g : GOk T (Py.cxK lp P m py.own py.cel) (Cx.nox (cxOf CX0 Pg w0 K mg base (N f) d.qual d.scope (He.fAd K d.at_) cdv A outer s w.H E)) (2 * m) G := gok H lv rfl rfl rfl rfl rfl rfl hr
      have ck : COk (Cx.nox (cxOf CX0 Pg w0 K mg base (N f) d.qual d.scope (He.fAd K d.at_) cdv A outer s w.H E)) ⟨d.scope, fun _ => true, N f⟩ := ⟨rfl, rfl, rfl, S.nd⟩
      unfold bodyC at s4
      rw [h3, if_neg Bool.false_ne_true] at s4
      have sb := bl_ok (ckS_ok g ck PassesOwn.never hlp fuel) s4
      unfold Py.callD at hc
      rw [Py.callK_succ, h2] at hc
      simp only at hc
      by_cases hl : (ds.map Py.O.d).length = py.ar
      case neg => rw [if_neg hl] at hc; cases hc
      rw [if_pos hl] at hc
      have rs0 : RS T w (L2.start (N f) vs) ⟨Py.start py (ds.map Py.O.d), sto⟩ := by
        refine start_rs rs (by rw [List.length_map]; exact rp.length) s2 ?_ fun i v o' hv ho => ?_
        · rw [hl, s1]
          have := congrArg List.length S.pre
          rw [List.length_take] at this
          omega
        · rw [List.getElem?_map] at ho
          cases hd : ds[i]? with
          | none => rw [hd] at ho; cases ho
          | some x =>
            rw [hd] at ho
            cases ho
            obtain ⟨v', hv', rv⟩ := rp.get hd
            rw [hv] at hv'
            cases hv'
            exact .d rv
      refine ⟨WB (Cx.nox (cxOf CX0 Pg w0 K mg base (N f) d.qual d.scope (He.fAd K d.at_) cdv A outer s w.H E)) d.body, PSs.nox pb_self, ?_⟩
      split at hc
      · rename_i o' s' e
        simp only [Option.some.injEq, Prod.mk.injEq] at hc
        obtain ⟨rfl, rfl⟩ := hc
        refine sb w _ _ _ _ rs0 e _ fun w' σ' st rs' => ?_
        exact fun v r => q v w' st rs'.bare r
      · rename_i s' e
        simp only [Option.some.injEq, Prod.mk.injEq] at hc
        obtain ⟨rfl, rfl⟩ := hc
        refine sb w _ _ _ _ rs0 e _ fun w' σ' st rs' => ?_
        exact q .non w' st rs'.bare (Res.d .non)
      · cases hc
    · obtain ⟨s1, s2, S, s4⟩ := H.st f d py h1 h2
      rw [show 2 * (m + 1) = (2 * m + 1) + 1 by omega]
      refine (H.fdf f d h1).ok S (fun vs H Q E h => h.1) fun cdv A outer s H' vs Q E hr hsp => ?_
      obtain ⟨hlen, w, x, us, ds, sto, l, sto', rfl, rfl, rs, hx, ri, _, rp, hc, q⟩ := hsp
      have g : GOk T (Py.cxK lp P m py.own py.cel) (Cx.nox (cxOf CX0 Pg w0 K mg base (N f) d.qual d.scope (He.fAd K d.at_) cdv A outer s w.H E)) (2 * m) G := gok H lv rfl rfl rfl rfl rfl rfl hr
      have ck : COk (Cx.nox (cxOf CX0 Pg w0 K mg base (N f) d.qual d.scope (He.fAd K d.at_) cdv A outer s w.H E)) ⟨d.scope, fun _ => true, N f⟩ := ⟨rfl, rfl, rfl, S.nd⟩
      have hini : isIni P f = true := by
        unfold isIni
        obtain ⟨l1, l2, e, _⟩ := List.lookup_eq_some_iff.mp h0
        refine List.any_eq_true.mpr ⟨(qc, f), ?_, by simp⟩
        rw [e]
        simp
      unfold bodyC at s4
      rw [hini, if_pos rfl] at s4
      have sb := blF_ok (ckF_ok g ck fuel) s4
      unfold Py.makeD at hc
      rw [h0] at hc
      simp only at hc
      rw [Py.callK_succ, h2] at hc
      simp only at hc
      by_cases hl : (Py.O.ins qc [] :: ds.map Py.O.d).length = py.ar
      case neg => rw [if_neg hl] at hc; cases hc
      rw [if_pos hl] at hc
      have hle : (Py.O.ins qc [] :: ds.map Py.O.d).length ≤ (N f).length := by
        rw [hl, s1]
        have := congrArg List.length S.pre
        rw [List.length_take] at this
        omega
      have rs0 : RS T w (L2.start (N f) (.ref x :: us)) ⟨Py.start py (Py.O.ins qc [] :: ds.map Py.O.d), sto⟩ := by
        refine start_rs rs (by rw [List.length_cons, List.length_cons, List.length_map, rp.length]) s2 hle fun i v o' hv ho => ?_
        cases i with
        | zero =>
          simp only [List.getElem?_cons_zero, Option.some.injEq] at hv ho
          subst hv ho
          exact ri
        | succ i =>
          simp only [List.getElem?_cons_succ] at hv ho
          rw [List.getElem?_map] at ho
          cases hd : ds[i]? with
          | none => rw [hd] at ho; cases ho
          | some y =>
            rw [hd] at ho
            cases ho
            obtain ⟨v', hv', rv⟩ := rp.get hd
            rw [hv] at hv'
            cases hv'
            exact .d rv
      refine ⟨WB (Cx.nox (cxOf CX0 Pg w0 K mg base (N f) d.qual d.scope (He.fAd K d.at_) cdv A outer s w.H E)) d.body, PSs.nox pb_self, ?_⟩
      split at hc
      · rename_i s' e
        split at hc
        · rename_i q' l' he
          split at hc
          · rename_i hq
            subst hq
            simp only [Option.some.injEq, Prod.mk.injEq] at hc
            obtain ⟨rfl, rfl⟩ := hc
            refine sb w _ _ _ rs0 e _ fun w' st rs' => ?_
            have h0' : (L2.start (N f) (.ref x :: us))[0]? = some (some (.ref x)) := rfl
            obtain ⟨v, e1, st2, rs2, r2⟩ := rs'.freezeX he
            rw [h0'] at e1
            cases e1
            exact q (frz w' (.slot 0)) (st.trans st2) rs2.bare r2
          · cases hc
        · cases hc
      · cases hc
end
end PyS
end

section
set_option Elab.async false
set_option linter.all false
set_option maxRecDepth 100000
set_option maxHeartbeats 4000000
/-! ZL: from what the head tells to the law. -/
namespace PyS
open PySem L2
theorem nmOf_inj {l : List Str} (h : l.Nodup) (h2 : l.all (fun x => x.cps.toList.all (· < 0x110000)) = true) : ∀ f g, nmOf l f = nmOf l g → f = g := by
  have up : ∀ (f : Nat) (x : Str), l[f]? = some x → ∀ g : Nat, x ≠ (⟨#[0x110000 + g]⟩ : Str) := by
    intro f x hf g e
    have := List.all_eq_true.mp h2 x (List.mem_of_getElem? hf)
    rw [e] at this
    simp at this
    omega
  intro f g e
  unfold nmOf at e
  cases hf : l[f]? with
  | some x =>
    rw [hf] at e
    cases hg : l[g]? with
    | some y =>
      rw [hg] at e
      have e : x = y := e
      subst e
      obtain ⟨l1, e1⟩ := List.getElem?_eq_some_iff.mp hf
      obtain ⟨l2, e2⟩ := List.getElem?_eq_some_iff.mp hg
      by_cases hlt : f < g
      · exact absurd (e1.trans e2.symm) (List.pairwise_iff_getElem.mp h f g l1 l2 hlt)
      · by_cases hgt : g < f
        · exact absurd (e2.trans e1.symm) (List.pairwise_iff_getElem.mp h g f l2 l1 hgt)
        · omega
    | none =>
      rw [hg] at e
      exact absurd e (up f x hf g)
  | none =>
    rw [hf] at e
    cases hg : l[g]? with
    | some y =>
      rw [hg] at e
      exact absurd e.symm (up g y hg f)
    | none =>
      rw [hg] at e
      simpa using e
def Pk.tb (k : Pk) (K : PySem.W.Frag) : Tb := ⟨K, fun q => (k.cn.lookup q).map (He.ga K), fun f => (k.fn[f]?).map fun d => He.fAd K d.at_, nmOf k.nms, k.nms.length⟩
def scB (N ps : List Str) (sc : Scope) : Bool :=
  (match sc.kind with | .function => true | _ => false) && !sc.isCoroutine && !sc.isGenerator && decide N.Nodup && decide (N.take ps.length = ps) &&
    (ps.all fun x => match sc.names.lookup x with | some .local => true | some .cell => true | _ => false) && sc.names.all fun y => match y.2 with | .free => false | _ => true
theorem scB_ok {N ps : List Str} {sc : Scope} (h : scB N ps sc = true) : FnScope N ps sc := by
  unfold scB at h
  simp only [Bool.and_eq_true, Bool.not_eq_true', decide_eq_true_eq, List.all_eq_true] at h
  obtain ⟨⟨⟨⟨⟨⟨h1, h2⟩, h3⟩, h4⟩, h5⟩, h6⟩, h7⟩ := h
  refine ⟨?_, h2, h3, h4, h5, fun x hx => ?_, fun y hy e => ?_⟩
  · split at h1
    · assumption
    · cases h1
  · have := h6 x hx
    split at this
    · rename_i e; exact .inl e
    · rename_i e; exact .inr e
    · cases this
  · have := h7 y hy
    rw [e] at this
    cases this
/-- one def's text, scope and code -/
def Pk.defC (k : Pk) (f : Nat) : Bool := match k.fn[f]?, k.P.defs[f]? with
  | some d, some py => d.dfl.isEmpty && d.kwd.isEmpty && decide (py.ar = (k.ps.getD f []).length) && decide (py.sl = (k.N.getD f []).length) && scB (k.N.getD f []) (k.ps.getD f []) d.scope && bodyC k.G k.P f d.scope (k.N.getD f []) py.body d.body
  | _, _ => false
def Pk.atC (k : Pk) (y : Str) (f : Nat) : Bool := match k.fn[f]? with
  | some d => decide (d.at_ = (y, none)) && !isIni k.P f && decide (f < k.P.defs.length)
  | none => false
def Pk.allC (k : Pk) : Bool :=
  (k.G.fns.all fun p => k.atC p.1 p.2) && (k.G.kws.all fun p => k.atC p.1 p.2.1) && (k.G.cls.all fun p => decide (k.cn.lookup p.2 = some p.1)) &&
    (k.G.mks.all fun p => decide (k.cn.lookup p.2 = some p.1) && (match k.P.ini.lookup p.2 with
      | some f => (match k.fn[f]? with
        | some d => decide (d.at_ = (p.1, some ("__init__" : Str))) && decide (f < k.P.defs.length)
        | none => false)
      | none => false)) &&
    decide k.nms.Nodup && k.nms.all (fun x => x.cps.toList.all (· < 0x110000)) && decide (k.G.na = k.nms.length)
section
variable {k : Pk} {K : PySem.W.Frag} {h : Heap} {mg : Str → Option Value}
theorem mem_lookup {l : List (Nat × Str)} {q : Nat} {y : Str} (e : l.lookup q = some y) : (q, y) ∈ l := by
  obtain ⟨l1, l2, h, _⟩ := List.lookup_eq_some_iff.mp e
  rw [h]
  simp
theorem clss_of {c : He.SaysD k.fa k.fn K} (hx : k.ex K = true) (ha : k.allC = true) : Clss (k.tb K) := by
  unfold Pk.ex at hx
  simp only [Bool.and_eq_true, List.all_eq_true] at hx
  obtain ⟨⟨x1, x2⟩, x3⟩ := hx
  unfold Pk.allC at ha
  simp only [Bool.and_eq_true, decide_eq_true_eq] at ha
  obtain ⟨⟨⟨⟨⟨⟨a1, a2⟩, a3⟩, a4⟩, a5⟩, a6⟩, a7⟩ := ha
  have at_ : ∀ q C, (k.tb K).cls q = some C → ∃ y, k.cn.lookup q = some y ∧ C = He.ga K y := by
    intro q C e
    have e : (k.cn.lookup q).map (He.ga K) = some C := e
    cases z : k.cn.lookup q with
    | none => rw [z] at e; cases e
    | some y =>
      rw [z] at e
      cases e
      exact ⟨y, rfl, rfl⟩
  refine ⟨nmOf_inj a5 a6, fun q C f e hf => ?_, fun q C e => ?_, fun q q' C C' e e' => ?_⟩
  · obtain ⟨y, e1, rfl⟩ := at_ q C e
    obtain ⟨_, z⟩ := x3 _ (mem_lookup e1)
    have hf : f < k.nms.length := hf
    have hm : nmOf k.nms f ∈ k.nms := by
      unfold nmOf
      rw [List.getElem?_eq_getElem hf]
      exact List.getElem_mem hf
    exact He.eqO_ok (z _ hm)
  · obtain ⟨y, e1, rfl⟩ := at_ q C e
    obtain ⟨⟨⟨⟨⟨z1, z2⟩, z3⟩, z4⟩, z5⟩, z6⟩ := x3 _ (mem_lookup e1)
    refine ⟨He.cls_ok (c.facts (f := .cls y) ?_), He.eqO_ok z1, He.eqO_ok x1, of_decide_eq_true x2, of_decide_eq_true z2, fun n hn => of_decide_eq_true (z3 n hn), fun n hn => of_decide_eq_true (z4 n hn)⟩
    unfold Pk.fa
    exact List.mem_append_right _ (List.mem_map.mpr ⟨_, mem_lookup e1, rfl⟩)
  · obtain ⟨y, e1, rfl⟩ := at_ q C e
    obtain ⟨y', e2, rfl⟩ := at_ q' C' e'
    obtain ⟨⟨⟨⟨⟨z1, z2⟩, z3⟩, z4⟩, z5⟩, z6⟩ := x3 _ (mem_lookup e1)
    exact of_decide_eq_true (z5 _ (mem_lookup e2))
end
end PyS
end

section
set_option Elab.async false
set_option linter.all false
set_option maxRecDepth 100000
set_option maxHeartbeats 4000000
/-! ZM: the head's word, and the law's. -/
namespace PyS
open PySem L2
section
variable {k : Pk} {K : PySem.W.Frag} {h : Heap} {mg : Str → Option Value}
/-- how the defs bind what is given -/
def BndAll (k : Pk) : Prop := ∀ f d, k.fn[f]? = some d → ∀ (kV doc pm : Value) (an : Option Addr) (cdv ct : Value) (us : List Value), us.length = (k.ps.getD f []).length →
  bindArgs (PySem.W.fnOf d.name d.qual d.params d.body d.scope .none kV doc pm an cdv ct) ⟨us, []⟩ = pure ((k.ps.getD f []).zip us)
def KwAll (k : Pk) : Prop := ∀ p ∈ k.G.kws, ∀ d, k.fn[p.2.1]? = some d → p.2.2.2.2.length = (k.ps.getD p.2.1 []).length ∧ ∀ (kV doc pm : Value) (an : Option Addr) (cdv ct : Value) (us ws : List Value), us.length = p.2.2.1 → ws.length = p.2.2.2.1.length →
  bindArgs (PySem.W.fnOf d.name d.qual d.params d.body d.scope .none kV doc pm an cdv ct) ⟨us, p.2.2.2.1.zip ws⟩ = pure ((k.ps.getD p.2.1 []).zip (pick p.2.2.2.2 Value.none (us ++ ws)))
theorem hd_of {w : World} (X : K.In h) (Gm : h.Ns mainGlobals mg) (c : He.SaysX k.fa k.fn [] [] k.ex w h K) (ha : k.allC = true) (hn : k.G.nm = nmOf k.nms) (hd : ∀ f, f < k.fn.length → k.defC f = true) (bnd : BndAll k) (kwb : KwAll k) :
    ∃ fd, Hd (k.tb K) K mg k.G k.P k.fn fd (fun f => k.ps.getD f []) (fun f => k.N.getD f []) := by
  have cd : He.SaysD k.fa k.fn K := c.t.d
  have ex : ∀ f : Nat, ∃ fd : FuncData, ∀ d : He.DefD, k.fn[f]? = some d → FunD K d.name d.qual d.params d.body d.scope (d.dvs K) (d.kws K) (He.fAd K d.at_) fd := by
    intro f
    cases e : k.fn[f]? with
    | none => exact ⟨default, fun d h => by cases h⟩
    | some d =>
      obtain ⟨fd, F⟩ := cd.def_ f e
      exact ⟨fd, fun d' h => by cases h; exact F⟩
  have facts : ∀ f, f < k.fn.length → ∃ d py, k.fn[f]? = some d ∧ k.P.defs[f]? = some py ∧ d.dfl = [] ∧ d.kwd = [] ∧ py.ar = (k.ps.getD f []).length ∧ py.sl = (k.N.getD f []).length ∧ FnScope (k.N.getD f []) (k.ps.getD f []) d.scope ∧ bodyC k.G k.P f d.scope (k.N.getD f []) py.body d.body = true := by
    intro f hf
    have := hd f hf
    unfold Pk.defC at this
    split at this
    · rename_i d py e1 e2
      simp only [Bool.and_eq_true, decide_eq_true_eq, List.isEmpty_iff] at this
      obtain ⟨⟨⟨⟨⟨h1, h2⟩, h3⟩, h4⟩, h5⟩, h6⟩ := this
      exact ⟨d, py, e1, e2, h1, h2, h3, h4, scB_ok h5, h6⟩
    · cases this
  have lt : ∀ {f d}, k.fn[f]? = some d → f < k.fn.length := fun e => (List.getElem?_eq_some_iff.mp e).1
  have F0 : ∀ f d, k.fn[f]? = some d → FunD K d.name d.qual d.params d.body d.scope [] [] (He.fAd K d.at_) (Classical.choose (ex f)) := by
    intro f d e
    have F := Classical.choose_spec (ex f) d e
    obtain ⟨d', py, e1, _, z1, z2, _⟩ := facts f (lt e)
    rw [e] at e1
    cases e1
    unfold He.DefD.dvs He.DefD.kws at F
    rw [z1, z2] at F
    exact F
  have ha' := ha
  unfold Pk.allC at ha
  simp only [Bool.and_eq_true, decide_eq_true_eq, List.all_eq_true] at ha
  obtain ⟨⟨⟨⟨⟨⟨a1, a2⟩, a3⟩, a4⟩, a5⟩, a6⟩, a7⟩ := ha
  have fact : ∀ f : He.Fa, f ∈ k.fa → f.ok K = true := fun f hf => cd.facts hf
  have at_ : ∀ {y f}, k.atC y f = true → ∃ d py, k.fn[f]? = some d ∧ k.P.defs[f]? = some py ∧ He.fAd K d.at_ = He.ga K y ∧ isIni k.P f = false := by
    intro y f e
    unfold Pk.atC at e
    split at e
    · rename_i d ed
      simp only [Bool.and_eq_true, Bool.not_eq_true', decide_eq_true_eq] at e
      obtain ⟨⟨e1, e2⟩, e3⟩ := e
      exact ⟨d, _, ed, List.getElem?_eq_getElem e3, by rw [e1]; rfl, e2⟩
    · cases e
  refine ⟨fun f => Classical.choose (ex f), ⟨rfl, clss_of (c := cd) c.more ha', hn.symm, a7.symm, fun y f e => ?_, fun y f n ks pm e => ?_, fun y i e => ?_, fun y q e => ?_, fun y q e => ?_, fun y e => ?_, fun f d e => ?_, F0, fun f d py e1 e2 => ?_⟩⟩
  · obtain ⟨d, py, e1, e2, e3, e4⟩ := at_ (a1 _ e)
    refine ⟨d, py, e1, e2, ?_, ?_, e4⟩
    · rw [e3]
      refine He.glo_ok X Gm (fact _ ?_)
      unfold Pk.fa
      simp only [List.mem_append, List.mem_map]
      exact .inl (.inl (.inl (.inl (.inl (.inl (.inr ⟨_, e, rfl⟩))))))
    · show (k.fn[f]?).map _ = _
      rw [e1]
      rfl
  · obtain ⟨d, py, e1, e2, e3, e4⟩ := at_ (a2 _ e)
    obtain ⟨k1, k2⟩ := kwb _ e d e1
    refine ⟨d, py, e1, e2, ?_, e4, ?_, k1⟩
    · rw [e3]
      refine He.glo_ok X Gm (fact _ ?_)
      unfold Pk.fa
      simp only [List.mem_append, List.mem_map]
      exact .inl (.inl (.inl (.inl (.inl (.inr ⟨_, e, rfl⟩)))))
    · intro s us ws l1 l2
      obtain ⟨oc, od, dV, kV, doc, pmv, an, cdv, ct, osl, e5, lk, hcd, hD, hK⟩ := (F0 f d e1).ex
      rcases hD with ⟨_, rfl⟩ | ⟨z, _⟩
      · show BindsTo s (Classical.choose (ex f)) _ _
        rw [e5]
        exact .of_eq (k2 kV doc pmv an cdv ct us ws l1 l2)
      · exact absurd rfl z
  · refine He.int_ok X Gm (fact (.int y i) ?_)
    unfold Pk.fa
    simp only [List.mem_append, List.mem_map]
    exact .inl (.inl (.inl (.inl (.inr ⟨_, e, rfl⟩))))
  · refine ⟨He.ga K y, He.glo_ok X Gm (fact _ ?_), ?_⟩
    · unfold Pk.fa
      simp only [List.mem_append, List.mem_map]
      exact .inl (.inl (.inl (.inr ⟨_, e, rfl⟩)))
    · show (k.cn.lookup q).map _ = _
      rw [a3 _ e]
      rfl
  · obtain ⟨b1, b2⟩ := a4 _ e
    split at b2
    · rename_i f ef
      split at b2
      · rename_i d ed
        simp only [Bool.and_eq_true, decide_eq_true_eq] at b2
        refine ⟨He.ga K y, f, d, _, ef, ed, List.getElem?_eq_getElem b2.2, He.glo_ok X Gm (fact _ ?_), ?_, ?_⟩
        · unfold Pk.fa
          simp only [List.mem_append, List.mem_map]
          exact .inl (.inr ⟨_, e, rfl⟩)
        · show (k.cn.lookup q).map _ = _
          rw [b1]
          rfl
        · rw [b2.1]
          refine He.mkr_ok (fact (.mkr y) ?_)
          unfold Pk.fa
          simp only [List.mem_append, List.mem_map]
          exact .inl (.inl (.inr ⟨_, e, rfl⟩))
      · cases b2
    · cases b2
  · refine He.free_ok X Gm (fact _ ?_)
    unfold Pk.fa
    simp only [List.mem_append, List.mem_map]
    exact .inl (.inl (.inl (.inl (.inl (.inl (.inl ⟨_, e, rfl⟩))))))
  · exact (F0 f d e).bindsN (bnd f d e)
  · obtain ⟨d', py', g1, g2, _, _, g3, g4, g5, g6⟩ := facts f (lt e1)
    rw [e1] at g1
    cases g1
    rw [e2] at g2
    cases g2
    exact ⟨g3, g4, g5, g6⟩
theorem reps_ints {G : Hp} {φ : List Addr} {T : Tb} : ∀ ns : List Int, Reps T G φ (ns.map V.int) (ns.map Py.D.int)
  | [] => .nil
  | n :: ns => .cons (.int n) (reps_ints ns)
/-- the law's own promise -/
theorem law_sp {T : Tb} {call : Nat → List Py.D → List Py.O → Option (Py.O × List Py.O)} {f : Nat} {H : Hp} {a : Addr} {ns : List Int} {E : XK} {sto : List Py.O} (hS : SqL T.K H a (ns.map V.int)) (hc : call f [.scr (ns.map .int)] [] = some (.d (.bl true), sto)) :
    spF T call f 1 [.ref a] H (fun v _ => v = .bl true) E := by
  refine ⟨rfl, ⟨H, [], H, fun _ => none⟩, _, [], _, sto, rfl, ⟨⟨fun _ _ h => h, fun _ _ h => by cases h⟩, fun i o h => by simp at h, fun n o h => by simp at h, rfl, rfl⟩, .cons (.scr hS (reps_ints ns)) .nil, hc, fun v w' _ _ r => ?_⟩
  have := r.of_d
  cases this
  rfl
theorem lp_ok : LpOk Py.loop := by
  intro f s r h
  unfold Py.loop at h
  split at h
  · rename_i hx
    have := hx.choose_spec
    rw [Option.some.inj h] at this
    exact this
  · cases h
/-- the whole: what is left is plain -/
theorem law_walk {l : PySem.W.OpenLaw} {q : Program} {loose : List Str} {d : DefRec} {XP : (Str → Option Value) → Heap → Prop} {n f m : Nat} {dd : He.DefD} {py : Py.Def} (hn : l.most = some n) (hn2 : n ≤ sizeLine) (hdf : d.params.defaults = []) (hm : m ≤ 100)
    (hcA : Room (2 * m) callerA) (hnm : d.name = ("law" : Str))
    (ha : k.allC = true) (hg : k.G.nm = nmOf k.nms) (hd : ∀ f, f < k.fn.length → k.defC f = true) (bnd : BndAll k) (kwb : KwAll k)
    (e1 : k.fn[f]? = some dd) (e2 : k.P.defs[f]? = some py) (e3 : isIni k.P f = false) (e4 : dd.at_ = (("law" : Str), none)) (e5 : k.ps.getD f [] = [("script" : Str)]) (e6 : (("law" : Str), f) ∈ k.G.fns)
    (plain : ∀ ns : List Int, ns.length ≤ n → ∃ sto, Py.callD Py.loop k.P m f [.scr (ns.map .int)] [] = some (.d (.bl true), sto)) :
    PySem.W.WalkO q loose XP (He.hookX 4 k.fa k.fn [] [] k.ex).says l.row.toRowW d [] (fun f vs => PySem.call f vs) := by
  refine L2.walk_ofE (l := l) (n := n) (k := 2 * m) (x := "script") (CX := L2.CX0) hn hn2 hdf hcA ?_ (fun _ _ _ _ z => z)
  intro w mg fa h Y Gm hmg
  obtain ⟨K, KX, c⟩ := Y
  obtain ⟨fd, H⟩ := hd_of (k := k) KX Gm c ha hg hd bnd kwb
  obtain ⟨d', py', g1, g2, g3, g4, g5⟩ := H.fns _ _ e6
  rw [e1] at g1
  cases g1
  rw [hnm] at hmg
  rw [hmg] at g3
  cases g3
  refine ⟨K, fd f, spF (k.tb K) (Py.callD Py.loop k.P m) f 1, KX, fun s u => ?_, fun Hh a ns hl _ hS => ?_, fun base hb1 hb2 => ?_⟩
  · have F := (H.fdf f dd e1)
    have b := FunD.bindsA (ps := ["script"]) F (by
      have := bnd f dd e1
      rw [e5] at this
      exact this) s [u] rfl
    exact b
  · obtain ⟨sto, hc⟩ := plain ns hl
    exact law_sp hS hc
  · have lv := lv_ok (Pg := l.prog) (w0 := w) (base := base) H lp_ok m
    have := lv.f f dd py e1 e2 e3
    simp only [e5] at this
    exact this
end
end PyS
end

section
set_option linter.all false
set_option Elab.async false
namespace Py
/-! P0: the interpreter, for simp. -/
theorem cxK_call {lp : (St → Option (St ⊕ (Out × St))) → St → Option (Out × St)} {P : Prog} {k : Nat} {o l : List Nat} : (cxK lp P k o l).call = callD lp P k := rfl
theorem cxK_make {lp : (St → Option (St ⊕ (Out × St))) → St → Option (Out × St)} {P : Prog} {k : Nat} {o l : List Nat} : (cxK lp P k o l).make = makeD lp P k := rfl
theorem cxK_lp {lp : (St → Option (St ⊕ (Out × St))) → St → Option (Out × St)} {P : Prog} {k : Nat} {o l : List Nat} : (cxK lp P k o l).lp = lp := rfl
theorem cxK_own {lp : (St → Option (St ⊕ (Out × St))) → St → Option (Out × St)} {P : Prog} {k : Nat} {o l : List Nat} : (cxK lp P k o l).own = o := rfl
theorem cxK_cel {lp : (St → Option (St ⊕ (Out × St))) → St → Option (Out × St)} {P : Prog} {k : Nat} {o l : List Nat} : (cxK lp P k o l).cel = l := rfl
/-- a def's end -/
def fin : Option (Out × St) → Option (O × List O)
  | some (.ret o, s) => some (o, s.sto)
  | some (.nx, s) => some (.d .non, s.sto)
  | _ => none
theorem callD_at {lp : (St → Option (St ⊕ (Out × St))) → St → Option (Out × St)} {P : Prog} {k f : Nat} {ds : List D} {sto : List O} {d : Def} (h : P.defs[f]? = some d) (h2 : ds.length = d.ar) :
    callD lp P (k + 1) f ds sto = fin (exs (cxK lp P k d.own d.cel) d.body ⟨start d (ds.map .d), sto⟩) := by
  unfold callD
  rw [callK_succ, h]
  simp only [List.length_map, h2, if_true]
  rfl
end Py
namespace Py
section
variable {c : Cx}
/-! ### loops -/
theorem iter_det {α β : Type} {f : α → Option (α ⊕ β)} : ∀ {n m : Nat} {a : α} {b b' : β}, iter f n a = some b → iter f m a = some b' → b = b'
  | 0, _, _, _, _, h, _ => by cases h
  | _ + 1, 0, _, _, _, _, h => by cases h
  | n + 1, m + 1, a, b, b', h, h' => by
    rw [iter] at h h'
    cases e : f a with
    | none => rw [e] at h; cases h
    | some z =>
      rw [e] at h h'
      cases z with
      | inl a' => exact iter_det h h'
      | inr y => simp only [Option.some.injEq] at h h'; rw [← h, ← h']
theorem loop_of {α β : Type} {f : α → Option (α ⊕ β)} {n : Nat} {a : α} {b : β} (h : iter f n a = some b) : loop f a = some b := by
  have hx : ∃ b, ∃ n, iter f n a = some b := ⟨b, n, h⟩
  unfold loop
  rw [dif_pos hx]
  obtain ⟨m, hm⟩ := hx.choose_spec
  exact congrArg some (iter_det hm h)
theorem loop_go {α β : Type} {f : α → Option (α ⊕ β)} {a a' : α} {b : β} (h : f a = some (.inl a')) (h2 : ∃ n, iter f n a' = some b) : ∃ n, iter f n a = some b := by
  obtain ⟨n, h2⟩ := h2
  exact ⟨n + 1, by rw [iter, h]; exact h2⟩
theorem loop_end {α β : Type} {f : α → Option (α ⊕ β)} {a : α} {b : β} (h : f a = some (.inr b)) : ∃ n, iter f n a = some b := ⟨1, by rw [iter, h]⟩
/-- a for whose turns all go on -/
theorem for_fold {α : Type} {f : D → St → Option (Out × St)} (R : α → St → Prop) (step : α → D → α) : ∀ {xs : List D} {a : α} {s : St}, (∀ a x s, x ∈ xs → R a s → ∃ s', (f x s = some (.nx, s') ∨ f x s = some (.cont, s')) ∧ R (step a x) s') → R a s →
    ∃ s', forLoop f xs s = some (.nx, s') ∧ R (xs.foldl step a) s'
  | [], a, s, _, h => ⟨s, rfl, h⟩
  | x :: xs, a, s, hs, h => by
    obtain ⟨s1, h1, h2⟩ := hs a x s List.mem_cons_self h
    obtain ⟨s2, h3, h4⟩ := for_fold R step (fun a y s hy => hs a y s (List.mem_cons_of_mem _ hy)) h2
    refine ⟨s2, ?_, h4⟩
    rw [forLoop]
    rcases h1 with h1 | h1 <;> rw [h1] <;> exact h3
/-! ### comprehensions -/
theorem wipe_len (env : List (Option O)) : ∀ vs : List Nat, (wipe env vs).length = env.length
  | [] => rfl
  | v :: vs => by unfold wipe; rw [List.length_set, wipe_len env vs]
theorem putBack_wipe (e old : List (Option O)) : ∀ vs : List Nat, putBack (wipe e vs) old vs = putBack e old vs := by
  have key : ∀ (vs us : List Nat), (∀ v ∈ us, v ∈ vs) → putBack (wipe e us) old vs = putBack e old vs := by
    intro vs us h
    apply List.ext_getElem?
    intro j
    have g : ∀ (e' : List (Option O)) (ws : List Nat), (putBack e' old ws)[j]? = if j ∈ ws ∧ j < e'.length then some (dOnly old j) else e'[j]? := by
      intro e' ws
      induction ws with
      | nil => simp [putBack]
      | cons w ws ih =>
        have hl : (putBack e' old ws).length = e'.length := by
          clear ih
          induction ws with
          | nil => rfl
          | cons x xs ih => unfold putBack; rw [List.length_set, ih]
        unfold putBack
        rw [List.getElem?_set, hl, ih]
        by_cases e1 : w = j
        · subst e1
          by_cases hl : w < e'.length <;> simp [hl]
        · simp [e1, Ne.symm e1]
    have w1 : ∀ ws : List Nat, (wipe e ws)[j]? = if j ∈ ws ∧ j < e.length then some none else e[j]? := by
      intro ws
      induction ws with
      | nil => simp [wipe]
      | cons w ws ih =>
        unfold wipe
        rw [List.getElem?_set, wipe_len, ih]
        by_cases e1 : w = j
        · subst e1
          by_cases hl : w < e.length <;> simp [hl]
        · simp [e1, Ne.symm e1]
    rw [g, g, wipe_len, w1]
    by_cases hj : j ∈ vs ∧ j < e.length
    · rw [if_pos hj, if_pos hj]
    · rw [if_neg hj, if_neg hj, if_neg fun q => hj ⟨h j q.1, q.2⟩]
  exact fun vs => key vs vs fun _ h => h
/-- a comprehension whose turns change nothing: G tells what each item gives (none: left out) -/
theorem lc_run {t : Tg} {cs : List E} {el : E} {W : List (Option O)} {sto : List O} {G : D → Option D} : ∀ {xs acc : List D} {e : List (Option O)}, wipe e t.slots = W →
    (∀ x ∈ xs, ∃ env b s2, bindT t x W = some env ∧ evT c cs ⟨env, sto⟩ = some (b, s2) ∧ ((b = true ∧ ∃ o s3, ev c false el s2 = some (o, s3) ∧ G x = some o.toD ∧ s3.sto = sto ∧ wipe s3.env t.slots = W) ∨ (b = false ∧ G x = none ∧ s2.sto = sto ∧ wipe s2.env t.slots = W))) →
    ∃ e', wipe e' t.slots = W ∧ lcLoop (fun x s => match bindT t x (wipe s.env t.slots) with
          | some env => match evT c cs { s with env := env } with
            | some (true, s2) => match ev c false el s2 with
              | some (o, s3) => some (some o.toD, s3)
              | none => none
            | some (false, s2) => some (none, s2)
            | none => none
          | none => none) xs acc ⟨e, sto⟩ = some (acc.reverse ++ xs.filterMap G, ⟨e', sto⟩)
  | [], acc, e, hw, _ => ⟨e, hw, by simp [lcLoop]⟩
  | x :: xs, acc, e, hw, h => by
    obtain ⟨env, b, s2, h1, h2, h3⟩ := h x List.mem_cons_self
    have ht : ∀ y ∈ xs, _ := fun y hy => h y (List.mem_cons_of_mem _ hy)
    rcases h3 with ⟨rfl, o, s3, h4, h5, h6, h7⟩ | ⟨rfl, h5, h6, h7⟩
    · obtain ⟨e3, sto3⟩ := s3
      simp only at h6 h7
      subst h6
      obtain ⟨e', k1, k2⟩ := lc_run (acc := o.toD :: acc) h7 ht
      refine ⟨e', k1, ?_⟩
      rw [lcLoop]
      simp only [hw, h1, h2, h4]
      rw [k2, List.filterMap_cons, h5]
      simp
    · obtain ⟨e3, sto3⟩ := s2
      simp only at h6 h7
      subst h6
      obtain ⟨e', k1, k2⟩ := lc_run (acc := acc) h7 ht
      refine ⟨e', k1, ?_⟩
      rw [lcLoop]
      simp only [hw, h1, h2]
      rw [k2, List.filterMap_cons, h5]
theorem ev_lc {m : Bool} {t : Tg} {k : Option Itk} {es cs : List E} {el : E} {s s1 : St} {ds xs : List D} (G : D → Option D) (h1 : evs c es s = some (ds, s1)) (h2 : yields k ds = some xs) (hl : lenOk (xs.filterMap G).length = true)
    (h : ∀ x ∈ xs, ∃ env b s2, bindT t x (wipe s1.env t.slots) = some env ∧ evT c cs ⟨env, s1.sto⟩ = some (b, s2) ∧ ((b = true ∧ ∃ o s3, ev c false el s2 = some (o, s3) ∧ G x = some o.toD ∧ s3.sto = s1.sto ∧ wipe s3.env t.slots = wipe s1.env t.slots) ∨ (b = false ∧ G x = none ∧ s2.sto = s1.sto ∧ wipe s2.env t.slots = wipe s1.env t.slots))) :
    ev c m (.lc t k es cs el) s = some (.lst ((xs.filterMap G).map .d), ⟨putBack s1.env s1.env t.slots, s1.sto⟩) := by
  obtain ⟨e', k1, k2⟩ := lc_run (acc := []) (e := s1.env) rfl h
  rw [ev]
  simp only [h1, h2]
  refine (congrArg (fun (z : Option (List D × St)) => match z with
    | some (ys, s2) => if lenOk ys.length then some (O.lst (ys.map .d), { s2 with env := putBack s2.env s1.env t.slots }) else none
    | none => none) k2).trans ?_
  simp only [List.reverse_nil, List.nil_append, hl, if_true]
  rw [← putBack_wipe e', k1, putBack_wipe]
end
end Py
end

section
set_option linter.all false
set_option Elab.async false
set_option autoImplicit true
/-! Q0: what a run must bring about, rule by rule. -/
namespace Py
/-- stands beside what is not to be rewritten -/
inductive Tk {α : Type} (Q : α → Prop) : Type
  | mk
/-- x ends, and Q holds of its end -/
def Ends {α : Type} (x : Option α) (Q : α → Prop) (_t : Tk Q := Tk.mk) : Prop := ∃ a, x = some a ∧ Q a
theorem ends_congr {α : Type} {x y : Option α} {Q : α → Prop} (h : x = y) : Ends x Q = Ends y Q := by rw [h]
@[simp] theorem ends_some {α : Type} {a : α} {Q : α → Prop} : Ends (some a) Q ↔ Q a := by simp [Ends]
@[simp] theorem ends_none {α : Type} {Q : α → Prop} : Ends none Q ↔ False := by simp [Ends]
@[simp] theorem ends_map {α β : Type} {x : Option α} {f : α → β} {Q : β → Prop} : Ends (x.map f) Q ↔ Ends x fun a => Q (f a) := by cases x <;> simp
@[simp] theorem ends_ite {α : Type} {p : Prop} [Decidable p] {x : Option α} {Q : α → Prop} : Ends (if p then x else none) Q ↔ p ∧ Ends x Q := by by_cases h : p <;> simp [h]
@[simp] theorem ends_ite' {α : Type} {p : Prop} [Decidable p] {x : Option α} {Q : α → Prop} : Ends (if p then none else x) Q ↔ ¬p ∧ Ends x Q := by by_cases h : p <;> simp [h]
@[simp] theorem lenOk_of {n : Nat} (h : n ≤ 1000000) : lenOk n = true := by
  unfold lenOk
  exact decide_eq_true (Nat.le_trans h (by decide))
@[simp] theorem bind_nm {i : Nat} {x : D} {env : List (Option O)} : bindT (.nm i) x env = some (env.set i (some (.d x))) := by rfl
@[simp] theorem bind_tup {l : List Tg} {xs : List D} {env : List (Option O)} : bindT (.tup l) (.tup xs) env = bindT.go l xs env := by rfl
theorem ends_eq {α : Type} {x : Option α} {b : α} (h : Ends x fun a => a = b) : x = some b := by
  obtain ⟨a, h1, h2⟩ := h
  rw [h1, h2]
theorem ends_of {α : Type} {x : Option α} {b : α} {Q : α → Prop} (h : x = some b) (h2 : Q b) : Ends x Q := ⟨b, h, h2⟩
theorem ends_mono {α : Type} {x : Option α} {Q R : α → Prop} (h : Ends x Q) (h2 : ∀ a, Q a → R a) : Ends x R := by
  obtain ⟨a, h1, h3⟩ := h
  exact ⟨a, h1, h2 a h3⟩
/-- o is a bool, of which Q holds -/
def IsB (o : O) (Q : Bool → Prop) (_t : Tk Q := Tk.mk) : Prop := match o with
  | .d (.bl b) => Q b
  | _ => False
theorem isB_congr {x y : O} {Q : Bool → Prop} (h : x = y) : IsB x Q = IsB y Q := by rw [h]
@[simp] theorem isB_bl {b : Bool} {Q : Bool → Prop} : IsB (.d (.bl b)) Q ↔ Q b := by simp only [IsB]
@[simp] theorem isB_lst {l : List O} {Q : Bool → Prop} : IsB (.lst l) Q ↔ False := by simp only [IsB]
@[simp] theorem isB_dic {l : List (D × O)} {Q : Bool → Prop} : IsB (.dic l) Q ↔ False := by simp only [IsB]
@[simp] theorem isB_ins {n : Nat} {l : List (Nat × O)} {Q : Bool → Prop} : IsB (.ins n l) Q ↔ False := by simp only [IsB]
@[simp] theorem isB_non  {Q : Bool → Prop} : IsB (.d .non) Q ↔ False := by simp only [IsB]
@[simp] theorem isB_int {i : Int} {Q : Bool → Prop} : IsB (.d (.int i)) Q ↔ False := by simp only [IsB]
@[simp] theorem isB_str {i : List Nat} {Q : Bool → Prop} : IsB (.d (.str i)) Q ↔ False := by simp only [IsB]
@[simp] theorem isB_ty {i : String} {Q : Bool → Prop} : IsB (.d (.ty i)) Q ↔ False := by simp only [IsB]
@[simp] theorem isB_tup {i : List D} {Q : Bool → Prop} : IsB (.d (.tup i)) Q ↔ False := by simp only [IsB]
@[simp] theorem isB_ls {i : List D} {Q : Bool → Prop} : IsB (.d (.lst i)) Q ↔ False := by simp only [IsB]
@[simp] theorem isB_dc {i : List (D × D)} {Q : Bool → Prop} : IsB (.d (.dic i)) Q ↔ False := by simp only [IsB]
@[simp] theorem isB_is {n : Nat} {i : List (Nat × D)} {Q : Bool → Prop} : IsB (.d (.ins n i)) Q ↔ False := by simp only [IsB]
@[simp] theorem isB_fn {i : Nat} {Q : Bool → Prop} : IsB (.d (.fn i)) Q ↔ False := by simp only [IsB]
@[simp] theorem isB_cls {i : Nat} {Q : Bool → Prop} : IsB (.d (.cls i)) Q ↔ False := by simp only [IsB]
@[simp] theorem isB_cell {i : Nat} {Q : Bool → Prop} : IsB (.d (.cell i)) Q ↔ False := by simp only [IsB]
@[simp] theorem isB_scr {i : List D} {Q : Bool → Prop} : IsB (.d (.scr i)) Q ↔ False := by simp only [IsB]
theorem isB_out {o : O} {Q : Bool → Prop} (h : IsB o Q) : ∃ b, o = .d (.bl b) ∧ Q b := by
  rcases o with d | _ | _ | _
  · cases d <;> first | exact ⟨_, rfl, h⟩ | exact h.elim
  all_goals exact h.elim
def E.isStar : E → Bool
  | .star _ => true
  | _ => false
@[simp] theorem isStar_var  {i : Nat} : (E.var i).isStar = false := by simp only [E.isStar]
@[simp] theorem isStar_mv  {i : Nat} : (E.mv i).isStar = false := by simp only [E.isStar]
@[simp] theorem isStar_keep  {e : E} : (E.keep e).isStar = false := by simp only [E.isStar]
@[simp] theorem isStar_con  {d : D} : (E.con d).isStar = false := by simp only [E.isStar]
@[simp] theorem isStar_tup  {es : List E} : (E.tup es).isStar = false := by simp only [E.isStar]
@[simp] theorem isStar_lst  {es : List E} : (E.lst es).isStar = false := by simp only [E.isStar]
@[simp] theorem isStar_dict  {kvs : List E} : (E.dict kvs).isStar = false := by simp only [E.isStar]
@[simp] theorem isStar_bin  {op : Bop} {a b : E} : (E.bin op a b).isStar = false := by simp only [E.isStar]
@[simp] theorem isStar_neg  {a : E} : (E.neg a).isStar = false := by simp only [E.isStar]
@[simp] theorem isStar_not  {a : E} : (E.not a).isStar = false := by simp only [E.isStar]
@[simp] theorem isStar_and  {a b : E} : (E.and a b).isStar = false := by simp only [E.isStar]
@[simp] theorem isStar_or  {a b : E} : (E.or a b).isStar = false := by simp only [E.isStar]
@[simp] theorem isStar_cmp  {op : Cop} {a b : E} : (E.cmp op a b).isStar = false := by simp only [E.isStar]
@[simp] theorem isStar_chain  {op op' : Cop} {a b c : E} : (E.chain op op' a b c).isStar = false := by simp only [E.isStar]
@[simp] theorem isStar_ife  {c a b : E} : (E.ife c a b).isStar = false := by simp only [E.isStar]
@[simp] theorem isStar_idx  {a i : E} : (E.idx a i).isStar = false := by simp only [E.isStar]
@[simp] theorem isStar_slc  {a : E} {lo hi : Option E} : (E.slc a lo hi).isStar = false := by simp only [E.isStar]
@[simp] theorem isStar_attr  {a : E} {f : Nat} : (E.attr a f).isStar = false := by simp only [E.isStar]
@[simp] theorem isStar_call  {f : Nat} {es : List E} : (E.call f es).isStar = false := by simp only [E.isStar]
@[simp] theorem isStar_calk  {f : Nat} {pm : List Nat} {es : List E} : (E.calk f pm es).isStar = false := by simp only [E.isStar]
@[simp] theorem isStar_calv  {i : Nat} {es : List E} : (E.calv i es).isStar = false := by simp only [E.isStar]
@[simp] theorem isStar_mk  {c : Nat} {es : List E} : (E.mk c es).isStar = false := by simp only [E.isStar]
@[simp] theorem isStar_bi  {b : Bi} {es : List E} : (E.bi b es).isStar = false := by simp only [E.isStar]
@[simp] theorem isStar_bm  {b : Bm} {a : E} {es : List E} : (E.bm b a es).isStar = false := by simp only [E.isStar]
@[simp] theorem isStar_bit  {b : Bi} {k : Itk} {es : List E} : (E.bit b k es).isStar = false := by simp only [E.isStar]
@[simp] theorem isStar_pop  {p : E} {es : List E} : (E.pop p es).isStar = false := by simp only [E.isStar]
@[simp] theorem isStar_lc  {tg : Tg} {k : Option Itk} {es : List E} {cs : List E} {el : E} : (E.lc tg k es cs el).isStar = false := by simp only [E.isStar]
@[simp] theorem isStar_stuck  : (E.stuck ).isStar = false := by simp only [E.isStar]
@[simp] theorem q_bop1 {i : Int} {j : Int} : bop .add (.int i) (.int j) = (some (.d (.int (i + j)))) := by rfl
@[simp] theorem q_bop2 {i : Int} {j : Int} : bop .sub (.int i) (.int j) = (some (.d (.int (i - j)))) := by rfl
@[simp] theorem q_bop3 {i : Int} {j : Int} : bop .mul (.int i) (.int j) = (if mulOk i j then some (.d (.int (i * j))) else none) := by rfl
@[simp] theorem q_bop4 {i : Int} {j : Int} : bop .fdiv (.int i) (.int j) = (if divOk j then some (.d (.int (i.fdiv j))) else none) := by rfl
@[simp] theorem q_bop5 {i : Int} {j : Int} : bop .mod (.int i) (.int j) = (if j = 0 then none else some (.d (.int (i.fmod j)))) := by rfl
@[simp] theorem q_bop6 {i : Int} {j : Int} : bop .pow (.int i) (.int j) = (if decide (0 ≤ j) && decide (j ≤ 1000) && decide (i.natAbs < 2 ^ 64) then some (.d (.int (i ^ j.toNat))) else none) := by rfl
@[simp] theorem q_bop7 {a : List D} {b : List D} : bop .add (.lst a) (.lst b) = (if lenOk (a.length + b.length) then some (.lst ((a ++ b).map .d)) else none) := by rfl
@[simp] theorem q_bop8 {a : List D} {b : List D} : bop .add (.tup a) (.tup b) = (if lenOk (a.length + b.length) then some (.d (.tup (a ++ b))) else none) := by rfl
@[simp] theorem q_bop9 {a : List D} {k : Int} : bop .mul (.lst a) (.int k) = (if decide (0 ≤ k) && lenOk k.toNat && lenOk (a.length * k.toNat) then some (.lst ((List.replicate k.toNat a).flatten.map .d)) else none) := by rfl
@[simp] theorem q_bop10 {a : List D} {k : Int} : bop .mul (.tup a) (.int k) = (if decide (2 ≤ k) && decide (k ≤ 1000) && decide (a.length ≤ 1000) && !a.isEmpty then some (.d (.tup (List.replicate k.toNat a).flatten)) else none) := by rfl
@[simp] theorem q_cop11 {a : D} {b : D} : cop .eq a b = (if eqOk a b then some (D.eqv a b) else none) := by rfl
@[simp] theorem q_cop12 {a : D} {b : D} : cop .ne a b = (if eqOk a b then some (!D.eqv a b) else none) := by rfl
@[simp] theorem q_cop13 {i : Int} {j : Int} : cop .lt (.int i) (.int j) = (some (decide (i < j))) := by rfl
@[simp] theorem q_cop14 {i : Int} {j : Int} : cop .le (.int i) (.int j) = (some (decide (i ≤ j))) := by rfl
@[simp] theorem q_cop15 {i : Int} {j : Int} : cop .gt (.int i) (.int j) = (some (decide (j < i))) := by rfl
@[simp] theorem q_cop16 {i : Int} {j : Int} : cop .ge (.int i) (.int j) = (some (decide (j ≤ i))) := by rfl
@[simp] theorem q_cop17 {l : List D} {x : D} : cop .isin x (.lst l) = (if x.flat && l.all D.flat then some (l.any fun y => D.eqv y x) else none) := by rfl
@[simp] theorem q_cop18 {l : List D} {x : D} : cop .isin x (.tup l) = (if x.flat && l.all D.flat then some (l.any fun y => D.eqv y x) else none) := by rfl
@[simp] theorem q_cop19 {l : List (D × D)} {x : D} : cop .isin x (.dic l) = (if keyOf x then some (dget x l).isSome else none) := by rfl
@[simp] theorem q_cop20 {l : List D} {x : D} : cop .notin x (.lst l) = (if x.flat && l.all D.flat then some (!l.any fun y => D.eqv y x) else none) := by rfl
@[simp] theorem q_cop21 {l : List D} {x : D} : cop .notin x (.tup l) = (if x.flat && l.all D.flat then some (!l.any fun y => D.eqv y x) else none) := by rfl
@[simp] theorem q_cop22 {l : List (D × D)} {x : D} : cop .notin x (.dic l) = (if keyOf x then some !(dget x l).isSome else none) := by rfl
@[simp] theorem q_cop23  : cop .is .non .non = (some true) := by rfl
@[simp] theorem q_cop24 {a : Bool} {b : Bool} : cop .is (.bl a) (.bl b) = (some (a == b)) := by rfl
@[simp] theorem q_cop25  : cop .isnot .non .non = (some false) := by rfl
@[simp] theorem q_cop26 {a : Bool} {b : Bool} : cop .isnot (.bl a) (.bl b) = (some (!(a == b))) := by rfl
@[simp] theorem q_bi27 {l : List D} : bi Bi.len [.lst l] = (some (.d (.int l.length))) := by rfl
@[simp] theorem q_bi28 {l : List D} : bi Bi.len [.tup l] = (some (.d (.int l.length))) := by rfl
@[simp] theorem q_bi29 {l : List D} : bi Bi.len [.scr l] = (some (.d (.int l.length))) := by rfl
@[simp] theorem q_bi30 {i : Int} : bi Bi.abs [.int i] = (some (.d (.int i.natAbs))) := by rfl
@[simp] theorem q_bi31 {i : Int} : bi Bi.int [.int i] = (some (.d (.int i))) := by rfl
@[simp] theorem q_bi32 {b : Bool} : bi Bi.int [.bl b] = (some (.d (.int (if b then 1 else 0)))) := by rfl
@[simp] theorem q_bi33 {l : List D} : bi Bi.list [.lst l] = (some (.lst (l.map .d))) := by rfl
@[simp] theorem q_bi34 {l : List D} : bi Bi.list [.tup l] = (some (.lst (l.map .d))) := by rfl
@[simp] theorem q_bi35 {l : List D} : bi Bi.tuple [.lst l] = (some (.d (.tup l))) := by rfl
@[simp] theorem q_bi36 {l : List D} : bi Bi.tuple [.tup l] = (some (.d (.tup l))) := by rfl
@[simp] theorem q_bi37 {l : List D} : bi Bi.sorted [.lst l] = ((intsD l).bind fun ns => if ns.length < 64 then some (.lst ((isort ns).map fun i => .d (.int i))) else none) := by rfl
@[simp] theorem q_bi38 {l : List D} : bi Bi.sorted [.tup l] = ((intsD l).bind fun ns => if ns.length < 64 then some (.lst ((isort ns).map fun i => .d (.int i))) else none) := by rfl
@[simp] theorem q_bi39 {l : List D} : bi Bi.sum [.lst l] = ((intsD l).map fun ns => .d (.int ns.sum)) := by rfl
@[simp] theorem q_bi40 {l : List D} : bi Bi.sum [.tup l] = ((intsD l).map fun ns => .d (.int ns.sum)) := by rfl
@[simp] theorem q_bi41 {l : List D} : bi Bi.all [.lst l] = ((bls l).map fun bs => .d (.bl (bs.all id))) := by rfl
@[simp] theorem q_bi42 {l : List D} : bi Bi.any [.lst l] = ((bls l).map fun bs => .d (.bl (bs.any id))) := by rfl
@[simp] theorem q_bi43 {i : Int} {j : Int} : bi Bi.min [.int i, .int j] = (some (.d (.int (if j < i then j else i)))) := by rfl
@[simp] theorem q_bi44 {i : Int} {j : Int} : bi Bi.max [.int i, .int j] = (some (.d (.int (if i < j then j else i)))) := by rfl
@[simp] theorem q_bi45 {l : List D} : bi Bi.min [.lst l] = ((intsD l).bind fun ns => match ns with
    | [] => none
    | n :: r => some (.d (.int (r.foldl min n)))) := by rfl
@[simp] theorem q_bi46 {l : List D} : bi Bi.min [.tup l] = ((intsD l).bind fun ns => match ns with
    | [] => none
    | n :: r => some (.d (.int (r.foldl min n)))) := by rfl
@[simp] theorem q_bi47 {l : List D} : bi Bi.max [.lst l] = ((intsD l).bind fun ns => match ns with
    | [] => none
    | n :: r => some (.d (.int (r.foldl max n)))) := by rfl
@[simp] theorem q_bi48 {l : List D} : bi Bi.max [.tup l] = ((intsD l).bind fun ns => match ns with
    | [] => none
    | n :: r => some (.d (.int (r.foldl max n)))) := by rfl
@[simp] theorem q_bi49 {x : D} {t : D} : bi Bi.isinst [x, t] = ((isInst x t).map fun b => .d (.bl b)) := by rfl
@[simp] theorem q_is_int {i : Int} : cop .is (.int i) .non = some false := by rfl
@[simp] theorem q_isnot_int {i : Int} : cop .isnot (.int i) .non = some true := by rfl
@[simp] theorem q_is_str {i : List Nat} : cop .is (.str i) .non = some false := by rfl
@[simp] theorem q_isnot_str {i : List Nat} : cop .isnot (.str i) .non = some true := by rfl
@[simp] theorem q_is_tup {i : List D} : cop .is (.tup i) .non = some false := by rfl
@[simp] theorem q_isnot_tup {i : List D} : cop .isnot (.tup i) .non = some true := by rfl
@[simp] theorem q_is_lst {i : List D} : cop .is (.lst i) .non = some false := by rfl
@[simp] theorem q_isnot_lst {i : List D} : cop .isnot (.lst i) .non = some true := by rfl
@[simp] theorem q_is_dic {i : List (D × D)} : cop .is (.dic i) .non = some false := by rfl
@[simp] theorem q_isnot_dic {i : List (D × D)} : cop .isnot (.dic i) .non = some true := by rfl
@[simp] theorem q_is_bl {i : Bool} : cop .is (.bl i) .non = some false := by rfl
@[simp] theorem q_isnot_bl {i : Bool} : cop .isnot (.bl i) .non = some true := by rfl
@[simp] theorem q_is_non : cop .is .non .non = some true := by rfl
@[simp] theorem q_isnot_non : cop .isnot .non .non = some false := by rfl
theorem q_it1 {l : List D} {i : Int} : item (.d (.lst l)) (.int i) = ((ixN l.length i).bind (l[·]?)).map .d := by rfl
theorem q_it2 {l : List D} {i : Int} : item (.d (.tup l)) (.int i) = ((ixN l.length i).bind (l[·]?)).map .d := by rfl
@[simp] theorem q_it3 {l : List (D × D)} {k : D} : item (.d (.dic l)) k = if keyOf k then (dget k l).map .d else none := by rfl
theorem q_it4 {l : List O} {i : Int} : item (.lst l) (.int i) = (ixN l.length i).bind (l[·]?) := by rfl
@[simp] theorem q_it5 {l : List (D × O)} {k : D} : item (.dic l) k = if keyOf k then (l.find? fun p => D.eqv p.1 k).map (·.2) else none := by rfl
theorem ixN_nat {n j : Nat} (h : j < n) : ixN n (j : Int) = some j := by
  unfold ixN
  rw [if_pos (by omega), if_pos (by omega)]
  simp
@[simp] theorem q_itup0 {a : D} {l : List D} : item (.d (.tup (a :: l))) (.int 0) = some (.d a) := by
  rw [q_it2]
  rw [show (0 : Int) = ((0 : Nat) : Int) from rfl, ixN_nat (by simp)]
  rfl
@[simp] theorem q_itup1 {a b : D} {l : List D} : item (.d (.tup (a :: b :: l))) (.int 1) = some (.d b) := by
  rw [q_it2]
  rw [show (1 : Int) = ((1 : Nat) : Int) from rfl, ixN_nat (by simp)]
  rfl
@[simp] theorem q_itup2 {a b c : D} {l : List D} : item (.d (.tup (a :: b :: c :: l))) (.int 2) = some (.d c) := by
  rw [q_it2]
  rw [show (2 : Int) = ((2 : Nat) : Int) from rfl, ixN_nat (by simp)]
  rfl
@[simp] theorem q_ilst0 {a : D} {l : List D} : item (.d (.lst (a :: l))) (.int 0) = some (.d a) := by
  rw [q_it1]
  rw [show (0 : Int) = ((0 : Nat) : Int) from rfl, ixN_nat (by simp)]
  rfl
@[simp] theorem q_ilst1 {a b : D} {l : List D} : item (.d (.lst (a :: b :: l))) (.int 1) = some (.d b) := by
  rw [q_it1]
  rw [show (1 : Int) = ((1 : Nat) : Int) from rfl, ixN_nat (by simp)]
  rfl
@[simp] theorem q_ilst2 {a b c : D} {l : List D} : item (.d (.lst (a :: b :: c :: l))) (.int 2) = some (.d c) := by
  rw [q_it1]
  rw [show (2 : Int) = ((2 : Nat) : Int) from rfl, ixN_nat (by simp)]
  rfl
@[simp] theorem q_seq1 {l : List D} : seqOf (.lst l) = some l := by rfl
@[simp] theorem q_seq2 {l : List D} : seqOf (.tup l) = some l := by rfl
@[simp] theorem q_seq3 {l : List D} : seqOf (.scr l) = some l := by rfl
@[simp] theorem q_y1 {d : D} : yields none [d] = seqOf d := by rfl
@[simp] theorem q_y2 {k : Itk} {ds : List D} : yields (some k) ds = itk k ds := by rfl
@[simp] theorem q_zip {a b : D} : itk .zip [a, b] = (seqOf a).bind fun x => (seqOf b).map fun y => (x.zip y).map fun p => .tup [p.1, p.2] := by rfl
@[simp] theorem q_enum {a : D} : itk .enum [a] = (seqOf a).map fun x => (x.zipIdx).map fun p => .tup [.int (p.2 : Int), p.1] := by rfl
theorem q_range {n : Nat} (h : n < 2 ^ 24) : itk .range [.int (n : Int)] = some ((List.range n).map fun (j : Nat) => .int (j : Int)) := by
  simp only [itk]
  have h1 : (-(2 : Int) ^ 62 ≤ (n : Int)) := by omega
  have h2 : ((n : Int) < 2 ^ 62) := by omega
  simp only [h1, h2, decide_true, Bool.and_self, if_true, rangeL]
  simp
@[simp] theorem q_bind {α β : Type} {x : Option α} {f : α → Option β} {Q : β → Prop} : Ends (x.bind f) Q ↔ Ends x fun a => Ends (f a) Q := by cases x <;> simp
/-- an object, or what a cell holds -/
def see (o : O) (s : St) : Option (O × St) := match o with
  | .d (.cell n) => (s.sto[n]?).map fun o => (o, s)
  | o => some (o, s)
def noCell : O → Bool
  | .d (.cell _) => false
  | _ => true
@[simp] theorem see_of {o : O} {s : St} (h : noCell o = true) : see o s = some (o, s) := by
  rcases o with d | _ | _ | _ <;> try rfl
  cases d <;> first | rfl | cases h
@[simp] theorem see_cell {n : Nat} {s : St} : see (.d (.cell n)) s = (s.sto[n]?).map fun o => (o, s) := by rfl
@[simp] theorem noCell_0 {l : List O} : noCell (.lst l) = true := by simp only [noCell]
@[simp] theorem noCell_1 {l : List (D × O)} : noCell (.dic l) = true := by simp only [noCell]
@[simp] theorem noCell_2 {n : Nat} {l : List (Nat × O)} : noCell (.ins n l) = true := by simp only [noCell]
@[simp] theorem noCell_3  : noCell (.d .non) = true := by simp only [noCell]
@[simp] theorem noCell_4 {i : Int} : noCell (.d (.int i)) = true := by simp only [noCell]
@[simp] theorem noCell_5 {i : Bool} : noCell (.d (.bl i)) = true := by simp only [noCell]
@[simp] theorem noCell_6 {i : List Nat} : noCell (.d (.str i)) = true := by simp only [noCell]
@[simp] theorem noCell_7 {i : String} : noCell (.d (.ty i)) = true := by simp only [noCell]
@[simp] theorem noCell_8 {i : List D} : noCell (.d (.tup i)) = true := by simp only [noCell]
@[simp] theorem noCell_9 {i : List D} : noCell (.d (.lst i)) = true := by simp only [noCell]
@[simp] theorem noCell_10 {i : List (D × D)} : noCell (.d (.dic i)) = true := by simp only [noCell]
@[simp] theorem noCell_11 {n : Nat} {i : List (Nat × D)} : noCell (.d (.ins n i)) = true := by simp only [noCell]
@[simp] theorem noCell_12 {i : Nat} : noCell (.d (.fn i)) = true := by simp only [noCell]
@[simp] theorem noCell_13 {i : Nat} : noCell (.d (.cls i)) = true := by simp only [noCell]
@[simp] theorem noCell_14 {i : List D} : noCell (.d (.scr i)) = true := by simp only [noCell]
section
variable {c : Cx} {s : St} {m : Bool}
@[simp] theorem w_var {i : Nat} : ev c false (.var i) s = (match s.env[i]? with
    | some (some o) => some (.d o.toD, { s with env := s.env.set i (some (.d o.toD)) })
    | _ => none) := by rfl
@[simp] theorem w_var' {i : Nat} : ev c true (.var i) s = (match s.env[i]? with
    | some (some o) => see o s
    | _ => none) := by rfl
@[simp] theorem w_mv {i : Nat} : ev c m (.mv i) s = (match s.env[i]? with
    | some (some o) => some (o, { s with env := s.env.set i none })
    | _ => none) := by rfl
@[simp] theorem w_con {d : D} : ev c m (.con d) s = some (.d d, s) := by rfl
@[simp] theorem w_keep {e : E} : ev c m (.keep e) s = ev c false e s := by rfl
@[simp] theorem w_tup {es : List E} {K : O × St → Prop} : Ends (ev c m (.tup es) s) K ↔ Ends (evs c es s) fun p => lenOk p.1.length = true ∧ K (.d (.tup p.1), p.2) := by
  rw [show ev c m (.tup es) s = (match evs c es s with
    | some (ds, s1) => if lenOk ds.length then some (.d (.tup ds), s1) else none
    | none => none) from rfl]
  rcases evs c es s with _ | ⟨ds, s1⟩ <;> simp
@[simp] theorem w_lst {es : List E} {K : O × St → Prop} : Ends (ev c m (.lst es) s) K ↔ Ends (evs c es s) fun p => lenOk p.1.length = true ∧ K (.lst (p.1.map .d), p.2) := by
  rw [show ev c m (.lst es) s = (match evs c es s with
    | some (ds, s1) => if lenOk ds.length then some (.lst (ds.map .d), s1) else none
    | none => none) from rfl]
  rcases evs c es s with _ | ⟨ds, s1⟩ <;> simp
@[simp] theorem w_dict {es : List E} {K : O × St → Prop} : Ends (ev c m (.dict es) s) K ↔ Ends (evKs c es s) fun p => keysOk p.1 = true ∧ K (.dic p.1, p.2) := by
  rw [show ev c m (.dict es) s = (match evKs c es s with
    | some (ds, s1) => if keysOk ds then some (.dic ds, s1) else none
    | none => none) from rfl]
  rcases evKs c es s with _ | ⟨ds, s1⟩ <;> simp
@[simp] theorem w_bin {op : Bop} {a b : E} {K : O × St → Prop} : Ends (ev c m (.bin op a b) s) K ↔ Ends (ev c true a s) fun p => (p.1.isD || b.quiet || !a.place) = true ∧ Ends (ev c true b p.2) fun q => Ends p.1.flat fun x => Ends q.1.flat fun y => Ends (bop op x y) fun o => K (o, q.2) := by
  rw [show ev c m (.bin op a b) s = (match ev c true a s with
    | some (oa, s1) => if oa.isD || b.quiet || !a.place then match ev c true b s1 with
      | some (ob, s2) => match oa.flat, ob.flat with
        | some x, some y => (bop op x y).map fun o => (o, s2)
        | _, _ => none
      | none => none else none
    | none => none) from rfl]
  rcases ev c true a s with _ | ⟨oa, s1⟩
  · simp
  · simp only [ends_some, ends_ite]
    refine and_congr Iff.rfl ?_
    rcases ev c true b s1 with _ | ⟨ob, s2⟩
    · simp
    · simp only [ends_some]
      rcases oa.flat with _ | x <;> rcases ob.flat with _ | y <;> simp
@[simp] theorem w_cmp {op : Cop} {a b : E} {K : O × St → Prop} : Ends (ev c m (.cmp op a b) s) K ↔ Ends (ev c true a s) fun p => (p.1.isD || b.quiet || !a.place) = true ∧ Ends (ev c true b p.2) fun q => Ends p.1.flat fun x => Ends q.1.flat fun y => Ends (cop op x y) fun o => K (.d (.bl o), q.2) := by
  rw [show ev c m (.cmp op a b) s = (match ev c true a s with
    | some (oa, s1) => if oa.isD || b.quiet || !a.place then match ev c true b s1 with
      | some (ob, s2) => match oa.flat, ob.flat with
        | some x, some y => (cop op x y).map fun o => (.d (.bl o), s2)
        | _, _ => none
      | none => none else none
    | none => none) from rfl]
  rcases ev c true a s with _ | ⟨oa, s1⟩
  · simp
  · simp only [ends_some, ends_ite]
    refine and_congr Iff.rfl ?_
    rcases ev c true b s1 with _ | ⟨ob, s2⟩
    · simp
    · simp only [ends_some]
      rcases oa.flat with _ | x <;> rcases ob.flat with _ | y <;> simp
@[simp] theorem w_neg {a : E} {K : O × St → Prop} : Ends (ev c m (.neg a) s) K ↔ Ends (ev c false a s) fun p => ∃ i, p.1 = .d (.int i) ∧ K (.d (.int (-i)), p.2) := by
  rw [show ev c m (.neg a) s = (match ev c false a s with
    | some (.d (.int i), s1) => some (.d (.int (-i)), s1)
    | _ => none) from rfl]
  rcases ev c false a s with _ | ⟨_ | _ | _ | _, s1⟩ <;> try simp
  rename_i x
  cases x <;> simp
@[simp] theorem w_not {a : E} {K : O × St → Prop} : Ends (ev c m (.not a) s) K ↔ Ends (ev c false a s) fun p => IsB p.1 fun i => K (.d (.bl (!i)), p.2) := by
  rw [show ev c m (.not a) s = (match ev c false a s with
    | some (.d (.bl i), s1) => some (.d (.bl (!i)), s1)
    | _ => none) from rfl]
  rcases ev c false a s with _ | ⟨_ | _ | _ | _, s1⟩ <;> try simp
  rename_i x
  cases x <;> simp
@[simp] theorem w_and {a b : E} {K : O × St → Prop} : Ends (ev c m (.and a b) s) K ↔ Ends (ev c false a s) fun p => IsB p.1 fun i => (i = false → K (.d (.bl false), p.2)) ∧ (i = true → Ends (ev c false b p.2) fun q => IsB q.1 fun j => K (.d (.bl j), q.2)) := by
  rw [show ev c m (.and a b) s = (match ev c false a s with
    | some (.d (.bl true), s1) => match ev c false b s1 with
      | some (.d (.bl z), s2) => some (.d (.bl z), s2)
      | _ => none
    | some (.d (.bl false), s1) => some (.d (.bl false), s1)
    | _ => none) from rfl]
  rcases ev c false a s with _ | ⟨_ | _ | _ | _, s1⟩ <;> try simp
  rename_i x
  cases x <;> try simp
  rename_i z
  cases z
  · simp
  · simp
    rcases ev c false b s1 with _ | ⟨_ | _ | _ | _, s2⟩ <;> try simp
    rename_i y
    cases y <;> simp
@[simp] theorem w_or {a b : E} {K : O × St → Prop} : Ends (ev c m (.or a b) s) K ↔ Ends (ev c false a s) fun p => IsB p.1 fun i => (i = true → K (.d (.bl true), p.2)) ∧ (i = false → Ends (ev c false b p.2) fun q => IsB q.1 fun j => K (.d (.bl j), q.2)) := by
  rw [show ev c m (.or a b) s = (match ev c false a s with
    | some (.d (.bl false), s1) => match ev c false b s1 with
      | some (.d (.bl z), s2) => some (.d (.bl z), s2)
      | _ => none
    | some (.d (.bl true), s1) => some (.d (.bl true), s1)
    | _ => none) from rfl]
  rcases ev c false a s with _ | ⟨_ | _ | _ | _, s1⟩ <;> try simp
  rename_i x
  cases x <;> try simp
  rename_i z
  cases z
  · simp
    rcases ev c false b s1 with _ | ⟨_ | _ | _ | _, s2⟩ <;> try simp
    rename_i y
    cases y <;> simp
  · simp
@[simp] theorem w_chain {op op' : Cop} {a b e : E} {K : O × St → Prop} : Ends (ev c m (.chain op op' a b e) s) K ↔ Ends (ev c false a s) fun p => ∃ x, p.1 = .d x ∧ Ends (ev c false b p.2) fun q => ∃ y, q.1 = .d y ∧ Ends (cop op x y) fun i => (i = false → K (.d (.bl false), q.2)) ∧ (i = true → Ends (ev c false e q.2) fun r => ∃ z, r.1 = .d z ∧ Ends (cop op' y z) fun j => K (.d (.bl j), r.2)) := by
  rw [show ev c m (.chain op op' a b e) s = (match ev c false a s with
    | some (.d x, s1) => match ev c false b s1 with
      | some (.d y, s2) => match cop op x y with
        | some true => match ev c false e s2 with
          | some (.d z, s3) => (cop op' y z).map fun o => (.d (.bl o), s3)
          | _ => none
        | some false => some (.d (.bl false), s2)
        | none => none
      | _ => none
    | _ => none) from rfl]
  rcases ev c false a s with _ | ⟨_ | _ | _ | _, s1⟩ <;> try simp
  rcases ev c false b s1 with _ | ⟨_ | _ | _ | _, s2⟩ <;> try simp
  rename_i x y
  rcases cop op x y with _ | _ | _ <;> try simp
  rcases ev c false e s2 with _ | ⟨_ | _ | _ | _, s2⟩ <;> simp
@[simp] theorem w_ife {t a b : E} {K : O × St → Prop} : Ends (ev c m (.ife t a b) s) K ↔ Ends (ev c false t s) fun p => IsB p.1 fun i => (i = true → Ends (ev c false a p.2) K) ∧ (i = false → Ends (ev c false b p.2) K) := by
  rw [show ev c m (.ife t a b) s = (match ev c false t s with
    | some (.d (.bl true), s1) => ev c false a s1
    | some (.d (.bl false), s1) => ev c false b s1
    | _ => none) from rfl]
  rcases ev c false t s with _ | ⟨_ | _ | _ | _, s1⟩ <;> try simp
  rename_i x
  cases x <;> try simp
  rename_i z
  cases z <;> simp
@[simp] theorem w_idx {a i : E} {K : O × St → Prop} : Ends (ev c m (.idx a i) s) K ↔ Ends (ev c true a s) fun p => (p.1.isD || i.quiet || !a.place) = true ∧ Ends (ev c false i p.2) fun q => ∃ k, q.1 = .d k ∧ Ends (item p.1 k) fun o => (m || o.isD) = true ∧ K (o, q.2) := by
  rw [show ev c m (.idx a i) s = (match ev c true a s with
    | some (oa, s1) => if oa.isD || i.quiet || !a.place then match ev c false i s1 with
      | some (.d k, s2) => match item oa k with
        | some o => if m || o.isD then some (o, s2) else none
        | none => none
      | _ => none else none
    | none => none) from rfl]
  rcases ev c true a s with _ | ⟨oa, s1⟩
  · simp
  · simp only [ends_some, ends_ite]
    refine and_congr Iff.rfl ?_
    rcases ev c false i s1 with _ | ⟨_ | _ | _ | _, s2⟩ <;> try simp
    rename_i k
    rcases item oa k with _ | o <;> simp
@[simp] theorem w_slc {a : E} {lo hi : Option E} {K : O × St → Prop} : Ends (ev c m (.slc a lo hi) s) K ↔ Ends (ev c true a s) fun p => (p.1.isD || (E.quietO lo && E.quietO hi) || !a.place) = true ∧ Ends (evo c lo p.2) fun q => Ends (evo c hi q.2) fun r => Ends p.1.flat fun d => (match d with
      | .lst xs => K (.lst ((cut xs q.1 r.1).map .d), r.2)
      | .tup xs => K (.d (.tup (cut xs q.1 r.1)), r.2)
      | _ => False) := by
  rw [show ev c m (.slc a lo hi) s = (match ev c true a s with
    | some (oa, s1) => if oa.isD || (E.quietO lo && E.quietO hi) || !a.place then match evo c lo s1 with
      | some (l, s2) => match evo c hi s2 with
        | some (h, s3) => match oa.flat with
          | some (.lst xs) => some (.lst ((cut xs l h).map .d), s3)
          | some (.tup xs) => some (.d (.tup (cut xs l h)), s3)
          | _ => none
        | none => none
      | none => none else none
    | none => none) from rfl]
  rcases ev c true a s with _ | ⟨oa, s1⟩
  · simp
  · simp only [ends_some, ends_ite]
    refine and_congr Iff.rfl ?_
    rcases evo c lo s1 with _ | ⟨l, s2⟩
    · simp
    · simp only [ends_some]
      rcases evo c hi s2 with _ | ⟨h, s3⟩
      · simp
      · simp only [ends_some]
        rcases oa.flat with _ | d
        · simp
        · cases d <;> simp
@[simp] theorem w_attr {a : E} {f : Nat} {K : O × St → Prop} : Ends (ev c m (.attr a f) s) K ↔ Ends (ev c true a s) fun p => (match p.1 with
    | .d d => Ends (attrOf f d) fun x => K (.d x, p.2)
    | .ins _ l => Ends (l.lookup f) fun o => (m || o.isD) = true ∧ K (o, p.2)
    | _ => False) := by
  rw [show ev c m (.attr a f) s = (match ev c true a s with
    | some (.d d, s1) => (attrOf f d).map fun x => (.d x, s1)
    | some (.ins _ l, s1) => match l.lookup f with
      | some o => if m || o.isD then some (o, s1) else none
      | none => none
    | _ => none) from rfl]
  rcases ev c true a s with _ | ⟨_ | _ | _ | ⟨q, l⟩, s1⟩ <;> try simp
  rcases l.lookup f with _ | o <;> simp
@[simp] theorem w_call {f : Nat} {es : List E} {K : O × St → Prop} : Ends (ev c m (.call f es) s) K ↔ Ends (evs c es s) fun p => Ends (c.call f p.1 p.2.sto) fun q => K (q.1, { p.2 with sto := q.2 }) := by
  rw [show ev c m (.call f es) s = (match evs c es s with
    | some (ds, s1) => match c.call f ds s1.sto with
      | some (o, sto) => some (o, { s1 with sto := sto })
      | none => none
    | none => none) from rfl]
  rcases evs c es s with _ | ⟨ds, s1⟩
  · simp
  · simp only [ends_some]
    rcases c.call f ds s1.sto with _ | ⟨o, sto⟩ <;> simp
@[simp] theorem w_calk {f : Nat} {pm : List Nat} {es : List E} {K : O × St → Prop} : Ends (ev c m (.calk f pm es) s) K ↔ Ends (evs c es s) fun p => Ends (pm.mapM (p.1[·]?)) fun as => Ends (c.call f as p.2.sto) fun q => K (q.1, { p.2 with sto := q.2 }) := by
  rw [show ev c m (.calk f pm es) s = (match evs c es s with
    | some (ds, s1) => match pm.mapM (ds[·]?) with
      | some as => match c.call f as s1.sto with
        | some (o, sto) => some (o, { s1 with sto := sto })
        | none => none
      | none => none
    | none => none) from rfl]
  rcases evs c es s with _ | ⟨ds, s1⟩
  · simp
  · simp only [ends_some]
    rcases pm.mapM (ds[·]?) with _ | as
    · simp
    · simp only [ends_some]
      rcases c.call f as s1.sto with _ | ⟨o, sto⟩ <;> simp
@[simp] theorem w_mk {q : Nat} {es : List E} {K : O × St → Prop} : Ends (ev c m (.mk q es) s) K ↔ Ends (evs c es s) fun p => Ends (c.make q p.1 p.2.sto) fun r => K (.d (.ins q r.1), { p.2 with sto := r.2 }) := by
  rw [show ev c m (.mk q es) s = (match evs c es s with
    | some (ds, s1) => match c.make q ds s1.sto with
      | some (l, sto) => some (.d (.ins q l), { s1 with sto := sto })
      | none => none
    | none => none) from rfl]
  rcases evs c es s with _ | ⟨ds, s1⟩
  · simp
  · simp only [ends_some]
    rcases c.make q ds s1.sto with _ | ⟨o, sto⟩ <;> simp
@[simp] theorem w_bi {b : Bi} {es : List E} {K : O × St → Prop} : Ends (ev c m (.bi b es) s) K ↔ Ends (evVs c es s) fun p => Ends (bi b p.1) fun o => K (o, p.2) := by
  rw [show ev c m (.bi b es) s = (match evVs c es s with
    | some (ds, s1) => (bi b ds).map fun o => (o, s1)
    | none => none) from rfl]
  rcases evVs c es s with _ | ⟨ds, s1⟩ <;> simp
@[simp] theorem w_bit {b : Bi} {k : Itk} {es : List E} {K : O × St → Prop} : Ends (ev c m (.bit b k es) s) K ↔ Ends (evs c es s) fun p => Ends (itk k p.1) fun l => Ends (bit b l) fun o => K (o, p.2) := by
  rw [show ev c m (.bit b k es) s = (match evs c es s with
    | some (ds, s1) => match itk k ds with
      | some l => (bit b l).map fun o => (o, s1)
      | none => none
    | none => none) from rfl]
  rcases evs c es s with _ | ⟨ds, s1⟩
  · simp
  · simp only [ends_some]
    rcases itk k ds with _ | l <;> simp
@[simp] theorem w_pop {p : E} {es : List E} {K : O × St → Prop} : Ends (ev c m (.pop p es) s) K ↔ Ends (evPath c p s) fun q => ((q.2.1.isEmpty && isL q.1 q.2.2) || es.all E.isCon) = true ∧ Ends (evs c es q.2.2) fun r => Ends (modR q.1 q.2.1 (popAt r.1) r.2) K := by
  rw [show ev c m (.pop p es) s = (match evPath c p s with
    | some (i, ks, s1) => if (ks.isEmpty && isL i s1) || es.all E.isCon then match evs c es s1 with
      | some (ds, s2) => modR i ks (popAt ds) s2
      | none => none else none
    | none => none) from rfl]
  rcases evPath c p s with _ | ⟨i, ks, s1⟩
  · simp
  · simp only [ends_some, ends_ite]
    refine and_congr Iff.rfl ?_
    rcases evs c es s1 with _ | ⟨ds, s2⟩ <;> simp
@[simp] theorem w_evs0 : evs c [] s = some ([], s) := by rfl
@[simp] theorem w_evs_star {e : E} {r : List E} {K : List D × St → Prop} : Ends (evs c (.star e :: r) s) K ↔ Ends (ev c false e s) fun p => Ends (seqOf p.1.toD) fun l => Ends (evs c r p.2) fun q => K (l ++ q.1, q.2) := by
  rw [show evs c (.star e :: r) s = (match ev c false e s with
    | some (o, s1) => match seqOf o.toD with
      | some l => match evs c r s1 with
        | some (ds, s2) => some (l ++ ds, s2)
        | none => none
      | none => none
    | none => none) from rfl]
  rcases ev c false e s with _ | ⟨o, s1⟩
  · simp
  · simp only [ends_some]
    rcases seqOf o.toD with _ | l
    · simp
    · simp only [ends_some]
      rcases evs c r s1 with _ | ⟨ds, s2⟩ <;> simp
@[simp] theorem w_evs1 {e : E} {r : List E} (h : e.isStar = false) {K : List D × St → Prop} : Ends (evs c (e :: r) s) K ↔ Ends (ev c false e s) fun p => Ends (evs c r p.2) fun q => K (p.1.toD :: q.1, q.2) := by
  have h2 : evs c (e :: r) s = (match ev c false e s with
    | some (o, s1) => match evs c r s1 with
      | some (ds, s2) => some (o.toD :: ds, s2)
      | none => none
    | none => none) := by
    cases e <;> first | rfl | cases h
  rw [h2]
  rcases ev c false e s with _ | ⟨o, s1⟩
  · simp
  · simp only [ends_some]
    rcases evs c r s1 with _ | ⟨ds, s2⟩ <;> simp
@[simp] theorem w_evVs0 : evVs c [] s = some ([], s) := by rfl
@[simp] theorem w_evVs1 {e : E} {r : List E} {K : List D × St → Prop} : Ends (evVs c (e :: r) s) K ↔ Ends (ev c true e s) fun p => (p.1.isD || E.quiet.go r || !e.place) = true ∧ Ends (evVs c r p.2) fun q => Ends p.1.flat fun d => K (d :: q.1, q.2) := by
  rw [show evVs c (e :: r) s = (match ev c true e s with
    | some (o, s1) => if o.isD || E.quiet.go r || !e.place then match evVs c r s1 with
      | some (ds, s2) => (o.flat).map fun d => (d :: ds, s2)
      | none => none else none
    | none => none) from rfl]
  rcases ev c true e s with _ | ⟨o, s1⟩
  · simp
  · simp only [ends_some, ends_ite]
    refine and_congr Iff.rfl ?_
    rcases evVs c r s1 with _ | ⟨ds, s2⟩ <;> simp
@[simp] theorem w_evKs0 : evKs c [] s = some ([], s) := by rfl
@[simp] theorem w_evKs1 {k v : E} {r : List E} {K : List (D × O) × St → Prop} : Ends (evKs c (k :: v :: r) s) K ↔ Ends (ev c false k s) fun p => ∃ kd, p.1 = .d kd ∧ Ends (ev c false v p.2) fun q => Ends (evKs c r q.2) fun l => K ((kd, if v.keeps then q.1 else .d q.1.toD) :: l.1, l.2) := by
  rw [show evKs c (k :: v :: r) s = (match ev c false k s with
    | some (.d kd, s1) => match ev c false v s1 with
      | some (o, s2) => match evKs c r s2 with
        | some (l, s3) => some ((kd, if v.keeps then o else .d o.toD) :: l, s3)
        | none => none
      | none => none
    | _ => none) from rfl]
  rcases ev c false k s with _ | ⟨_ | _ | _ | _, s1⟩ <;> try simp
  rcases ev c false v s1 with _ | ⟨o, s2⟩
  · simp
  · simp only [ends_some]
    rcases evKs c r s2 with _ | ⟨l, s3⟩ <;> simp
@[simp] theorem w_evT0 : evT c [] s = some (true, s) := by rfl
@[simp] theorem w_evT1 {e : E} {r : List E} {K : Bool × St → Prop} : Ends (evT c (e :: r) s) K ↔ Ends (ev c false e s) fun p => IsB p.1 fun i => (i = true → Ends (evT c r p.2) K) ∧ (i = false → K (false, p.2)) := by
  rw [show evT c (e :: r) s = (match ev c false e s with
    | some (.d (.bl true), s1) => evT c r s1
    | some (.d (.bl false), s1) => some (false, s1)
    | _ => none) from rfl]
  rcases ev c false e s with _ | ⟨_ | _ | _ | _, s1⟩ <;> try simp
  rename_i x
  cases x <;> try simp
  rename_i z
  cases z <;> simp
@[simp] theorem w_evo0 : evo c none s = some (none, s) := by rfl
@[simp] theorem w_evo1 {e : E} {K : Option Int × St → Prop} : Ends (evo c (some e) s) K ↔ Ends (ev c false e s) fun p => ∃ i, p.1 = .d (.int i) ∧ K (some i, p.2) := by
  rw [show evo c (some e) s = (match ev c false e s with
    | some (.d (.int i), s1) => some (some i, s1)
    | _ => none) from rfl]
  rcases ev c false e s with _ | ⟨_ | _ | _ | _, s1⟩ <;> try simp
  rename_i x
  cases x <;> simp
@[simp] theorem w_path0 {i : Nat} : evPath c (.var i) s = if isN i s then some (i, [], s) else none := by rfl
@[simp] theorem w_path1 {a k : E} {K : Nat × List D × St → Prop} : Ends (evPath c (.idx a k) s) K ↔ Ends (evPath c a s) fun q => Ends (ev c false k q.2.2) fun p => ∃ kd, p.1 = .d kd ∧ K (q.1, q.2.1 ++ [kd], p.2) := by
  rw [show evPath c (.idx a k) s = (match evPath c a s with
    | some (i, ks, s1) => match ev c false k s1 with
      | some (.d kd, s2) => some (i, ks ++ [kd], s2)
      | _ => none
    | none => none) from rfl]
  rcases evPath c a s with _ | ⟨i, ks, s1⟩
  · simp
  · simp only [ends_some]
    rcases ev c false k s1 with _ | ⟨_ | _ | _ | _, s2⟩ <;> simp
/-! statements -/
@[simp] theorem w_exs0 : exs c [] s = some (.nx, s) := by rfl
@[simp] theorem w_exs1 {x : S} {r : List S} {K : Out × St → Prop} : Ends (exs c (x :: r) s) K ↔ Ends (ex c x s) fun p => (match p.1 with
    | .nx => Ends (exs c r p.2) K
    | o => K (o, p.2)) := by
  rw [show exs c (x :: r) s = (match ex c x s with
    | some (.nx, s1) => exs c r s1
    | some (o, s1) => some (o, s1)
    | none => none) from rfl]
  rcases ex c x s with _ | ⟨_ | _ | _ | _, s1⟩ <;> simp
@[simp] theorem w_asg {tg : Tg} {e : E} {K : Out × St → Prop} : Ends (ex c (.asg tg e) s) K ↔ Ends (ev c false e s) fun p => Ends (asgT c tg p.1 p.2) fun s2 => K (.nx, s2) := by
  rw [show ex c (.asg tg e) s = (match ev c false e s with
    | some (o, s1) => (asgT c tg o s1).map fun s2 => (.nx, s2)
    | none => none) from rfl]
  rcases ev c false e s with _ | ⟨o, s1⟩ <;> simp
@[simp] theorem w_par {is : List Nat} {es : List E} {K : Out × St → Prop} : Ends (ex c (.par is es) s) K ↔ Ends (evOs c es s) fun p => Ends (stEs c is p.1 p.2) fun s2 => K (.nx, s2) := by
  rw [show ex c (.par is es) s = (match evOs c es s with
    | some (o, s1) => (stEs c is o s1).map fun s2 => (.nx, s2)
    | none => none) from rfl]
  rcases evOs c es s with _ | ⟨o, s1⟩ <;> simp
@[simp] theorem w_evOs0 : evOs c [] s = some ([], s) := by rfl
@[simp] theorem w_evOs1 {e : E} {r : List E} {K : List O × St → Prop} : Ends (evOs c (e :: r) s) K ↔ Ends (ev c false e s) fun p => Ends (evOs c r p.2) fun q => K (p.1 :: q.1, q.2) := by
  rw [show evOs c (e :: r) s = (match ev c false e s with
    | some (o, s1) => match evOs c r s1 with
      | some (os, s2) => some (o :: os, s2)
      | none => none
    | none => none) from rfl]
  rcases ev c false e s with _ | ⟨o, s1⟩
  · simp
  · simp only [ends_some]
    rcases evOs c r s1 with _ | ⟨ds, s2⟩ <;> simp
@[simp] theorem w_set {p k e : E} {K : Out × St → Prop} : Ends (ex c (.set p k e) s) K ↔ Ends (ev c false e s) fun o => Ends (evPath c p o.2) fun q => Ends (ev c false k q.2.2) fun r => ∃ kd, r.1 = .d kd ∧ Ends (modR q.1 q.2.1 (setAt kd (.d o.1.toD)) r.2) fun z => K (.nx, z.2) := by
  rw [show ex c (.set p k e) s = (match ev c false e s with
    | some (o, s1) => match evPath c p s1 with
      | some (i, ks, s2) => match ev c false k s2 with
        | some (.d kd, s3) => (modR i ks (setAt kd (.d o.toD)) s3).map fun r => (.nx, r.2)
        | _ => none
      | none => none
    | none => none) from rfl]
  rcases ev c false e s with _ | ⟨o, s1⟩
  · simp
  · simp only [ends_some]
    rcases evPath c p s1 with _ | ⟨i, ks, s2⟩
    · simp
    · simp only [ends_some]
      rcases ev c false k s2 with _ | ⟨_ | _ | _ | _, s3⟩ <;> simp
@[simp] theorem w_setA {i f : Nat} {e : E} {K : Out × St → Prop} : Ends (ex c (.setA i f e) s) K ↔ Ends (ev c false e s) fun p => (match p.2.env[i]? with
      | some (some (.ins k l)) => l.length < 100 ∧ K (.nx, { p.2 with env := p.2.env.set i (some (.ins k (putF f (.d p.1.toD) l))) })
      | _ => False) := by
  rw [show ex c (.setA i f e) s = (match ev c false e s with
    | some (o, s1) => match s1.env[i]? with
      | some (some (.ins k l)) => if l.length < 100 then some (.nx, { s1 with env := s1.env.set i (some (.ins k (putF f (.d o.toD) l))) }) else none
      | _ => none
    | none => none) from rfl]
  rcases ev c false e s with _ | ⟨o, s1⟩
  · simp
  · simp only [ends_some]
    rcases s1.env[i]? with _ | _ | _ | _ | _ | _ <;> simp
@[simp] theorem w_app {p e : E} {K : Out × St → Prop} : Ends (ex c (.app p e) s) K ↔ Ends (evPath c p s) fun q => (q.2.1.isEmpty && isL q.1 q.2.2) = true ∧ Ends (ev c false e q.2.2) fun r => Ends (modR q.1 q.2.1 (appAt (.d r.1.toD)) r.2) fun z => K (.nx, z.2) := by
  rw [show ex c (.app p e) s = (match evPath c p s with
    | some (i, ks, s1) => if ks.isEmpty && isL i s1 then match ev c false e s1 with
      | some (o, s2) => (modR i ks (appAt (.d o.toD)) s2).map fun r => (.nx, r.2)
      | none => none else none
    | none => none) from rfl]
  rcases evPath c p s with _ | ⟨i, ks, s1⟩
  · simp
  · simp only [ends_some, ends_ite]
    refine and_congr Iff.rfl ?_
    rcases ev c false e s1 with _ | ⟨o, s2⟩ <;> simp
@[simp] theorem w_ex {e : E} {K : Out × St → Prop} : Ends (ex c (.ex e) s) K ↔ Ends (ev c false e s) fun p => K (.nx, p.2) := by
  rw [show ex c (.ex e) s = (match ev c false e s with
    | some (_, s1) => some (.nx, s1)
    | none => none) from rfl]
  rcases ev c false e s with _ | ⟨o, s1⟩ <;> simp
@[simp] theorem w_ret {e : E} {K : Out × St → Prop} : Ends (ex c (.ret e) s) K ↔ Ends (ev c false e s) fun p => K (.ret p.1, p.2) := by
  rw [show ex c (.ret e) s = (match ev c false e s with
    | some (o, s1) => some (.ret o, s1)
    | none => none) from rfl]
  rcases ev c false e s with _ | ⟨o, s1⟩ <;> simp
@[simp] theorem w_if {t : E} {a b : List S} {K : Out × St → Prop} : Ends (ex c (.ite t a b) s) K ↔ Ends (ev c false t s) fun p => IsB p.1 fun i => (i = true → Ends (exs c a p.2) K) ∧ (i = false → Ends (exs c b p.2) K) := by
  rw [show ex c (.ite t a b) s = (match ev c false t s with
    | some (.d (.bl true), s1) => exs c a s1
    | some (.d (.bl false), s1) => exs c b s1
    | _ => none) from rfl]
  rcases ev c false t s with _ | ⟨_ | _ | _ | _, s1⟩ <;> try simp
  rename_i x
  cases x <;> try simp
  rename_i z
  cases z <;> simp
@[simp] theorem w_cont : ex c .cont s = some (.cont, s) := by rfl
@[simp] theorem w_brk : ex c .brk s = some (.brk, s) := by rfl
@[simp] theorem w_pass : ex c .pass s = some (.nx, s) := by rfl
end
/-! loops -/
section
variable {c : Cx} {s : St} {m : Bool} {α : Type}
theorem forLoop_run {f : D → St → Option (Out × St)} {g : α → D} (I : List α → St → Prop) {K : Out × St → Prop} : ∀ (rest done : List α) (s : St), I done s →
    (∀ done' x rest', done ++ rest = done' ++ x :: rest' → ∀ s, I done' s → Ends (f (g x) s) fun q => (match q.1 with
      | .nx => I (done' ++ [x]) q.2
      | .cont => I (done' ++ [x]) q.2
      | .brk => K (.nx, q.2)
      | .ret o => K (.ret o, q.2))) → (∀ s, I (done ++ rest) s → K (.nx, s)) → Ends (forLoop f (rest.map g) s) K
  | [], done, s, hI, _, hK => by
    rw [List.map_nil, forLoop, ends_some]
    exact hK s (by rw [List.append_nil]; exact hI)
  | x :: rest, done, s, hI, hs, hK => by
    obtain ⟨⟨o, s1⟩, h1, h2⟩ := hs done x rest rfl s hI
    rw [List.map_cons, forLoop, h1]
    have e : done ++ x :: rest = (done ++ [x]) ++ rest := by simp
    cases o with
    | nx =>
      refine forLoop_run I rest (done ++ [x]) s1 h2 ?_ ?_
      · rw [← e]; exact hs
      · rw [← e]; exact hK
    | cont =>
      refine forLoop_run I rest (done ++ [x]) s1 h2 ?_ ?_
      · rw [← e]; exact hs
      · rw [← e]; exact hK
    | brk => rw [ends_some]; exact h2
    | ret o => rw [ends_some]; exact h2
/-- a for: I what holds behind some turns -/
theorem run_for (l : List α) (g : α → D) (I : List α → St → Prop) {tg : Tg} {k : Option Itk} {es : List E} {b : List S} {K : Out × St → Prop}
    (h : Ends (evs c es s) fun p => Ends (yields k p.1) fun xs => xs = l.map g ∧ I [] p.2)
    (hs : ∀ done x rest, l = done ++ x :: rest → ∀ s, I done s → Ends (bindT tg (g x) s.env) fun env => Ends (exs c b { s with env := env }) fun q => (match q.1 with
      | .nx => I (done ++ [x]) q.2
      | .cont => I (done ++ [x]) q.2
      | .brk => K (.nx, q.2)
      | .ret o => K (.ret o, q.2))) (hK : ∀ s, I l s → K (.nx, s)) : Ends (ex c (.for_ tg k es b) s) K := by
  rw [show ex c (.for_ tg k es b) s = (match evs c es s with
    | some (ds, s1) => match yields k ds with
      | some xs => forLoop (fun x s => match bindT tg x s.env with
          | some env => exs c b { s with env := env }
          | none => none) xs s1
      | none => none
    | none => none) from rfl]
  obtain ⟨⟨ds, s1⟩, h1, xs, h2, rfl, h3⟩ := h
  simp only [h1, h2]
  refine forLoop_run I l [] s1 h3 ?_ hK
  intro done x rest e s hI
  have := hs done x rest e s hI
  rcases hb : bindT tg (g x) s.env with _ | env
  · rw [hb] at this; simp at this
  · rw [hb] at this
    simpa using this
/-- a while: I n what holds when n bounds the turns left -/
theorem run_whl (I : Nat → St → Prop) {t : E} {b : List S} {K : Out × St → Prop} (hc : c.lp = loop) {n : Nat} (h : I n s)
    (hs : ∀ n s, I n s → Ends (ev c false t s) fun p => IsB p.1 fun i => (i = false → K (.nx, p.2)) ∧ (i = true → Ends (exs c b p.2) fun q => (match q.1 with
      | .nx => ∃ n', n' < n ∧ I n' q.2
      | .cont => ∃ n', n' < n ∧ I n' q.2
      | .brk => K (.nx, q.2)
      | .ret o => K (.ret o, q.2)))) : Ends (ex c (.whl t b) s) K := by
  rw [show ex c (.whl t b) s = c.lp (fun s => match ev c false t s with
      | some (.d (.bl true), s1) => match exs c b s1 with
        | some (.nx, s2) => some (.inl s2)
        | some (.cont, s2) => some (.inl s2)
        | some (.brk, s2) => some (.inr (.nx, s2))
        | some (.ret o, s2) => some (.inr (.ret o, s2))
        | none => none
      | some (.d (.bl false), s1) => some (.inr (.nx, s1))
      | _ => none) s from rfl, hc]
  have key : ∀ N n s, n < N → I n s → ∃ r, (∃ j, iter (fun s => match ev c false t s with
      | some (.d (.bl true), s1) => match exs c b s1 with
        | some (.nx, s2) => some (Sum.inl s2)
        | some (.cont, s2) => some (.inl s2)
        | some (.brk, s2) => some (.inr (Out.nx, s2))
        | some (.ret o, s2) => some (.inr (.ret o, s2))
        | none => none
      | some (.d (.bl false), s1) => some (.inr (.nx, s1))
      | _ => none) j s = some r) ∧ K r := by
    intro N
    induction N with
    | zero => intro n s hn; omega
    | succ N ih =>
      intro n s hn hI
      obtain ⟨⟨o, s1⟩, h1, hb⟩ := hs n s hI
      obtain ⟨i, h2, h3, h4⟩ := isB_out hb
      simp only at h2
      subst h2
      cases i with
      | false => exact ⟨(.nx, s1), ⟨1, by rw [iter, h1]⟩, h3 rfl⟩
      | true =>
        obtain ⟨⟨o, s2⟩, h5, h6⟩ := h4 rfl
        cases o with
        | nx =>
          obtain ⟨n', hn', h7⟩ := h6
          obtain ⟨r, ⟨j, hj⟩, hr⟩ := ih n' s2 (by omega) h7
          exact ⟨r, ⟨j + 1, by rw [iter, h1]; simp only [h5]; exact hj⟩, hr⟩
        | cont =>
          obtain ⟨n', hn', h7⟩ := h6
          obtain ⟨r, ⟨j, hj⟩, hr⟩ := ih n' s2 (by omega) h7
          exact ⟨r, ⟨j + 1, by rw [iter, h1]; simp only [h5]; exact hj⟩, hr⟩
        | brk => exact ⟨(.nx, s2), ⟨1, by rw [iter, h1]; simp only [h5]⟩, h6⟩
        | ret o => exact ⟨(.ret o, s2), ⟨1, by rw [iter, h1]; simp only [h5]⟩, h6⟩
  obtain ⟨r, ⟨j, hj⟩, hr⟩ := key (n + 1) n s (Nat.lt_succ_self n) h
  exact ⟨r, loop_of hj, hr⟩
/-- comprehensions: J what holds behind some turns of the things, of what is kept and of the store -/
theorem lcLoop_run {tg : Tg} {cs : List E} {el : E} {g : α → D} (J : List α → List D → List O → Prop) {Wp : List (Option O)} : ∀ (rest done : List α) (acc : List D) (s : St), wipe s.env tg.slots = Wp → J done acc.reverse s.sto →
    (∀ done' x rest' out sto, done ++ rest = done' ++ x :: rest' → J done' out sto → Ends (bindT tg (g x) Wp) fun env => Ends (evT c cs ⟨env, sto⟩) fun q => (q.1 = true → Ends (ev c false el q.2) fun r => J (done' ++ [x]) (out ++ [r.1.toD]) r.2.sto ∧ wipe r.2.env tg.slots = Wp) ∧ (q.1 = false → J (done' ++ [x]) out q.2.sto ∧ wipe q.2.env tg.slots = Wp)) →
    ∃ out s', lcLoop (fun x s => match bindT tg x (wipe s.env tg.slots) with
          | some env => match evT c cs { s with env := env } with
            | some (true, s2) => match ev c false el s2 with
              | some (o, s3) => some (some o.toD, s3)
              | none => none
            | some (false, s2) => some (none, s2)
            | none => none
          | none => none) (rest.map g) acc s = some (out, s') ∧ wipe s'.env tg.slots = Wp ∧ J (done ++ rest) out s'.sto
  | [], done, acc, s, hw, hJ, _ => ⟨acc.reverse, s, rfl, hw, by rw [List.append_nil]; exact hJ⟩
  | x :: rest, done, acc, s, hw, hJ, hs => by
    obtain ⟨env, h1, ⟨b, s2⟩, h2, h3, h4⟩ := hs done x rest _ _ rfl hJ
    have e : done ++ x :: rest = (done ++ [x]) ++ rest := by simp
    cases b with
    | true =>
      obtain ⟨⟨o, s3⟩, h5, h6, h7⟩ := h3 rfl
      obtain ⟨out, s', k1, k2, k3⟩ := lcLoop_run J rest (done ++ [x]) (o.toD :: acc) s3 h7 (by rw [List.reverse_cons]; exact h6) (by rw [← e]; exact hs)
      refine ⟨out, s', ?_, k2, by rw [e]; exact k3⟩
      rw [List.map_cons, lcLoop]
      simp only [hw, h1, h2, h5]
      exact k1
    | false =>
      obtain ⟨h6, h7⟩ := h4 rfl
      obtain ⟨out, s', k1, k2, k3⟩ := lcLoop_run J rest (done ++ [x]) acc s2 h7 h6 (by rw [← e]; exact hs)
      refine ⟨out, s', ?_, k2, by rw [e]; exact k3⟩
      rw [List.map_cons, lcLoop]
      simp only [hw, h1, h2]
      exact k1
theorem run_lc (l : List α) (g : α → D) (J : List α → List D → List O → Prop) {tg : Tg} {k : Option Itk} {es cs : List E} {el : E} {K : O × St → Prop}
    (h : Ends (evs c es s) fun p => Ends (yields k p.1) fun xs => xs = l.map g ∧ J [] [] p.2.sto ∧
      (∀ done x rest out sto, l = done ++ x :: rest → J done out sto → Ends (bindT tg (g x) (wipe p.2.env tg.slots)) fun env => Ends (evT c cs ⟨env, sto⟩) fun q => (q.1 = true → Ends (ev c false el q.2) fun r => J (done ++ [x]) (out ++ [r.1.toD]) r.2.sto ∧ wipe r.2.env tg.slots = wipe p.2.env tg.slots) ∧ (q.1 = false → J (done ++ [x]) out q.2.sto ∧ wipe q.2.env tg.slots = wipe p.2.env tg.slots)) ∧
      (∀ out sto, J l out sto → lenOk out.length = true ∧ K (.lst (out.map .d), ⟨putBack p.2.env p.2.env tg.slots, sto⟩))) : Ends (ev c m (.lc tg k es cs el) s) K := by
  obtain ⟨⟨ds, s1⟩, h1, xs, h2, rfl, h3, h4, h5⟩ := h
  obtain ⟨out, s', k1, k2, k3⟩ := lcLoop_run (c := c) J l [] [] s1 rfl h3 h4
  obtain ⟨h6, h7⟩ := h5 out s'.sto k3
  refine ⟨(.lst (out.map .d), { s' with env := putBack s'.env s1.env tg.slots }), ?_, ?_⟩
  · rw [ev]
    simp only [h1, h2]
    refine (congrArg (fun (z : Option (List D × St)) => match z with
      | some (ys, s2) => if lenOk ys.length then some (O.lst (ys.map .d), { s2 with env := putBack s2.env s1.env tg.slots }) else none
      | none => none) k1).trans ?_
    simp only [h6, if_true]
  · rw [← putBack_wipe s'.env, k2, putBack_wipe]
    exact h7
/-- a comprehension that changes nothing and keeps all -/
theorem run_map (l : List α) (g f : α → D) {tg : Tg} {k : Option Itk} {es : List E} {el : E} {K : O × St → Prop}
    (h : Ends (evs c es s) fun p => Ends (yields k p.1) fun xs => xs = l.map g ∧ lenOk l.length = true ∧
      (∀ x ∈ l, Ends (bindT tg (g x) (wipe p.2.env tg.slots)) fun env => Ends (ev c false el ⟨env, p.2.sto⟩) fun r => r.1.toD = f x ∧ r.2.sto = p.2.sto ∧ wipe r.2.env tg.slots = wipe p.2.env tg.slots) ∧
      K (.lst (l.map fun x => .d (f x)), ⟨putBack p.2.env p.2.env tg.slots, p.2.sto⟩)) : Ends (ev c m (.lc tg k es [] el) s) K := by
  obtain ⟨⟨ds, s1⟩, h1, xs, h2, rfl, h3, h4, h5⟩ := h
  refine run_lc l g (fun done out sto => out = done.map f ∧ sto = s1.sto) ⟨(ds, s1), h1, _, h2, rfl, ⟨rfl, rfl⟩, ?_, ?_⟩
  · rintro done x rest out sto e ⟨rfl, rfl⟩
    obtain ⟨env, e1, r, e2, e3, e4, e5⟩ := h4 x (by rw [e]; simp)
    refine ⟨env, e1, ?_⟩
    simp only [w_evT0, ends_some]
    refine ⟨fun _ => ⟨r, e2, ⟨?_, e4⟩, e5⟩, fun h => by cases h⟩
    rw [e3]; simp
  · rintro out sto ⟨rfl, rfl⟩
    refine ⟨by simpa using h3, ?_⟩
    simpa [Function.comp_def] using h5
/-- one with a test -/
theorem run_filt (l : List α) (g f : α → D) (t : α → Bool) {tg : Tg} {k : Option Itk} {es cs : List E} {el : E} {K : O × St → Prop}
    (h : Ends (evs c es s) fun p => Ends (yields k p.1) fun xs => xs = l.map g ∧ lenOk l.length = true ∧
      (∀ x ∈ l, Ends (bindT tg (g x) (wipe p.2.env tg.slots)) fun env => Ends (evT c cs ⟨env, p.2.sto⟩) fun q => q.1 = t x ∧ (t x = true → Ends (ev c false el q.2) fun r => r.1.toD = f x ∧ r.2.sto = p.2.sto ∧ wipe r.2.env tg.slots = wipe p.2.env tg.slots) ∧ (t x = false → q.2.sto = p.2.sto ∧ wipe q.2.env tg.slots = wipe p.2.env tg.slots)) ∧
      K (.lst ((l.filter t).map fun x => .d (f x)), ⟨putBack p.2.env p.2.env tg.slots, p.2.sto⟩)) : Ends (ev c m (.lc tg k es cs el) s) K := by
  obtain ⟨⟨ds, s1⟩, h1, xs, h2, rfl, h3, h4, h5⟩ := h
  refine run_lc l g (fun done out sto => out = (done.filter t).map f ∧ sto = s1.sto) ⟨(ds, s1), h1, _, h2, rfl, ⟨rfl, rfl⟩, ?_, ?_⟩
  · rintro done x rest out sto e ⟨rfl, rfl⟩
    obtain ⟨env, e1, ⟨b, s2⟩, e2, e3, e4, e5⟩ := h4 x (by rw [e]; simp)
    refine ⟨env, e1, (b, s2), e2, ?_, ?_⟩
    · intro hb
      simp only at hb e3
      subst hb
      obtain ⟨r, k1, k2, k3, k4⟩ := e4 e3.symm
      refine ⟨r, k1, ⟨?_, k3⟩, k4⟩
      rw [k2]; simp [← e3]
    · intro hb
      simp only at hb e3
      subst hb
      obtain ⟨k3, k4⟩ := e5 e3.symm
      refine ⟨⟨?_, k3⟩, k4⟩
      simp [← e3]
  · rintro out sto ⟨rfl, rfl⟩
    refine ⟨?_, ?_⟩
    · have := List.length_filter_le t l
      simp only [lenOk, decide_eq_true_eq, List.length_map] at h3 ⊢
      omega
    · simpa [Function.comp_def] using h5
end
/-- a def's run -/
theorem run_def {P : Prog} {k f : Nat} {ds : List D} {sto : List O} {d : Def} {K : O × List O → Prop} (h : P.defs[f]? = some d) (h2 : ds.length = d.ar)
    (h3 : Ends (exs (cxK loop P k d.own d.cel) d.body ⟨start d (ds.map .d), sto⟩) fun p => (match p.1 with
      | .ret o => K (o, p.2.sto)
      | .nx => K (.d .non, p.2.sto)
      | _ => False)) : Ends (callD loop P (k + 1) f ds sto) K := by
  rw [callD_at h h2]
  obtain ⟨⟨o, s⟩, h4, h5⟩ := h3
  rw [h4]
  cases o with
  | nx => simpa [fin] using h5
  | ret o => simpa [fin] using h5
  | cont => exact h5.elim
  | brk => exact h5.elim
end Py
end

section
set_option linter.all false
set_option Elab.async false
/-! Q1: numbers, divisors, ratios. -/
namespace Py
/-! plain facts -/
theorem bls_map {α : Type} (f : α → Bool) : ∀ xs : List α, bls (xs.map fun x => D.bl (f x)) = some (xs.map f)
  | [] => rfl
  | x :: xs => by rw [List.map_cons, bls, bls_map f xs]; rfl
theorem ints_map {α : Type} (f : α → Int) : ∀ xs : List α, intsD (xs.map fun x => D.int (f x)) = some (xs.map f)
  | [] => rfl
  | x :: xs => by rw [List.map_cons, intsD, ints_map f xs]; rfl
@[simp] theorem pures_nil : O.pures [] = some [] := by rfl
@[simp] theorem pures_cons {x : D} {xs : List O} : O.pures (.d x :: xs) = (O.pures xs).map (x :: ·) := by rfl
theorem pures_map' : ∀ xs : List D, O.pures (xs.map .d) = some xs
  | [] => rfl
  | x :: xs => by rw [List.map_cons, O.pures, pures_map' xs]; rfl
theorem pures_mapf {α : Type} (g : α → D) : ∀ xs : List α, O.pures (xs.map fun x => .d (g x)) = some (xs.map g)
  | [] => rfl
  | x :: xs => by rw [List.map_cons, O.pures, pures_mapf g xs]; rfl
theorem toDs_mapf {α : Type} (g : α → D) : ∀ xs : List α, O.toDs (xs.map fun x => .d (g x)) = xs.map g
  | [] => rfl
  | x :: xs => by rw [List.map_cons, O.toDs, toDs_mapf g xs]; rfl
theorem toDs_map' : ∀ xs : List D, O.toDs (xs.map .d) = xs
  | [] => rfl
  | x :: xs => by rw [List.map_cons, O.toDs, toDs_map' xs]; rfl
theorem ints_map' (xs : List Int) : intsD (xs.map D.int) = some xs := by
  have := ints_map (fun i => i) xs
  simpa using this
mutual
/-- a thing that tests may look at -/
def okD : D → Bool
  | .non | .bl _ | .int _ | .str _ | .dic _ | .ins _ _ => true
  | .tup l | .lst l => lenOk l.length && okDs l
  | _ => false
def okDs : List D → Bool
  | [] => true
  | x :: xs => okD x && okDs xs
end
@[simp] theorem okD_non : okD .non = true := by simp only [okD]
@[simp] theorem okD_bl {b : Bool} : okD (.bl b) = true := by simp only [okD]
@[simp] theorem okD_int {b : Int} : okD (.int b) = true := by simp only [okD]
@[simp] theorem okD_str {b : List Nat} : okD (.str b) = true := by simp only [okD]
@[simp] theorem okD_dic {b : List (D × D)} : okD (.dic b) = true := by simp only [okD]
@[simp] theorem okD_ins {c : Nat} {b : List (Nat × D)} : okD (.ins c b) = true := by simp only [okD]
theorem noCell_ok {d : D} (h : okD d = true) : noCell (.d d) = true := by cases d <;> first | rfl | cases h
theorem okDs_mem : ∀ {l : List D}, okDs l = true → ∀ x ∈ l, okD x = true
  | [], _, _, h => by cases h
  | y :: l, h, x, hx => by
    simp only [okDs, Bool.and_eq_true] at h
    rcases List.mem_cons.mp hx with rfl | hx
    · exact h.1
    · exact okDs_mem h.2 x hx
theorem okDs_of : ∀ {l : List D}, (∀ x ∈ l, okD x = true) → okDs l = true
  | [], _ => rfl
  | y :: l, h => by
    simp only [okDs, Bool.and_eq_true]
    exact ⟨h y List.mem_cons_self, okDs_of fun x hx => h x (List.mem_cons_of_mem _ hx)⟩
def isNum : D → Bool
  | .int _ => true
  | _ => false
def isTup : D → Bool
  | .tup _ => true
  | _ => false
def isLis : D → Bool
  | .tup _ | .lst _ => true
  | _ => false
@[irreducible] def bigA : Nat := 2 ^ 4000
@[irreducible] def bigB : Nat := 2 ^ 8001
theorem pow_bigA {b : Nat} (h : b < 4000) : 2 ^ b < bigA := by
  unfold bigA; exact Nat.pow_lt_pow_right (by decide) h
theorem bigA_lt : bigA * bigA < bigB := by
  unfold bigA bigB
  rw [← Nat.pow_add]
  exact Nat.pow_lt_pow_right (by decide) (by decide)
theorem one_bigA : 1 < bigA := Nat.lt_of_le_of_lt (by decide : 1 ≤ 2 ^ 0) (pow_bigA (by decide))
theorem bigAB : bigA < bigB := Nat.lt_of_le_of_lt (Nat.le_mul_of_pos_left _ (Nat.lt_trans Nat.zero_lt_one one_bigA)) bigA_lt
/-- numbers that are told of -/
def Sm (i : Int) : Prop := i.natAbs < bigA
theorem sm_mul {i j : Int} (hi : Sm i) (hj : Sm j) : mulOk i j = true := by
  have e : bigA < lineA := by
    unfold lineA bigA
    exact Nat.pow_lt_pow_right (by decide) (by decide)
  unfold Sm at hi hj
  simp only [mulOk, Bool.and_eq_true, decide_eq_true_eq]
  exact ⟨Nat.lt_trans hi e, Nat.lt_trans hj e⟩
theorem big_div' {j : Int} (h : j ≠ 0) (hj : j.natAbs < bigB) : divOk j = true := by
  have e : bigB < lineB := by
    unfold lineB bigB
    exact Nat.pow_lt_pow_right (by decide) (by decide)
  simp only [divOk, Bool.and_eq_true, decide_eq_true_eq]
  exact ⟨h, Nat.lt_trans hj e⟩
theorem sm_div {j : Int} (h : j ≠ 0) (hj : Sm j) : divOk j = true := big_div' h (Nat.lt_trans hj bigAB)
/-- the divisor of numbers -/
def divN (ns : List Int) : Nat := ns.foldl (fun a i => Nat.gcd a i.natAbs) 0
theorem fmod_nat (a b : Nat) : Int.fmod (a : Int) (b : Int) = ((a % b : Nat) : Int) := by
  rw [Int.fmod_eq_emod_of_nonneg _ (by omega)]
  rfl
/-- a tuple of so many numbers -/
def rowOk (d : D) (n : Int) : Bool := match d with
  | .tup xs => decide ((xs.length : Int) = n) && xs.all isNum
  | _ => false
def isNat : D → Bool
  | .int i => decide (0 ≤ i)
  | _ => false
theorem isNum_of_nat {d : D} (h : isNat d = true) : isNum d = true := by cases d <;> simp [isNat] at h <;> rfl
def cntOk (d : D) (n : Int) : Bool := match d with
  | .tup xs => decide ((xs.length : Int) = n) && xs.all isNat
  | _ => false
namespace K48
variable {sto : List O}
theorem v_is_number {d : D} (h : okD d = true) {m : Nat} (hm : 1 ≤ m) : callD loop prog m 0 [d] sto = some (.d (.bl (isNum d)), sto) := by
  obtain ⟨k, rfl⟩ : ∃ k, m = k + 1 := ⟨m - 1, by omega⟩
  refine ends_eq (run_def (d := d_is_number) rfl rfl ?_)
  cases d <;> simp [okD] at h <;> simp [d_is_number, isNum, start, O.isD, O.flat, isInst, isTy, tyNames, tyN, tyNs, anyN, O.toD, eqOk, D.plain, D.depth, D.eqv, D.flat, E.place, E.quiet, E.quiet.go, E.quietO, stEs, stE, asgT, cxK_own, cxK_cel, cxK_call, cxK_make, bindT.go, Tg.slots, Tg.slots.go, wipe, putBack, dOnly, ixN, bls_map, pures_map', pures_mapf, toDs_mapf, toDs_map', ints_map, E.keeps, isN, isL, modR, modPath, appAt]
theorem v_is_between {d : D} {lo hi : Int} (h : okD d = true) {m : Nat} (hm : 2 ≤ m) : callD loop prog m 1 [d, .int lo, .int hi] sto = some (.d (.bl (match d with | .int i => decide (lo ≤ i) && decide (i ≤ hi) | _ => false)), sto) := by
  obtain ⟨k, rfl⟩ : ∃ k, m = k + 2 := ⟨m - 2, by omega⟩
  refine ends_eq (run_def (d := d_is_between) rfl rfl ?_)
  simp [d_is_between, v_is_number h, start, O.isD, O.flat, isInst, isTy, tyNames, tyN, tyNs, anyN, O.toD, eqOk, D.plain, D.depth, D.eqv, D.flat, E.place, E.quiet, E.quiet.go, E.quietO, stEs, stE, asgT, cxK_own, cxK_cel, cxK_call, cxK_make, bindT.go, Tg.slots, Tg.slots.go, wipe, putBack, dOnly, ixN, bls_map, pures_map', pures_mapf, toDs_mapf, toDs_map', ints_map, E.keeps, isN, isL, modR, modPath, appAt]
  cases d <;> simp [isNum, start, O.isD, O.flat, isInst, isTy, tyNames, tyN, tyNs, anyN, O.toD, eqOk, D.plain, D.depth, D.eqv, D.flat, E.place, E.quiet, E.quiet.go, E.quietO, stEs, stE, asgT, cxK_own, cxK_cel, cxK_call, cxK_make, bindT.go, Tg.slots, Tg.slots.go, wipe, putBack, dOnly, ixN, bls_map, pures_map', pures_mapf, toDs_mapf, toDs_map', ints_map, E.keeps, isN, isL, modR, modPath, appAt]
  omega
theorem v_is_list {d : D} (h : okD d = true) {m : Nat} (hm : 1 ≤ m) : callD loop prog m 2 [d] sto = some (.d (.bl (isLis d)), sto) := by
  obtain ⟨k, rfl⟩ : ∃ k, m = k + 1 := ⟨m - 1, by omega⟩
  refine ends_eq (run_def (d := d_is_list) rfl rfl ?_)
  cases d <;> simp [okD] at h <;> simp [d_is_list, isLis, start, O.isD, O.flat, isInst, isTy, tyNames, tyN, tyNs, anyN, O.toD, eqOk, D.plain, D.depth, D.eqv, D.flat, E.place, E.quiet, E.quiet.go, E.quietO, stEs, stE, asgT, cxK_own, cxK_cel, cxK_call, cxK_make, bindT.go, Tg.slots, Tg.slots.go, wipe, putBack, dOnly, ixN, bls_map, pures_map', pures_mapf, toDs_mapf, toDs_map', ints_map, E.keeps, isN, isL, modR, modPath, appAt]
theorem v_is_row {d : D} {n : Int} (h : okD d = true) {m : Nat} (hm : 2 ≤ m) : callD loop prog m 3 [d, .int n] sto = some (.d (.bl (rowOk d n)), sto) := by
  obtain ⟨k, rfl⟩ : ∃ k, m = k + 2 := ⟨m - 2, by omega⟩
  refine ends_eq (run_def (d := d_is_row) rfl rfl ?_)
  cases d <;> (try simp [okD] at h) <;> simp [d_is_row, rowOk, start, O.isD, O.flat, isInst, isTy, tyNames, tyN, tyNs, anyN, O.toD, eqOk, D.plain, D.depth, D.eqv, D.flat, E.place, E.quiet, E.quiet.go, E.quietO, stEs, stE, asgT, cxK_own, cxK_cel, cxK_call, cxK_make, bindT.go, Tg.slots, Tg.slots.go, wipe, putBack, dOnly, ixN, bls_map, pures_map', pures_mapf, toDs_mapf, toDs_map', ints_map, E.keeps, isN, isL, modR, modPath, appAt]
  rename_i xs
  refine ⟨fun e e' => (e e').elim, fun e => ?_⟩
  refine run_map xs id (fun x => .bl (isNum x)) ?_
  simp [e, h.1, start, O.isD, O.flat, isInst, isTy, tyNames, tyN, tyNs, anyN, O.toD, eqOk, D.plain, D.depth, D.eqv, D.flat, E.place, E.quiet, E.quiet.go, E.quietO, stEs, stE, asgT, cxK_own, cxK_cel, cxK_call, cxK_make, bindT.go, Tg.slots, Tg.slots.go, wipe, putBack, dOnly, ixN, bls_map, pures_map', pures_mapf, toDs_mapf, toDs_map', ints_map, E.keeps, isN, isL, modR, modPath, appAt]
  simp +contextual [v_is_number, okDs_mem h.2, start, O.isD, O.flat, isInst, isTy, tyNames, tyN, tyNs, anyN, O.toD, eqOk, D.plain, D.depth, D.eqv, D.flat, E.place, E.quiet, E.quiet.go, E.quietO, stEs, stE, asgT, cxK_own, cxK_cel, cxK_call, cxK_make, bindT.go, Tg.slots, Tg.slots.go, wipe, putBack, dOnly, ixN, bls_map, pures_map', pures_mapf, toDs_mapf, toDs_map', ints_map, E.keeps, isN, isL, modR, modPath, appAt]
theorem v_is_count_row {d : D} {n : Int} (h : okD d = true) {m : Nat} (hm : 3 ≤ m) : callD loop prog m 4 [d, .int n] sto = some (.d (.bl (cntOk d n)), sto) := by
  obtain ⟨k, rfl⟩ : ∃ k, m = k + 3 := ⟨m - 3, by omega⟩
  refine ends_eq (run_def (d := d_is_count_row) rfl rfl ?_)
  simp [d_is_count_row, v_is_row h, start, O.isD, O.flat, isInst, isTy, tyNames, tyN, tyNs, anyN, O.toD, eqOk, D.plain, D.depth, D.eqv, D.flat, E.place, E.quiet, E.quiet.go, E.quietO, stEs, stE, asgT, cxK_own, cxK_cel, cxK_call, cxK_make, bindT.go, Tg.slots, Tg.slots.go, wipe, putBack, dOnly, ixN, bls_map, pures_map', pures_mapf, toDs_mapf, toDs_map', ints_map, E.keeps, isN, isL, modR, modPath, appAt]
  refine ⟨fun e => ?_, fun e => ?_⟩
  · cases d <;> simp [rowOk] at e <;> simp [cntOk]
    intro e1
    obtain ⟨x, hx, h2⟩ := e e1
    exact ⟨x, hx, by cases h3 : isNat x <;> simp_all [isNum_of_nat]⟩
  · cases d <;> (try simp [rowOk] at e)
    rename_i xs
    simp [okD] at h
    refine run_map xs id (fun x => .bl (isNat x)) ?_
    simp [h.1, start, O.isD, O.flat, isInst, isTy, tyNames, tyN, tyNs, anyN, O.toD, eqOk, D.plain, D.depth, D.eqv, D.flat, E.place, E.quiet, E.quiet.go, E.quietO, stEs, stE, asgT, cxK_own, cxK_cel, cxK_call, cxK_make, bindT.go, Tg.slots, Tg.slots.go, wipe, putBack, dOnly, ixN, bls_map, pures_map', pures_mapf, toDs_mapf, toDs_map', ints_map, E.keeps, isN, isL, modR, modPath, appAt]
    refine ⟨fun x hx => ?_, ?_⟩
    · have := e.2 x hx
      cases x <;> simp [isNum] at this
      simp [isNat, start, O.isD, O.flat, isInst, isTy, tyNames, tyN, tyNs, anyN, O.toD, eqOk, D.plain, D.depth, D.eqv, D.flat, E.place, E.quiet, E.quiet.go, E.quietO, stEs, stE, asgT, cxK_own, cxK_cel, cxK_call, cxK_make, bindT.go, Tg.slots, Tg.slots.go, wipe, putBack, dOnly, ixN, bls_map, pures_map', pures_mapf, toDs_mapf, toDs_map', ints_map, E.keeps, isN, isL, modR, modPath, appAt]
    · simp [cntOk, e.1, bls_map]
theorem gcd_run {c : Cx} (ho : c.own = []) (hc : c.cel = []) (hl : c.lp = loop) {x0 x1 x2 : Option O} {a b : Nat} {K : Out × St → Prop} (hK : K (.nx, ⟨[x0, x1, x2, some (.d (.int (Nat.gcd a b : Nat))), some (.d (.int 0))], sto⟩)) :
    Ends (ex c (.whl (.cmp .ne (.var 4) (.con (.int 0))) [.par [3, 4] [.var 4, .bin .mod (.var 3) (.var 4)]]) ⟨[x0, x1, x2, some (.d (.int (a : Nat))), some (.d (.int (b : Nat)))], sto⟩) K := by
  refine run_whl (fun n s => ∃ a' b' : Nat, n = b' ∧ Nat.gcd a' b' = Nat.gcd a b ∧ s = ⟨[x0, x1, x2, some (.d (.int a')), some (.d (.int b'))], sto⟩) hl (n := b) ⟨a, b, rfl, rfl, rfl⟩ ?_
  rintro n s ⟨a', b', rfl, h2, rfl⟩
  simp [start, O.isD, O.flat, isInst, isTy, tyNames, tyN, tyNs, anyN, O.toD, eqOk, D.plain, D.depth, D.eqv, D.flat, E.place, E.quiet, E.quiet.go, E.quietO, stEs, stE, asgT, cxK_own, cxK_cel, cxK_call, cxK_make, bindT.go, Tg.slots, Tg.slots.go, wipe, putBack, dOnly, ixN, bls_map, pures_map', pures_mapf, toDs_mapf, toDs_map', ints_map, E.keeps, isN, isL, modR, modPath, appAt, ho, hc]
  refine ⟨fun e => ?_, fun e => ?_⟩
  · subst e
    rw [Nat.gcd_zero_right] at h2
    rw [h2]
    exact hK
  · refine ⟨e, a' % n, Nat.mod_lt _ (by omega), n, ?_, ?_⟩
    · rw [← h2, Nat.gcd_comm n, ← Nat.gcd_rec, Nat.gcd_comm]
    · simp [fmod_nat]
theorem v_divisor {d : D} {ns : List Int} (hs : seqOf d = some (ns.map .int)) {m : Nat} (hm : 1 ≤ m) : callD loop prog m 5 [d] sto = some (.d (.int (divN ns : Nat)), sto) := by
  obtain ⟨k, rfl⟩ : ∃ k, m = k + 1 := ⟨m - 1, by omega⟩
  have hd : ∀ c, d ≠ .cell c := fun c e => by rw [e] at hs; cases hs
  have hn : noCell (.d d) = true := by cases d <;> first | rfl | cases hs
  refine ends_eq (run_def (d := d_divisor_of) rfl rfl ?_)
  simp [hn, d_divisor_of, start, O.isD, O.flat, isInst, isTy, tyNames, tyN, tyNs, anyN, O.toD, eqOk, D.plain, D.depth, D.eqv, D.flat, E.place, E.quiet, E.quiet.go, E.quietO, stEs, stE, asgT, cxK_own, cxK_cel, cxK_call, cxK_make, bindT.go, Tg.slots, Tg.slots.go, wipe, putBack, dOnly, ixN, bls_map, pures_map', pures_mapf, toDs_mapf, toDs_map', ints_map, E.keeps, isN, isL, modR, modPath, appAt]
  refine run_for ns D.int (fun done s => ∃ x2 x3 x4, s = ⟨[some (.d d), some (.d (.int (divN done : Nat))), x2, x3, x4], sto⟩) ?_ ?_ ?_
  · simp [start, O.isD, O.flat, isInst, isTy, tyNames, tyN, tyNs, anyN, O.toD, eqOk, D.plain, D.depth, D.eqv, D.flat, E.place, E.quiet, E.quiet.go, E.quietO, stEs, stE, asgT, cxK_own, cxK_cel, cxK_call, cxK_make, bindT.go, Tg.slots, Tg.slots.go, wipe, putBack, dOnly, ixN, bls_map, pures_map', pures_mapf, toDs_mapf, toDs_map', ints_map, E.keeps, isN, isL, modR, modPath, appAt, hs, divN]
  · rintro done x rest e s ⟨x2, x3, x4, rfl⟩
    simp [start, O.isD, O.flat, isInst, isTy, tyNames, tyN, tyNs, anyN, O.toD, eqOk, D.plain, D.depth, D.eqv, D.flat, E.place, E.quiet, E.quiet.go, E.quietO, stEs, stE, asgT, cxK_own, cxK_cel, cxK_call, cxK_make, bindT.go, Tg.slots, Tg.slots.go, wipe, putBack, dOnly, ixN, bls_map, pures_map', pures_mapf, toDs_mapf, toDs_map', ints_map, E.keeps, isN, isL, modR, modPath, appAt]
    refine gcd_run rfl rfl rfl ?_
    simp [start, O.isD, O.flat, isInst, isTy, tyNames, tyN, tyNs, anyN, O.toD, eqOk, D.plain, D.depth, D.eqv, D.flat, E.place, E.quiet, E.quiet.go, E.quietO, stEs, stE, asgT, cxK_own, cxK_cel, cxK_call, cxK_make, bindT.go, Tg.slots, Tg.slots.go, wipe, putBack, dOnly, ixN, bls_map, pures_map', pures_mapf, toDs_mapf, toDs_map', ints_map, E.keeps, isN, isL, modR, modPath, appAt, divN]
  · rintro s ⟨x2, x3, x4, rfl⟩
    simp [start, O.isD, O.flat, isInst, isTy, tyNames, tyN, tyNs, anyN, O.toD, eqOk, D.plain, D.depth, D.eqv, D.flat, E.place, E.quiet, E.quiet.go, E.quietO, stEs, stE, asgT, cxK_own, cxK_cel, cxK_call, cxK_make, bindT.go, Tg.slots, Tg.slots.go, wipe, putBack, dOnly, ixN, bls_map, pures_map', pures_mapf, toDs_mapf, toDs_map', ints_map, E.keeps, isN, isL, modR, modPath, appAt]
end K48
end Py
end

section
set_option linter.all false
set_option Elab.async false
/-! Q2: ratios. -/
namespace Py
/-- a ratio as the program tells it -/
def enc (q : Rat) : D := .tup [.int q.num, .int (q.den : Nat)]
theorem enc_eq {a b : Int} {q : Rat} (h1 : a = q.num) (h2 : b = (q.den : Nat)) : D.tup [.int a, .int b] = enc q := by rw [h1, h2]; rfl
theorem enc_zero : D.tup [.int 0, .int 1] = enc 0 := rfl
theorem enc_one : D.tup [.int 1, .int 1] = enc 1 := rfl
theorem enc_inj {p q : Rat} (h : enc p = enc q) : p = q := by
  simp [enc] at h
  exact Rat.ext h.1 (by omega)
@[simp] theorem item_enc0 {p : Rat} : item (.d (enc p)) (.int 0) = some (.d (.int p.num)) := by
  simp [enc]
@[simp] theorem item_enc1 {p : Rat} : item (.d (enc p)) (.int 1) = some (.d (.int (p.den : Nat))) := by
  simp [enc]
theorem eqv_enc {p q : Rat} : (enc p).eqv (enc q) = decide (p = q) := by
  rw [Bool.eq_iff_iff]
  simp [enc, D.eqv, D.eqvs]
  constructor
  · rintro ⟨h1, h2⟩; exact Rat.ext h1 (by omega)
  · rintro rfl; simp
theorem plain_enc {p : Rat} : (enc p).plain = true := by simp [enc, D.plain, D.plains]
theorem depth_enc {p : Rat} : (enc p).depth = 1 := by simp [enc, D.depth, D.depths]
theorem okD_enc {p : Rat} : okD (enc p) = true := by simp [enc, okD, okDs]
@[simp] theorem enc_cell {p : Rat} : noCell (.d (enc p)) = true := by simp [enc]
/-- a ratio that is told of -/
def SmR (p : Rat) : Prop := p.num.natAbs < bigA ∧ p.den < bigA
theorem smR_zero : SmR 0 := ⟨Nat.lt_trans Nat.zero_lt_one one_bigA, one_bigA⟩
theorem smR_one : SmR 1 := ⟨one_bigA, one_bigA⟩
theorem smR_num {p : Rat} (h : SmR p) : Sm p.num := h.1
theorem smR_den {p : Rat} (h : SmR p) : Sm (p.den : Nat) := by unfold Sm; simpa using h.2
theorem big_div {j : Nat} (h : j ≠ 0) (hj : j < bigB) : divOk (j : Int) = true := big_div' (by omega) (by simpa using hj)
theorem den_lt {p q : Rat} (hp : SmR p) (hq : SmR q) : p.den * q.den < bigB := Nat.lt_of_le_of_lt (Nat.mul_le_mul (Nat.le_of_lt hp.2) (Nat.le_of_lt hq.2)) bigA_lt
theorem fdiv_nat {a : Int} {g : Nat} : a.fdiv (g : Int) = a / (g : Int) := Int.fdiv_eq_ediv_of_nonneg a (by omega)
/-- least terms -/
theorem enc_mk {a : Int} {b : Nat} (hb : 0 < b) : D.tup [.int (a.fdiv (Nat.gcd a.natAbs b : Nat)), .int ((b : Int).fdiv (Nat.gcd a.natAbs b : Nat))] = enc (mkRat a b) := by
  refine enc_eq ?_ ?_
  · rw [fdiv_nat, Rat.mkRat_def, dif_neg (by omega), Rat.num_normalize]
  · rw [fdiv_nat, Rat.mkRat_def, dif_neg (by omega), Rat.den_normalize]
    simp
namespace K48
variable {sto : List O}
theorem v_ratio_of {a b : Int} (hb : 0 < b) (hs : b.natAbs < bigB) {m : Nat} (hm : 2 ≤ m) : callD loop prog m 8 [.int a, .int b] sto = some (.d (enc (mkRat a b.natAbs)), sto) := by
  obtain ⟨k, rfl⟩ : ∃ k, m = k + 2 := ⟨m - 2, by omega⟩
  obtain ⟨n, rfl⟩ := Int.eq_ofNat_of_zero_le (Int.le_of_lt hb)
  have hn : 0 < n := by omega
  have hg : Nat.gcd a.natAbs n < bigB := Nat.lt_of_le_of_lt (Nat.gcd_le_right _ hn) (by simpa using hs)
  have hg0 : Nat.gcd a.natAbs n ≠ 0 := by
    have := Nat.gcd_pos_of_pos_right a.natAbs hn
    omega
  refine ends_eq (run_def (d := d_ratio_of) rfl rfl ?_)
  have hv : callD loop prog (k + 1) 5 [.tup [.int a, .int n]] sto = some (.d (.int (Nat.gcd a.natAbs n : Nat)), sto) := by
    rw [v_divisor (ns := [a, n]) rfl (by omega)]
    simp [divN]
  simp [d_ratio_of, start, O.isD, O.flat, isInst, isTy, tyNames, tyN, tyNs, anyN, O.toD, eqOk, D.plain, D.depth, D.eqv, D.flat, E.place, E.quiet, E.quiet.go, E.quietO, stEs, stE, asgT, cxK_own, cxK_cel, cxK_call, cxK_make, bindT.go, Tg.slots, Tg.slots.go, wipe, putBack, dOnly, ixN, bls_map, pures_map', pures_mapf, toDs_mapf, toDs_map', ints_map, E.keeps, isN, isL, modR, modPath, appAt, hn, hv, big_div hg0 hg]
  exact enc_mk hn
theorem v_sum_of {p q : Rat} (hp : SmR p) (hq : SmR q) {m : Nat} (hm : 3 ≤ m) : callD loop prog m 10 [enc p, enc q] sto = some (.d (enc (p + q)), sto) := by
  obtain ⟨k, rfl⟩ : ∃ k, m = k + 3 := ⟨m - 3, by omega⟩
  refine ends_eq (run_def (d := d_sum_of) rfl rfl ?_)
  have hb : (0 : Int) < (p.den : Int) * (q.den : Int) := Int.mul_pos (by have := p.den_pos; omega) (by have := q.den_pos; omega)
  have hs : ((p.den : Int) * (q.den : Int)).natAbs < bigB := by
    simpa [Int.natAbs_mul] using den_lt hp hq
  simp [d_sum_of, start, O.isD, O.flat, isInst, isTy, tyNames, tyN, tyNs, anyN, O.toD, eqOk, D.plain, D.depth, D.eqv, D.flat, E.place, E.quiet, E.quiet.go, E.quietO, stEs, stE, asgT, cxK_own, cxK_cel, cxK_call, cxK_make, bindT.go, Tg.slots, Tg.slots.go, wipe, putBack, dOnly, ixN, bls_map, pures_map', pures_mapf, toDs_mapf, toDs_map', ints_map, E.keeps, isN, isL, modR, modPath, appAt, item_enc0, item_enc1, sm_mul (smR_num hp) (smR_den hq), sm_mul (smR_num hq) (smR_den hp), sm_mul (smR_den hp) (smR_den hq), v_ratio_of hb hs, Rat.add_def', Int.natAbs_mul]
theorem v_less_of {p q : Rat} (hp : SmR p) (hq : SmR q) {m : Nat} (hm : 3 ≤ m) : callD loop prog m 11 [enc p, enc q] sto = some (.d (enc (p - q)), sto) := by
  obtain ⟨k, rfl⟩ : ∃ k, m = k + 3 := ⟨m - 3, by omega⟩
  refine ends_eq (run_def (d := d_less_of) rfl rfl ?_)
  have hb : (0 : Int) < (p.den : Int) * (q.den : Int) := Int.mul_pos (by have := p.den_pos; omega) (by have := q.den_pos; omega)
  have hs : ((p.den : Int) * (q.den : Int)).natAbs < bigB := by
    simpa [Int.natAbs_mul] using den_lt hp hq
  simp [d_less_of, start, O.isD, O.flat, isInst, isTy, tyNames, tyN, tyNs, anyN, O.toD, eqOk, D.plain, D.depth, D.eqv, D.flat, E.place, E.quiet, E.quiet.go, E.quietO, stEs, stE, asgT, cxK_own, cxK_cel, cxK_call, cxK_make, bindT.go, Tg.slots, Tg.slots.go, wipe, putBack, dOnly, ixN, bls_map, pures_map', pures_mapf, toDs_mapf, toDs_map', ints_map, E.keeps, isN, isL, modR, modPath, appAt, item_enc0, item_enc1, sm_mul (smR_num hp) (smR_den hq), sm_mul (smR_num hq) (smR_den hp), sm_mul (smR_den hp) (smR_den hq), v_ratio_of hb hs, Rat.sub_def', Int.natAbs_mul]
theorem v_product_of {p q : Rat} (hp : SmR p) (hq : SmR q) {m : Nat} (hm : 3 ≤ m) : callD loop prog m 12 [enc p, enc q] sto = some (.d (enc (p * q)), sto) := by
  obtain ⟨k, rfl⟩ : ∃ k, m = k + 3 := ⟨m - 3, by omega⟩
  refine ends_eq (run_def (d := d_product_of) rfl rfl ?_)
  have hb : (0 : Int) < (p.den : Int) * (q.den : Int) := Int.mul_pos (by have := p.den_pos; omega) (by have := q.den_pos; omega)
  have hs : ((p.den : Int) * (q.den : Int)).natAbs < bigB := by
    simpa [Int.natAbs_mul] using den_lt hp hq
  simp [d_product_of, start, O.isD, O.flat, isInst, isTy, tyNames, tyN, tyNs, anyN, O.toD, eqOk, D.plain, D.depth, D.eqv, D.flat, E.place, E.quiet, E.quiet.go, E.quietO, stEs, stE, asgT, cxK_own, cxK_cel, cxK_call, cxK_make, bindT.go, Tg.slots, Tg.slots.go, wipe, putBack, dOnly, ixN, bls_map, pures_map', pures_mapf, toDs_mapf, toDs_map', ints_map, E.keeps, isN, isL, modR, modPath, appAt, item_enc0, item_enc1, sm_mul (smR_num hp) (smR_num hq), sm_mul (smR_den hp) (smR_den hq), v_ratio_of hb hs, Rat.mul_def', Int.natAbs_mul]
end K48
end Py
end

section
set_option linter.all false
set_option Elab.async false
/-! Q3: scales and numbers, walks. -/
namespace Py
/-- a scale and numbers -/
def pD (p : Nat × List Nat) : D := .tup [.int (p.1 : Nat), .tup (p.2.map fun n => .int (n : Nat))]
@[simp] theorem pD_cell {p : Nat × List Nat} : noCell (.d (pD p)) = true := by simp [pD]
@[simp] theorem bind_pD {p : Nat × List Nat} {i j : Nat} {env : List (Option O)} : bindT (.tup [.nm i, .nm j]) (pD p) env = some ((env.set i (some (.d (.int (p.1 : Nat))))).set j (some (.d (.tup (p.2.map fun n => .int (n : Nat)))))) := by rfl
@[simp] theorem item_pD0 {p : Nat × List Nat} : item (.d (pD p)) (.int 0) = some (.d (.int (p.1 : Nat))) := by simp [pD]
@[simp] theorem item_pD1 {p : Nat × List Nat} : item (.d (pD p)) (.int 1) = some (.d (.tup (p.2.map fun n => .int (n : Nat)))) := by simp [pD]
def gcdL (s : Nat) (ns : List Nat) : Nat := ns.foldl Nat.gcd s
def least (s : Nat) (ns : List Nat) : Nat × List Nat := (s / gcdL s ns, ns.map fun n => n / gcdL s ns)
/-- the ratios of a scale and numbers -/
def valP (p : Nat × List Nat) : List Rat := p.2.map fun n : Nat => mkRat (n : Int) p.1
theorem gcdL_dvd : ∀ {ns : List Nat} {s : Nat}, gcdL s ns ∣ s ∧ ∀ n ∈ ns, gcdL s ns ∣ n
  | [], s => ⟨Nat.dvd_refl _, fun n h => by cases h⟩
  | m :: ns, s => by
    have h := @gcdL_dvd ns (Nat.gcd s m)
    refine ⟨Nat.dvd_trans h.1 (Nat.gcd_dvd_left s m), fun n hn => ?_⟩
    rcases List.mem_cons.mp hn with rfl | hn
    · exact Nat.dvd_trans h.1 (Nat.gcd_dvd_right s n)
    · exact h.2 n hn
theorem gcdL_pos {ns : List Nat} {s : Nat} (h : 0 < s) : 0 < gcdL s ns := Nat.pos_of_dvd_of_pos gcdL_dvd.1 h
theorem gcdL_le {ns : List Nat} {s : Nat} (h : 0 < s) : gcdL s ns ≤ s := Nat.le_of_dvd h gcdL_dvd.1
theorem divN_gcdL (s : Nat) (ns : List Nat) : divN ((s : Int) :: ns.map fun n => ((n : Nat) : Int)) = gcdL s ns := by
  unfold divN gcdL
  rw [List.foldl_cons, List.foldl_map]
  simp
theorem mkRat_div {n s g : Nat} (hg : 0 < g) (h1 : g ∣ n) (h2 : g ∣ s) (hs : 0 < s) : mkRat ((n / g : Nat) : Int) (s / g) = mkRat (n : Int) s := by
  obtain ⟨a, rfl⟩ := h1
  obtain ⟨b, rfl⟩ := h2
  rw [Nat.mul_div_cancel_left _ hg, Nat.mul_div_cancel_left _ hg]
  have hb : b ≠ 0 := by
    rintro rfl; simp at hs
  rw [Rat.mkRat_eq_iff hb (by omega)]
  push_cast
  grind
theorem val_least {s : Nat} {ns : List Nat} (h : 0 < s) : valP (least s ns) = valP (s, ns) := by
  unfold valP least
  simp only [List.map_map]
  refine List.map_congr_left fun n hn => ?_
  exact mkRat_div (gcdL_pos h) (gcdL_dvd.2 n hn) gcdL_dvd.1 h
/-- told in least terms, small -/
structure POk (b : Nat) (p : Nat × List Nat) : Prop where
  pos : 0 < p.1
  le : p.1 ≤ 2 ^ b
  nums : ∀ n ∈ p.2, n ≤ 2 ^ b
theorem pok_least {b s : Nat} {ns : List Nat} (h0 : 0 < s) (hb : s ≤ 2 ^ b) (h : ∀ n ∈ ns, n ≤ 2 ^ b) : POk b (least s ns) := by
  refine ⟨Nat.div_pos (gcdL_le h0) (gcdL_pos h0), Nat.le_trans (Nat.div_le_self _ _) hb, fun n hn => ?_⟩
  simp only [least, List.mem_map] at hn ⊢
  obtain ⟨m, hm, rfl⟩ := hn
  exact Nat.le_trans (Nat.div_le_self _ _) (h m hm)
theorem pok_mono {b b' : Nat} {p : Nat × List Nat} (h : POk b p) (hb : b ≤ b') : POk b' p := ⟨h.pos, Nat.le_trans h.le (Nat.pow_le_pow_right (by decide) hb), fun n hn => Nat.le_trans (h.nums n hn) (Nat.pow_le_pow_right (by decide) hb)⟩
theorem len_least {s : Nat} {ns : List Nat} : (least s ns).2.length = ns.length := by simp [least]
theorem sm_of {n b : Nat} (h : n ≤ 2 ^ b) (hb : b < 4000) : Sm (n : Int) := by
  unfold Sm
  have := pow_bigA hb
  simp only [Int.natAbs_natCast]; omega
theorem nat_fdiv {a g : Nat} : (a : Int).fdiv (g : Int) = ((a / g : Nat) : Int) := by
  rw [fdiv_nat]; rfl
theorem sum_cast : ∀ l : List Nat, (l.map fun n => ((n : Nat) : Int)).sum = ((l.sum : Nat) : Int)
  | [] => rfl
  | x :: l => by simp [sum_cast l]
theorem ints_nat (l : List Nat) : intsD (l.map fun n => D.int (n : Nat)) = some (l.map fun n => ((n : Nat) : Int)) := ints_map (fun n : Nat => (n : Int)) l
/-- a product of some -/
def lcmL (ns : List Nat) : Nat := ns.foldl (fun a n => a / Nat.gcd a n * n) 1
namespace K48
variable {sto : List O}
theorem v_least_pair {d : D} {s : Nat} {ns : List Nat} (hs : 0 < s) (hb : s < bigB) (hd : seqOf d = some (ns.map fun n => .int (n : Nat))) (hl : ns.length ≤ 1000) {m : Nat} (hm : 2 ≤ m) :
    callD loop prog m 7 [.int (s : Nat), d] sto = some (.d (pD (least s ns)), sto) := by
  obtain ⟨k, rfl⟩ : ∃ k, m = k + 2 := ⟨m - 2, by omega⟩
  have hn : noCell (.d d) = true := by cases d <;> first | rfl | cases hd
  have hv : callD loop prog (k + 1) 5 [.tup (.int (s : Nat) :: ns.map fun n => .int (n : Nat))] sto = some (.d (.int (gcdL s ns : Nat)), sto) := by
    rw [v_divisor (ns := (s : Int) :: ns.map fun n => ((n : Nat) : Int)) (by simp) (by omega), divN_gcdL]
  have hl2 : lenOk ns.length = true := lenOk_of (by omega)
  have hl3 : lenOk (ns.length + 1) = true := lenOk_of (by omega)
  have hg0 : gcdL s ns ≠ 0 := by have := gcdL_pos (ns := ns) hs; omega
  have hg : gcdL s ns < bigB := Nat.lt_of_le_of_lt (gcdL_le hs) hb
  have hq := big_div hg0 hg
  refine ends_eq (run_def (d := d_least_pair) rfl rfl ?_)
  simp [d_least_pair, start, O.isD, O.flat, isInst, isTy, tyNames, tyN, tyNs, anyN, O.toD, eqOk, D.plain, D.depth, D.eqv, D.flat, E.place, E.quiet, E.quiet.go, E.quietO, stEs, stE, asgT, cxK_own, cxK_cel, cxK_call, cxK_make, bindT.go, Tg.slots, Tg.slots.go, wipe, putBack, dOnly, ixN, bls_map, pures_map', pures_mapf, toDs_mapf, toDs_map', ints_map, E.keeps, isN, isL, modR, modPath, appAt, hl2, hl3, hn, hd, hv, hq]
  refine run_map ns (fun n => .int (n : Nat)) (fun n => .int ((n / gcdL s ns : Nat) : Nat)) ?_
  simp [start, O.isD, O.flat, isInst, isTy, tyNames, tyN, tyNs, anyN, O.toD, eqOk, D.plain, D.depth, D.eqv, D.flat, E.place, E.quiet, E.quiet.go, E.quietO, stEs, stE, asgT, cxK_own, cxK_cel, cxK_call, cxK_make, bindT.go, Tg.slots, Tg.slots.go, wipe, putBack, dOnly, ixN, bls_map, pures_map', pures_mapf, toDs_mapf, toDs_map', ints_map, E.keeps, isN, isL, modR, modPath, appAt, hl2, hd, hn, hq, nat_fdiv]
  simp [pD, least]
theorem v_multiple_of {d : D} {ns : List Nat} {B : Nat} (hd : seqOf d = some (ns.map fun n => .int (n : Nat))) (h0 : ∀ n ∈ ns, 0 < n) (hb : ∀ n ∈ ns, n ≤ 2 ^ 10) (hl : ns.length ≤ 8) {m : Nat} (hm : 2 ≤ m) :
    callD loop prog m 6 [d] sto = some (.d (.int (lcmL ns : Nat)), sto) := by
  obtain ⟨k, rfl⟩ : ∃ k, m = k + 2 := ⟨m - 2, by omega⟩
  have hn : noCell (.d d) = true := by cases d <;> first | rfl | cases hd
  refine ends_eq (run_def (d := d_multiple_of) rfl rfl ?_)
  simp [d_multiple_of, start, O.isD, O.flat, isInst, isTy, tyNames, tyN, tyNs, anyN, O.toD, eqOk, D.plain, D.depth, D.eqv, D.flat, E.place, E.quiet, E.quiet.go, E.quietO, stEs, stE, asgT, cxK_own, cxK_cel, cxK_call, cxK_make, bindT.go, Tg.slots, Tg.slots.go, wipe, putBack, dOnly, ixN, bls_map, pures_map', pures_mapf, toDs_mapf, toDs_map', ints_map, E.keeps, isN, isL, modR, modPath, appAt, hn, hd]
  refine run_for ns (fun n => .int (n : Nat)) (fun done s => 0 < lcmL done ∧ lcmL done ≤ 2 ^ (10 * done.length) ∧ ∃ x2, s = ⟨[some (.d d), some (.d (.int (lcmL done : Nat))), x2], sto⟩) ?_ ?_ ?_
  · simp [start, O.isD, O.flat, isInst, isTy, tyNames, tyN, tyNs, anyN, O.toD, eqOk, D.plain, D.depth, D.eqv, D.flat, E.place, E.quiet, E.quiet.go, E.quietO, stEs, stE, asgT, cxK_own, cxK_cel, cxK_call, cxK_make, bindT.go, Tg.slots, Tg.slots.go, wipe, putBack, dOnly, ixN, bls_map, pures_map', pures_mapf, toDs_mapf, toDs_map', ints_map, E.keeps, isN, isL, modR, modPath, appAt, hn, hd, lcmL]
  · rintro done x rest e s ⟨h1, h2, x2, rfl⟩
    have hx0 := h0 x (by rw [e]; simp)
    have hxb := hb x (by rw [e]; simp)
    have hv : callD loop prog (k + 1) 5 [.tup [.int (lcmL done : Nat), .int (x : Nat)]] sto = some (.d (.int (Nat.gcd (lcmL done) x : Nat)), sto) := by
      rw [v_divisor (ns := [((lcmL done : Nat) : Int), (x : Int)]) (by simp) (by omega)]
      simp [divN]
    have hg := Nat.gcd_pos_of_pos_right (lcmL done) hx0
    have hg2 : Nat.gcd (lcmL done) x ≤ x := Nat.gcd_le_right _ hx0
    have hq := sm_div (j := (Nat.gcd (lcmL done) x : Nat)) (by omega) (sm_of (b := 10) (Nat.le_trans hg2 hxb) (by decide))
    have hlen : done.length < 8 := by rw [e] at hl; simp at hl; omega
    have hm : mulOk ((lcmL done : Int) / (Nat.gcd (lcmL done) x : Nat)) (x : Nat) = true := by simpa using sm_mul (i := (lcmL done / Nat.gcd (lcmL done) x : Nat)) (j := (x : Nat)) (sm_of (b := 10 * done.length) (Nat.le_trans (Nat.div_le_self _ _) h2) (by omega)) (sm_of hxb (by decide))
    have hap : lcmL (done ++ [x]) = lcmL done / Nat.gcd (lcmL done) x * x := by simp [lcmL]
    simp [start, O.isD, O.flat, isInst, isTy, tyNames, tyN, tyNs, anyN, O.toD, eqOk, D.plain, D.depth, D.eqv, D.flat, E.place, E.quiet, E.quiet.go, E.quietO, stEs, stE, asgT, cxK_own, cxK_cel, cxK_call, cxK_make, bindT.go, Tg.slots, Tg.slots.go, wipe, putBack, dOnly, ixN, bls_map, pures_map', pures_mapf, toDs_mapf, toDs_map', ints_map, E.keeps, isN, isL, modR, modPath, appAt, hv, hq, nat_fdiv, hm, hap]
    refine ⟨Nat.mul_pos (Nat.div_pos (Nat.le_of_dvd h1 (Nat.gcd_dvd_left _ _)) hg) hx0, ?_⟩
    calc lcmL done / Nat.gcd (lcmL done) x * x ≤ 2 ^ (10 * done.length) * 2 ^ 10 := Nat.mul_le_mul (Nat.le_trans (Nat.div_le_self _ _) h2) hxb
      _ = 2 ^ (10 * (done.length + 1)) := by rw [← Nat.pow_add]; congr 1
  · rintro s ⟨h1, h2, x2, rfl⟩
    simp [start, O.isD, O.flat, isInst, isTy, tyNames, tyN, tyNs, anyN, O.toD, eqOk, D.plain, D.depth, D.eqv, D.flat, E.place, E.quiet, E.quiet.go, E.quietO, stEs, stE, asgT, cxK_own, cxK_cel, cxK_call, cxK_make, bindT.go, Tg.slots, Tg.slots.go, wipe, putBack, dOnly, ixN, bls_map, pures_map', pures_mapf, toDs_mapf, toDs_map', ints_map, E.keeps, isN, isL, modR, modPath, appAt]
end K48
end Py
end

section
set_option linter.all false
set_option Elab.async false
/-! Q4: shares, walks. -/
namespace Py
theorem run_make {P : Prog} {k g q : Nat} {ds : List D} {sto : List O} {d : Def} {K : List (Nat × D) × List O → Prop} (h0 : P.ini.lookup q = some g) (h : P.defs[g]? = some d) (h2 : ds.length + 1 = d.ar)
    (h3 : Ends (exs (cxK loop P k d.own d.cel) d.body ⟨start d (O.ins q [] :: ds.map .d), sto⟩) fun p => p.1 = .nx ∧ ∃ l, p.2.env[0]? = some (some (.ins q l)) ∧ K (O.toFs l, p.2.sto)) : Ends (makeD loop P (k + 1) q ds sto) K := by
  obtain ⟨⟨o, s⟩, h4, h5, l, h6, h7⟩ := h3
  simp only at h5 h6 h7
  subst h5
  refine ⟨_, ?_, h7⟩
  unfold makeD
  rw [h0]
  simp only [callK_succ, h, List.length_cons, List.length_map, h2, if_true]
  rw [h4]
  simp only [h6, if_true]
theorem all_map_id {α : Type} (f : α → Bool) (l : List α) (h : ∀ x ∈ l, f x = true) : ((l.map f).all id) = true := by
  simp; exact h
theorem okD_nats {l : List Nat} (h : l.length ≤ 1000) : okD (.tup (l.map fun n => .int (n : Nat))) = true := by
  simp only [okD, Bool.and_eq_true]
  refine ⟨lenOk_of (by simp; omega), okDs_of ?_⟩
  simp [okD]
theorem okD_pD {p : Nat × List Nat} (h : p.2.length ≤ 1000) : okD (pD p) = true := by
  have h2 := okD_nats h
  simp only [okD, Bool.and_eq_true] at h2
  simp [pD, okD, okDs, h2.2]
  exact lenOk_of (by omega)
theorem item_nats {l : List Nat} {j : Nat} (h : j < l.length) : item (.d (.tup (l.map fun n => .int (n : Nat)))) (.int (j : Nat)) = some (.d (.int (l.getD j 0 : Nat))) := by
  simp [q_it1, q_it2, ixN, h]
/-- a share of so many places -/
structure Share (many b : Nat) (p : Nat × List Nat) : Prop extends POk b p where
  len : p.2.length = many
  one : gcdL p.1 p.2 = 1
  sum : p.2.sum = p.1
theorem cntOk_nats {l : List Nat} : cntOk (.tup (l.map fun n => .int (n : Nat))) (l.length : Nat) = true := by
  simp [cntOk, isNat]
/-- rows of a walk -/
structure ROk (rows : List (Nat × List Nat)) : Prop where
  many : 1 ≤ rows.length ∧ rows.length ≤ 8
  row : ∀ r ∈ rows, 0 < r.1 ∧ r.1 ≤ 2 ^ 10 ∧ r.2.length = rows.length ∧ r.2.sum = r.1
def rowsD (rows : List (Nat × List Nat)) : List D := rows.map pD
def walkD (rows : List (Nat × List Nat)) : D := .ins 7 [(0, .tup (rowsD rows)), (1, .int (rows.length : Nat))]
@[simp] theorem walk_cell {rows : List (Nat × List Nat)} : noCell (.d (walkD rows)) = true := by simp [walkD]
@[simp] theorem attr_many {rows : List (Nat × List Nat)} : attrOf 1 (walkD rows) = some (.int (rows.length : Nat)) := by rfl
@[simp] theorem attr_rows {rows : List (Nat × List Nat)} : attrOf 0 (walkD rows) = some (.tup (rowsD rows)) := by rfl
theorem mem_le_sum : ∀ {l : List Nat} {n : Nat}, n ∈ l → n ≤ l.sum
  | [], _, h => by cases h
  | m :: l, n, h => by
    rcases List.mem_cons.mp h with rfl | h
    · simp
    · have := mem_le_sum h
      simp; omega
namespace K48
variable {sto : List O}
theorem v_is_pair_of {many b : Nat} {p : Nat × List Nat} (h : POk b p) (hmany : many ≤ 8) (hl : p.2.length = many) (h1 : gcdL p.1 p.2 = 1) {m : Nat} (hm : 4 ≤ m) : callD loop prog m 14 [.int (many : Nat), pD p] sto = some (.d (.bl true), sto) := by
  obtain ⟨k, rfl⟩ : ∃ k, m = k + 4 := ⟨m - 4, by omega⟩
  refine ends_eq (run_def (d := d_is_pair_of) rfl rfl ?_)
  have e1 := h.pos
  have hv : callD loop prog (k + 3) 5 [.tup (.int (p.1 : Nat) :: p.2.map fun n => .int (n : Nat))] sto = some (.d (.int (1 : Nat)), sto) := by
    rw [v_divisor (ns := (p.1 : Int) :: p.2.map fun n => ((n : Nat) : Int)) (by simp) (by omega), divN_gcdL, h1]
  have hc : callD loop prog (k + 3) 4 [.tup (p.2.map fun n => .int (n : Nat)), .int (many : Nat)] sto = some (.d (.bl true), sto) := by
    rw [v_is_count_row (okD_nats (by omega)) (by omega), ← hl, cntOk_nats]
  simp [d_is_pair_of, start, O.isD, O.flat, isInst, isTy, tyNames, tyN, tyNs, anyN, O.toD, eqOk, D.plain, D.depth, D.eqv, D.flat, E.place, E.quiet, E.quiet.go, E.quietO, stEs, stE, asgT, cxK_own, cxK_cel, cxK_call, cxK_make, bindT.go, Tg.slots, Tg.slots.go, wipe, putBack, dOnly, ixN, bls_map, pures_map', pures_mapf, toDs_mapf, toDs_map', ints_map, E.keeps, isN, isL, modR, modPath, appAt, pD, v_is_number, isNum, hv, hc]
  exact ⟨by omega, fun _ => lenOk_of (by omega)⟩
theorem v_is_share_of {many b : Nat} {p : Nat × List Nat} (h : Share many b p) (hmany : many ≤ 8) {m : Nat} (hm : 5 ≤ m) : callD loop prog m 15 [.int (many : Nat), pD p] sto = some (.d (.bl true), sto) := by
  obtain ⟨k, rfl⟩ : ∃ k, m = k + 5 := ⟨m - 5, by omega⟩
  refine ends_eq (run_def (d := d_is_share_of) rfl rfl ?_)
  simp [d_is_share_of, start, O.isD, O.flat, isInst, isTy, tyNames, tyN, tyNs, anyN, O.toD, eqOk, D.plain, D.depth, D.eqv, D.flat, E.place, E.quiet, E.quiet.go, E.quietO, stEs, stE, asgT, cxK_own, cxK_cel, cxK_call, cxK_make, bindT.go, Tg.slots, Tg.slots.go, wipe, putBack, dOnly, ixN, bls_map, pures_map', pures_mapf, toDs_mapf, toDs_map', ints_map, E.keeps, isN, isL, modR, modPath, appAt, v_is_pair_of h.toPOk hmany h.len h.one, item_pD0, item_pD1, ints_nat, sum_cast, h.sum]
theorem v_is_chance_row {many : Nat} {p : Nat × List Nat} (h0 : 0 < p.1) (hmany : many ≤ 8) (hl : p.2.length = many) (hs : p.2.sum ≤ p.1) {m : Nat} (hm : 4 ≤ m) : callD loop prog m 17 [.int (many : Nat), pD p] sto = some (.d (.bl true), sto) := by
  obtain ⟨k, rfl⟩ : ∃ k, m = k + 4 := ⟨m - 4, by omega⟩
  refine ends_eq (run_def (d := d_is_chance_row) rfl rfl ?_)
  have hc : callD loop prog (k + 3) 4 [.tup (p.2.map fun n => .int (n : Nat)), .int (many : Nat)] sto = some (.d (.bl true), sto) := by
    rw [v_is_count_row (okD_nats (by omega)) (by omega), ← hl, cntOk_nats]
  simp [d_is_chance_row, start, O.isD, O.flat, isInst, isTy, tyNames, tyN, tyNs, anyN, O.toD, eqOk, D.plain, D.depth, D.eqv, D.flat, E.place, E.quiet, E.quiet.go, E.quietO, stEs, stE, asgT, cxK_own, cxK_cel, cxK_call, cxK_make, bindT.go, Tg.slots, Tg.slots.go, wipe, putBack, dOnly, ixN, bls_map, pures_map', pures_mapf, toDs_mapf, toDs_map', ints_map, E.keeps, isN, isL, modR, modPath, appAt, pD, v_is_number, isNum, hc, ints_nat, sum_cast]
  omega
theorem v_Walk {rows : List (Nat × List Nat)} {d : D} (h : ROk rows) (hd : seqOf d = some (rowsD rows)) (hi : isLis d = true) {m : Nat} (hm : 5 ≤ m) : makeD loop prog m 7 [d] sto = some ([(0, .tup (rowsD (rows.map fun r => least r.1 r.2))), (1, .int (rows.length : Nat))], sto) := by
  obtain ⟨k, rfl⟩ : ∃ k, m = k + 5 := ⟨m - 5, by omega⟩
  have hn : noCell (.d d) = true := by cases d <;> first | rfl | cases hd
  have h1 := h.many.1
  have h2 := h.many.2
  have hsm : ∀ r ∈ rows, r.1 < bigB := fun r hr => Nat.lt_trans (Nat.lt_of_le_of_lt (h.row r hr).2.1 (pow_bigA (by decide))) bigAB
  refine ends_eq (run_make (d := d_Walkxx_initxx) (g := 18) rfl rfl rfl ?_)
  have hok : okD d = true := by
    have : okDs (rowsD rows) = true := okDs_of fun x hx => by
      obtain ⟨r, hr, rfl⟩ := List.mem_map.mp hx
      exact okD_pD (by have := (h.row r hr).2.2.1; omega)
    cases d <;> first | cases hi | skip
    all_goals
      simp only [q_seq1, q_seq2, Option.some.injEq] at hd
      subst hd
      simp [okD, this]
      exact lenOk_of (by simp [rowsD]; omega)
  have hl : bi .len [d] = some (.d (.int (rows.length : Nat))) := by
    cases d <;> first | cases hi | skip
    all_goals
      simp only [q_seq1, q_seq2, Option.some.injEq] at hd
      subst hd
      simp [rowsD]
  have q1 : ¬ ((rows.length : Int) < 1) := by omega
  have q2 : (1 : Int) ≤ (rows.length : Int) := by omega
  have q3 : (rows.length : Int) ≤ 8 := by omega
  have q4 : lenOk rows.length = true := lenOk_of (by omega)
  simp [d_Walkxx_initxx, start, O.isD, O.flat, isInst, isTy, tyNames, tyN, tyNs, anyN, O.toD, eqOk, D.plain, D.depth, D.eqv, D.flat, E.place, E.quiet, E.quiet.go, E.quietO, stEs, stE, asgT, cxK_own, cxK_cel, cxK_call, cxK_make, bindT.go, Tg.slots, Tg.slots.go, wipe, putBack, dOnly, ixN, bls_map, pures_map', pures_mapf, toDs_mapf, toDs_map', ints_map, E.keeps, isN, isL, modR, modPath, appAt, hn, v_is_list hok, hi, hl, q1, q2, q3]
  refine run_map rows pD (fun _ => .bl true) ?_
  simp [start, O.isD, O.flat, isInst, isTy, tyNames, tyN, tyNs, anyN, O.toD, eqOk, D.plain, D.depth, D.eqv, D.flat, E.place, E.quiet, E.quiet.go, E.quietO, stEs, stE, asgT, cxK_own, cxK_cel, cxK_call, cxK_make, bindT.go, Tg.slots, Tg.slots.go, wipe, putBack, dOnly, ixN, bls_map, pures_map', pures_mapf, toDs_mapf, toDs_map', ints_map, E.keeps, isN, isL, modR, modPath, appAt, hn, hd, hl, rowsD, q4, putF]
  refine ⟨fun a b hab => ?_, ?_⟩
  · have := h.row _ hab
    simp [v_is_chance_row this.1 h2 this.2.2.1 (Nat.le_of_eq this.2.2.2), start, O.isD, O.flat, isInst, isTy, tyNames, tyN, tyNs, anyN, O.toD, eqOk, D.plain, D.depth, D.eqv, D.flat, E.place, E.quiet, E.quiet.go, E.quietO, stEs, stE, asgT, cxK_own, cxK_cel, cxK_call, cxK_make, bindT.go, Tg.slots, Tg.slots.go, wipe, putBack, dOnly, ixN, bls_map, pures_map', pures_mapf, toDs_mapf, toDs_map', ints_map, E.keeps, isN, isL, modR, modPath, appAt]
  · refine run_map rows pD (fun r => pD (least r.1 r.2)) ?_
    simp [start, O.isD, O.flat, isInst, isTy, tyNames, tyN, tyNs, anyN, O.toD, eqOk, D.plain, D.depth, D.eqv, D.flat, E.place, E.quiet, E.quiet.go, E.quietO, stEs, stE, asgT, cxK_own, cxK_cel, cxK_call, cxK_make, bindT.go, Tg.slots, Tg.slots.go, wipe, putBack, dOnly, ixN, bls_map, pures_map', pures_mapf, toDs_mapf, toDs_map', ints_map, E.keeps, isN, isL, modR, modPath, appAt, hn, hd, hl, rowsD, q4, putF]
    refine ⟨fun a b hab => ?_, by simp [O.toFs, start, O.isD, O.flat, isInst, isTy, tyNames, tyN, tyNs, anyN, O.toD, eqOk, D.plain, D.depth, D.eqv, D.flat, E.place, E.quiet, E.quiet.go, E.quietO, stEs, stE, asgT, cxK_own, cxK_cel, cxK_call, cxK_make, bindT.go, Tg.slots, Tg.slots.go, wipe, putBack, dOnly, ixN, bls_map, pures_map', pures_mapf, toDs_mapf, toDs_map', ints_map, E.keeps, isN, isL, modR, modPath, appAt]⟩
    have := h.row _ hab
    simp only at this
    simp [start, O.isD, O.flat, isInst, isTy, tyNames, tyN, tyNs, anyN, O.toD, eqOk, D.plain, D.depth, D.eqv, D.flat, E.place, E.quiet, E.quiet.go, E.quietO, stEs, stE, asgT, cxK_own, cxK_cel, cxK_call, cxK_make, bindT.go, Tg.slots, Tg.slots.go, wipe, putBack, dOnly, ixN, bls_map, pures_map', pures_mapf, toDs_mapf, toDs_map', ints_map, E.keeps, isN, isL, modR, modPath, appAt, v_least_pair (d := .tup (b.map fun n => .int (n : Nat))) (s := a) (ns := b) this.1 (hsm _ hab) rfl (by omega)]
end K48
end Py
end

section
set_option linter.all false
set_option Elab.async false
/-! Q5: one step of a walk. -/
namespace Py
theorem item_lst {α : Type} (f : α → D) (l : List α) (z : α) {j : Nat} (h : j < l.length) : item (.d (.lst (l.map f))) (.int (j : Nat)) = some (.d (f (l[j]?.getD z))) := by
  simp [q_it1, q_it2, ixN, h]
theorem item_tup {α : Type} (f : α → D) (l : List α) (z : α) {j : Nat} (h : j < l.length) : item (.d (.tup (l.map f))) (.int (j : Nat)) = some (.d (f (l[j]?.getD z))) := by
  simp [q_it1, q_it2, ixN, h]
def totR (rows : List (Nat × List Nat)) : Nat := lcmL (rows.map (·.1))
def tabR (rows : List (Nat × List Nat)) : List (List Nat) := rows.map fun r => r.2.map fun n => n * (totR rows / r.1)
def numD (l : List Nat) : D := .lst (l.map fun n => .int (n : Nat))
theorem lcmL_spec : ∀ (l done : List Nat) (a : Nat), 0 < a → (∀ n ∈ l, 0 < n) → (∀ n ∈ done, n ∣ a) →
    0 < l.foldl (fun a n => a / Nat.gcd a n * n) a ∧ (∀ n ∈ done ++ l, n ∣ l.foldl (fun a n => a / Nat.gcd a n * n) a)
  | [], done, a, h0, _, h => ⟨h0, by simpa using h⟩
  | x :: l, done, a, h0, hl, h => by
    have hx := hl x (by simp)
    have e : a / Nat.gcd a x * x = Nat.lcm a x := by
      rw [Nat.lcm, Nat.div_mul_right_comm (Nat.gcd_dvd_left _ _)]
    have := lcmL_spec l (done ++ [x]) (Nat.lcm a x) (Nat.lcm_pos h0 hx) (fun n hn => hl n (by simp [hn])) (fun n hn => by
      rcases List.mem_append.mp hn with hn | hn
      · exact Nat.dvd_trans (h n hn) (Nat.dvd_lcm_left _ _)
      · simp at hn; subst hn; exact Nat.dvd_lcm_right _ _)
    rw [List.foldl_cons, e]
    simpa using this
theorem lcmL_le : ∀ (l : List Nat) (a : Nat), (∀ n ∈ l, n ≤ 2 ^ 10) → l.foldl (fun a n => a / Nat.gcd a n * n) a ≤ a * 2 ^ (10 * l.length)
  | [], a, _ => by simp
  | x :: l, a, h => by
    have hx := h x (by simp)
    rw [List.foldl_cons]
    refine Nat.le_trans (lcmL_le l _ fun n hn => h n (by simp [hn])) ?_
    have : a / Nat.gcd a x * x ≤ a * 2 ^ 10 := Nat.mul_le_mul (Nat.div_le_self _ _) hx
    calc a / Nat.gcd a x * x * 2 ^ (10 * l.length) ≤ a * 2 ^ 10 * 2 ^ (10 * l.length) := Nat.mul_le_mul_right _ this
      _ = a * 2 ^ (10 * (x :: l).length) := by rw [Nat.mul_assoc, ← Nat.pow_add, List.length_cons]; congr 2; omega
theorem totR_spec {rows : List (Nat × List Nat)} (h : ROk rows) : 0 < totR rows ∧ totR rows ≤ 2 ^ 80 ∧ ∀ r ∈ rows, r.1 ∣ totR rows := by
  have h1 := lcmL_spec (rows.map (·.1)) [] 1 (by decide) (by simpa using fun a b hab => (h.row _ hab).1) (by simp)
  have h2 := lcmL_le (rows.map (·.1)) 1 (by simpa using fun a b hab => (h.row _ hab).2.1)
  refine ⟨h1.1, ?_, fun r hr => h1.2 _ (by simp; exact ⟨_, hr⟩)⟩
  unfold totR lcmL
  refine Nat.le_trans h2 ?_
  rw [Nat.one_mul, List.length_map]
  exact Nat.pow_le_pow_right (by decide) (by have := h.many.2; omega)
theorem tab_at {rows : List (Nat × List Nat)} {i j : Nat} (hi : i < rows.length) (hj : j < (rows[i]).2.length) : ((tabR rows)[i]?.getD [])[j]?.getD 0 = (rows[i]).2[j] * (totR rows / (rows[i]).1) := by
  simp only [tabR, List.getElem?_map, List.getElem?_eq_getElem hi, Option.map_some, Option.getD_some, List.getElem?_eq_getElem hj]
theorem tab_le {rows : List (Nat × List Nat)} (h : ROk rows) {i j : Nat} (hi : i < rows.length) : ((tabR rows)[i]?.getD [])[j]?.getD 0 ≤ 2 ^ 90 := by
  by_cases hj : j < (rows[i]).2.length
  · rw [tab_at hi hj]
    have hr := h.row _ (List.getElem_mem hi)
    have h1 : (rows[i]).2[j] ≤ 2 ^ 10 := Nat.le_trans (Nat.le_trans (mem_le_sum (List.getElem_mem hj)) (Nat.le_of_eq hr.2.2.2)) hr.2.1
    calc (rows[i]).2[j] * (totR rows / (rows[i]).1) ≤ 2 ^ 10 * 2 ^ 80 := Nat.mul_le_mul h1 (Nat.le_trans (Nat.div_le_self _ _) (totR_spec h).2.1)
      _ = 2 ^ 90 := by rw [← Nat.pow_add]
  · simp only [tabR, List.getElem?_map, List.getElem?_eq_getElem hi, Option.map_some, Option.getD_some]
    rw [List.getElem?_eq_none (by simpa using hj)]
    simp
/-- what a pair becomes in one step -/
def gone (rows : List (Nat × List Nat)) (p : Nat × List Nat) : Nat × List Nat :=
  least (p.1 * totR rows) ((List.range rows.length).map fun j => ((List.range rows.length).map fun i => p.2[i]?.getD 0 * ((tabR rows)[i]?.getD [])[j]?.getD 0).sum)
namespace K48
variable {sto : List O}
theorem v_table_of {rows : List (Nat × List Nat)} (h : ROk rows) {m : Nat} (hm : 3 ≤ m) : callD loop prog m 21 [walkD rows] sto = some (.d (.tup [.int (totR rows : Nat), .lst ((tabR rows).map numD)]), sto) := by
  obtain ⟨k, rfl⟩ : ∃ k, m = k + 3 := ⟨m - 3, by omega⟩
  have h1 := h.many.1
  have h2 := h.many.2
  have q4 : lenOk rows.length = true := lenOk_of (by omega)
  have ht := totR_spec h
  refine ends_eq (run_def (d := d_table_of) rfl rfl ?_)
  simp [d_table_of, start, O.isD, O.flat, isInst, isTy, tyNames, tyN, tyNs, anyN, O.toD, eqOk, D.plain, D.depth, D.eqv, D.flat, E.place, E.quiet, E.quiet.go, E.quietO, stEs, stE, asgT, cxK_own, cxK_cel, cxK_call, cxK_make, bindT.go, Tg.slots, Tg.slots.go, wipe, putBack, dOnly, ixN, bls_map, pures_map', pures_mapf, toDs_mapf, toDs_map', ints_map, E.keeps, isN, isL, modR, modPath, appAt]
  refine run_map rows pD (fun r => .int (r.1 : Nat)) ?_
  simp [start, O.isD, O.flat, isInst, isTy, tyNames, tyN, tyNs, anyN, O.toD, eqOk, D.plain, D.depth, D.eqv, D.flat, E.place, E.quiet, E.quiet.go, E.quietO, stEs, stE, asgT, cxK_own, cxK_cel, cxK_call, cxK_make, bindT.go, Tg.slots, Tg.slots.go, wipe, putBack, dOnly, ixN, bls_map, pures_map', pures_mapf, toDs_mapf, toDs_map', ints_map, E.keeps, isN, isL, modR, modPath, appAt, walkD, rowsD, attrOf, List.lookup, q4, item_pD0]
  rw [v_multiple_of (ns := rows.map (·.1)) (B := 0) (by simp [Function.comp_def]) (by simpa using fun a b hab => (h.row _ hab).1) (by simpa using fun a b hab => (h.row _ hab).2.1) (by simpa using h2) (by omega)]
  simp [start, O.isD, O.flat, isInst, isTy, tyNames, tyN, tyNs, anyN, O.toD, eqOk, D.plain, D.depth, D.eqv, D.flat, E.place, E.quiet, E.quiet.go, E.quietO, stEs, stE, asgT, cxK_own, cxK_cel, cxK_call, cxK_make, bindT.go, Tg.slots, Tg.slots.go, wipe, putBack, dOnly, ixN, bls_map, pures_map', pures_mapf, toDs_mapf, toDs_map', ints_map, E.keeps, isN, isL, modR, modPath, appAt]
  refine run_map rows pD (fun r => numD (r.2.map fun n => n * (totR rows / r.1))) ?_
  simp [start, O.isD, O.flat, isInst, isTy, tyNames, tyN, tyNs, anyN, O.toD, eqOk, D.plain, D.depth, D.eqv, D.flat, E.place, E.quiet, E.quiet.go, E.quietO, stEs, stE, asgT, cxK_own, cxK_cel, cxK_call, cxK_make, bindT.go, Tg.slots, Tg.slots.go, wipe, putBack, dOnly, ixN, bls_map, pures_map', pures_mapf, toDs_mapf, toDs_map', ints_map, E.keeps, isN, isL, modR, modPath, appAt, attrOf, List.lookup, q4, tabR]
  refine ⟨fun a b hab => ?_, rfl⟩
  have hr := h.row _ hab
  simp only at hr
  refine run_map b (fun n => .int (n : Nat)) (fun n => .int (n * (totR rows / a) : Nat)) ?_
  have q5 : lenOk b.length = true := lenOk_of (by omega)
  have q6 : divOk (a : Int) = true := sm_div (by omega) (sm_of hr.2.1 (by decide))
  have q7 : ((lcmL (rows.map (·.1)) : Nat) : Int).fdiv (a : Int) = ((totR rows / a : Nat) : Int) := nat_fdiv
  simp [start, O.isD, O.flat, isInst, isTy, tyNames, tyN, tyNs, anyN, O.toD, eqOk, D.plain, D.depth, D.eqv, D.flat, E.place, E.quiet, E.quiet.go, E.quietO, stEs, stE, asgT, cxK_own, cxK_cel, cxK_call, cxK_make, bindT.go, Tg.slots, Tg.slots.go, wipe, putBack, dOnly, ixN, bls_map, pures_map', pures_mapf, toDs_mapf, toDs_map', ints_map, E.keeps, isN, isL, modR, modPath, appAt, item_pD0, item_pD1, q5, q6, q7, numD]
  intro n hn
  have q8 : n ≤ 2 ^ 10 := Nat.le_trans (Nat.le_trans (mem_le_sum hn) (Nat.le_of_eq hr.2.2.2)) hr.2.1
  have q9 := sm_mul (sm_of (n := n) q8 (by decide)) (sm_of (n := totR rows / a) (Nat.le_trans (Nat.div_le_self _ _) ht.2.1) (by decide))
  have q10 : mulOk (n : Int) ((totR rows : Int) / (a : Int)) = true := by simpa using q9
  simp [start, O.isD, O.flat, isInst, isTy, tyNames, tyN, tyNs, anyN, O.toD, eqOk, D.plain, D.depth, D.eqv, D.flat, E.place, E.quiet, E.quiet.go, E.quietO, stEs, stE, asgT, cxK_own, cxK_cel, cxK_call, cxK_make, bindT.go, Tg.slots, Tg.slots.go, wipe, putBack, dOnly, ixN, bls_map, pures_map', pures_mapf, toDs_mapf, toDs_map', ints_map, E.keeps, isN, isL, modR, modPath, appAt, q10, Function.comp_def]
theorem v_gone_on {rows : List (Nat × List Nat)} (h : ROk rows) {b : Nat} {p : Nat × List Nat} (hp : POk b p) (hb : b ≤ 3000) (hl : p.2.length = rows.length) {m : Nat} (hm : 4 ≤ m) : callD loop prog m 22 [walkD rows, pD p] sto = some (.d (pD (gone rows p)), sto) := by
  obtain ⟨k, rfl⟩ : ∃ k, m = k + 4 := ⟨m - 4, by omega⟩
  have h1 := h.many.1
  have h2 := h.many.2
  have q4 : lenOk rows.length = true := lenOk_of (by omega)
  have ht := totR_spec h
  have hr : itk .range [.int (rows.length : Nat)] = some ((List.range rows.length).map fun (j : Nat) => .int (j : Int)) := q_range (by omega)
  refine ends_eq (run_def (d := d_gone_on) rfl rfl ?_)
  simp [d_gone_on, start, O.isD, O.flat, isInst, isTy, tyNames, tyN, tyNs, anyN, O.toD, eqOk, D.plain, D.depth, D.eqv, D.flat, E.place, E.quiet, E.quiet.go, E.quietO, stEs, stE, asgT, cxK_own, cxK_cel, cxK_call, cxK_make, bindT.go, Tg.slots, Tg.slots.go, wipe, putBack, dOnly, ixN, bls_map, pures_map', pures_mapf, toDs_mapf, toDs_map', ints_map, E.keeps, isN, isL, modR, modPath, appAt, v_table_of h]
  refine run_map (List.range rows.length) (fun j => .int (j : Nat)) (fun j => .int (((List.range rows.length).map fun i => p.2[i]?.getD 0 * ((tabR rows)[i]?.getD [])[j]?.getD 0).sum : Nat)) ?_
  simp [start, O.isD, O.flat, isInst, isTy, tyNames, tyN, tyNs, anyN, O.toD, eqOk, D.plain, D.depth, D.eqv, D.flat, E.place, E.quiet, E.quiet.go, E.quietO, stEs, stE, asgT, cxK_own, cxK_cel, cxK_call, cxK_make, bindT.go, Tg.slots, Tg.slots.go, wipe, putBack, dOnly, ixN, bls_map, pures_map', pures_mapf, toDs_mapf, toDs_map', ints_map, E.keeps, isN, isL, modR, modPath, appAt, walkD, attrOf, List.lookup, hr, q4]
  refine ⟨fun j hj => ?_, ?_⟩
  · refine run_map (List.range rows.length) (fun j => .int (j : Nat)) (fun i => .int (p.2[i]?.getD 0 * ((tabR rows)[i]?.getD [])[j]?.getD 0 : Nat)) ?_
    simp [start, O.isD, O.flat, isInst, isTy, tyNames, tyN, tyNs, anyN, O.toD, eqOk, D.plain, D.depth, D.eqv, D.flat, E.place, E.quiet, E.quiet.go, E.quietO, stEs, stE, asgT, cxK_own, cxK_cel, cxK_call, cxK_make, bindT.go, Tg.slots, Tg.slots.go, wipe, putBack, dOnly, ixN, bls_map, pures_map', pures_mapf, toDs_mapf, toDs_map', ints_map, E.keeps, isN, isL, modR, modPath, appAt, attrOf, List.lookup, hr, q4]
    refine ⟨fun i hi => ?_, ?_⟩
    · have e1 := item_tup (fun n : Nat => D.int (n : Nat)) p.2 0 (j := i) (by omega)
      have e2 := item_lst numD (tabR rows) [] (j := i) (by simpa [tabR] using hi)
      have e3 := item_lst (fun n : Nat => D.int (n : Nat)) ((tabR rows)[i]?.getD []) 0 (j := j) (by
        simp only [tabR, List.getElem?_map, List.getElem?_eq_getElem hi, Option.map_some, Option.getD_some, List.length_map]
        have := (h.row _ (List.getElem_mem hi)).2.2.1
        omega)
      have e4 : p.2[i]?.getD 0 ≤ 2 ^ b := by
        rw [List.getElem?_eq_getElem (by omega), Option.getD_some]
        exact hp.nums _ (List.getElem_mem _)
      have e5 : ((tabR rows)[i]?.getD [])[j]?.getD 0 ≤ 2 ^ 90 := tab_le h hi
      have e6 := sm_mul (sm_of e4 (by omega)) (sm_of e5 (by decide))
      simp [start, O.isD, O.flat, isInst, isTy, tyNames, tyN, tyNs, anyN, O.toD, eqOk, D.plain, D.depth, D.eqv, D.flat, E.place, E.quiet, E.quiet.go, E.quietO, stEs, stE, asgT, cxK_own, cxK_cel, cxK_call, cxK_make, bindT.go, Tg.slots, Tg.slots.go, wipe, putBack, dOnly, ixN, bls_map, pures_map', pures_mapf, toDs_mapf, toDs_map', ints_map, E.keeps, isN, isL, modR, modPath, appAt, e1, e2, e3, e6, numD]
    · exact sum_cast ((List.range rows.length).map fun i => p.2[i]?.getD 0 * ((tabR rows)[i]?.getD [])[j]?.getD 0) ▸ by simp [Function.comp_def]
  · have e7 := sm_mul (sm_of hp.le (by omega)) (sm_of ht.2.1 (by decide))
    have e8 : p.1 * totR rows < bigB := by
      refine Nat.lt_of_le_of_lt (Nat.mul_le_mul hp.le ht.2.1) ?_
      rw [← Nat.pow_add]
      exact Nat.lt_trans (pow_bigA (by omega)) bigAB
    simp [start, O.isD, O.flat, isInst, isTy, tyNames, tyN, tyNs, anyN, O.toD, eqOk, D.plain, D.depth, D.eqv, D.flat, E.place, E.quiet, E.quiet.go, E.quietO, stEs, stE, asgT, cxK_own, cxK_cel, cxK_call, cxK_make, bindT.go, Tg.slots, Tg.slots.go, wipe, putBack, dOnly, ixN, bls_map, pures_map', pures_mapf, toDs_mapf, toDs_map', ints_map, E.keeps, isN, isL, modR, modPath, appAt, e7]
    have e9 := v_least_pair (sto := sto) (m := k + 3) (s := p.1 * totR rows) (d := .lst (((List.range rows.length).map fun j => ((List.range rows.length).map fun i => p.2[i]?.getD 0 * ((tabR rows)[i]?.getD [])[j]?.getD 0).sum).map fun n => .int (n : Nat))) (Nat.mul_pos hp.pos ht.1) e8 rfl (by simp; omega) (by omega)
    simp [Function.comp_def] at e9
    simp [e9, gone]
end K48
end Py
end

section
set_option linter.all false
set_option Elab.async false
/-! Q6: steps, partings, what is asked ahead. -/
namespace Py
/-- what both have, what one has more, what the other one has more; Z the numbers, pairwise -/
def bothN (a b : Nat) (Z : List (Nat × Nat)) : List Nat := Z.map fun z => min (z.1 * b) (z.2 * a)
def moreN (a b : Nat) (Z : List (Nat × Nat)) : List Nat := Z.map fun z => z.1 * b - min (z.1 * b) (z.2 * a)
def moreN' (a b : Nat) (Z : List (Nat × Nat)) : List Nat := Z.map fun z => z.2 * a - min (z.1 * b) (z.2 * a)
theorem min_cast (x y : Nat) : min (x : Int) (y : Int) = ((min x y : Nat) : Int) := by omega
theorem gone_len {rows : List (Nat × List Nat)} {p : Nat × List Nat} : (gone rows p).2.length = rows.length := by simp [gone, len_least]
def totalR (l : List Rat) : Rat := l.foldl (· + ·) 0
namespace K48
variable {sto : List O}
theorem v_ratios_of {b : Nat} {p : Nat × List Nat} (hp : POk b p) (hb : b ≤ 3000) (hl : p.2.length ≤ 1000) {m : Nat} (hm : 3 ≤ m) : callD loop prog m 28 [pD p] sto = some (.lst ((valP p).map fun q => .d (enc q)), sto) := by
  obtain ⟨k, rfl⟩ : ∃ k, m = k + 3 := ⟨m - 3, by omega⟩
  have q4 : lenOk p.2.length = true := lenOk_of (by omega)
  have h1 : p.1 < bigB := Nat.lt_trans (Nat.lt_of_le_of_lt hp.le (pow_bigA (by omega))) bigAB
  refine ends_eq (run_def (d := d_ratios_of) rfl rfl ?_)
  simp [d_ratios_of, start, O.isD, O.flat, isInst, isTy, tyNames, tyN, tyNs, anyN, O.toD, eqOk, D.plain, D.depth, D.eqv, D.flat, E.place, E.quiet, E.quiet.go, E.quietO, stEs, stE, asgT, cxK_own, cxK_cel, cxK_call, cxK_make, bindT.go, Tg.slots, Tg.slots.go, wipe, putBack, dOnly, ixN, bls_map, pures_map', pures_mapf, toDs_mapf, toDs_map', ints_map, E.keeps, isN, isL, modR, modPath, appAt]
  refine run_map p.2 (fun n => .int (n : Nat)) (fun n => enc (mkRat (n : Int) p.1)) ?_
  have h0 := hp.pos
  simp [start, O.isD, O.flat, isInst, isTy, tyNames, tyN, tyNs, anyN, O.toD, eqOk, D.plain, D.depth, D.eqv, D.flat, E.place, E.quiet, E.quiet.go, E.quietO, stEs, stE, asgT, cxK_own, cxK_cel, cxK_call, cxK_make, bindT.go, Tg.slots, Tg.slots.go, wipe, putBack, dOnly, ixN, bls_map, pures_map', pures_mapf, toDs_mapf, toDs_map', ints_map, E.keeps, isN, isL, modR, modPath, appAt, q4, valP, Function.comp_def]
  intro n hn
  simp [v_ratio_of (a := (n : Int)) (b := (p.1 : Int)) (by omega) (by simpa using h1), start, O.isD, O.flat, isInst, isTy, tyNames, tyN, tyNs, anyN, O.toD, eqOk, D.plain, D.depth, D.eqv, D.flat, E.place, E.quiet, E.quiet.go, E.quietO, stEs, stE, asgT, cxK_own, cxK_cel, cxK_call, cxK_make, bindT.go, Tg.slots, Tg.slots.go, wipe, putBack, dOnly, ixN, bls_map, pures_map', pures_mapf, toDs_mapf, toDs_map', ints_map, E.keeps, isN, isL, modR, modPath, appAt]
theorem v_apart {B B' a b : Nat} {Z : List (Nat × Nat)} (hp : POk B (a, Z.map (·.1))) (hq : POk B' (b, Z.map (·.2))) (hb : B + B' ≤ 3000) (hl : Z.length ≤ 1000) {m : Nat} (hm : 3 ≤ m) :
    callD loop prog m 16 [pD (a, Z.map (·.1)), pD (b, Z.map (·.2))] sto = some (.d (.tup [pD (least (a * b) (bothN a b Z)), pD (least (a * b) (moreN a b Z)), pD (least (a * b) (moreN' a b Z))]), sto) := by
  obtain ⟨k, rfl⟩ : ∃ k, m = k + 3 := ⟨m - 3, by omega⟩
  have q4 : lenOk Z.length = true := lenOk_of (by omega)
  have ha := hp.le
  have hb' := hq.le
  simp only at ha hb'
  have h1 := sm_mul (sm_of ha (by omega)) (sm_of hb' (by omega))
  have e0 : 0 < a * b := Nat.mul_pos hp.pos hq.pos
  have e1 : a * b < bigB := by
    refine Nat.lt_of_le_of_lt (Nat.mul_le_mul ha hb') ?_
    rw [← Nat.pow_add]
    exact Nat.lt_trans (pow_bigA (by omega)) bigAB
  have z1 : ∀ z ∈ Z, z.1 ≤ 2 ^ B := fun z hz => hp.nums _ (List.mem_map.mpr ⟨z, hz, rfl⟩)
  have z2 : ∀ z ∈ Z, z.2 ≤ 2 ^ B' := fun z hz => hq.nums _ (List.mem_map.mpr ⟨z, hz, rfl⟩)
  refine ends_eq (run_def (d := d_apart_of) rfl rfl ?_)
  simp [d_apart_of, start, O.isD, O.flat, isInst, isTy, tyNames, tyN, tyNs, anyN, O.toD, eqOk, D.plain, D.depth, D.eqv, D.flat, E.place, E.quiet, E.quiet.go, E.quietO, stEs, stE, asgT, cxK_own, cxK_cel, cxK_call, cxK_make, bindT.go, Tg.slots, Tg.slots.go, wipe, putBack, dOnly, ixN, bls_map, pures_map', pures_mapf, toDs_mapf, toDs_map', ints_map, E.keeps, isN, isL, modR, modPath, appAt, h1]
  refine run_map Z (fun z => .int (z.1 : Nat)) (fun z => .int (z.1 * b : Nat)) ?_
  simp [-Int.natCast_mul, start, O.isD, O.flat, isInst, isTy, tyNames, tyN, tyNs, anyN, O.toD, eqOk, D.plain, D.depth, D.eqv, D.flat, E.place, E.quiet, E.quiet.go, E.quietO, stEs, stE, asgT, cxK_own, cxK_cel, cxK_call, cxK_make, bindT.go, Tg.slots, Tg.slots.go, wipe, putBack, dOnly, ixN, bls_map, pures_map', pures_mapf, toDs_mapf, toDs_map', ints_map, E.keeps, isN, isL, modR, modPath, appAt, q4, Function.comp_def]
  refine ⟨fun n n' hn => ?_, ?_⟩
  · have := sm_mul (sm_of (z1 _ hn) (by omega)) (sm_of hb' (by omega))
    simp at this
    simp [start, O.isD, O.flat, isInst, isTy, tyNames, tyN, tyNs, anyN, O.toD, eqOk, D.plain, D.depth, D.eqv, D.flat, E.place, E.quiet, E.quiet.go, E.quietO, stEs, stE, asgT, cxK_own, cxK_cel, cxK_call, cxK_make, bindT.go, Tg.slots, Tg.slots.go, wipe, putBack, dOnly, ixN, bls_map, pures_map', pures_mapf, toDs_mapf, toDs_map', ints_map, E.keeps, isN, isL, modR, modPath, appAt, this]
  refine run_map Z (fun z => .int (z.2 : Nat)) (fun z => .int (z.2 * a : Nat)) ?_
  simp [-Int.natCast_mul, start, O.isD, O.flat, isInst, isTy, tyNames, tyN, tyNs, anyN, O.toD, eqOk, D.plain, D.depth, D.eqv, D.flat, E.place, E.quiet, E.quiet.go, E.quietO, stEs, stE, asgT, cxK_own, cxK_cel, cxK_call, cxK_make, bindT.go, Tg.slots, Tg.slots.go, wipe, putBack, dOnly, ixN, bls_map, pures_map', pures_mapf, toDs_mapf, toDs_map', ints_map, E.keeps, isN, isL, modR, modPath, appAt, q4, Function.comp_def]
  refine ⟨fun n n' hn => ?_, ?_⟩
  · have := sm_mul (sm_of (z2 _ hn) (by omega)) (sm_of ha (by omega))
    simp at this
    simp [start, O.isD, O.flat, isInst, isTy, tyNames, tyN, tyNs, anyN, O.toD, eqOk, D.plain, D.depth, D.eqv, D.flat, E.place, E.quiet, E.quiet.go, E.quietO, stEs, stE, asgT, cxK_own, cxK_cel, cxK_call, cxK_make, bindT.go, Tg.slots, Tg.slots.go, wipe, putBack, dOnly, ixN, bls_map, pures_map', pures_mapf, toDs_mapf, toDs_map', ints_map, E.keeps, isN, isL, modR, modPath, appAt, this]
  refine run_map Z (fun z => .tup [.int (z.1 * b : Nat), .int (z.2 * a : Nat)]) (fun z => .int (min (z.1 * b) (z.2 * a) : Nat)) ?_
  simp [-Int.natCast_mul, start, O.isD, O.flat, isInst, isTy, tyNames, tyN, tyNs, anyN, O.toD, eqOk, D.plain, D.depth, D.eqv, D.flat, E.place, E.quiet, E.quiet.go, E.quietO, stEs, stE, asgT, cxK_own, cxK_cel, cxK_call, cxK_make, bindT.go, Tg.slots, Tg.slots.go, wipe, putBack, dOnly, ixN, bls_map, pures_map', pures_mapf, toDs_mapf, toDs_map', ints_map, E.keeps, isN, isL, modR, modPath, appAt, q4, Function.comp_def, List.zip_map']
  refine ⟨fun n n' hn => ?_, ?_⟩
  · have := min_cast (n * b) (n' * a)
    simp [intsD, O.toD]
    simpa using this
  refine run_map Z (fun z => .tup [.int (z.1 * b : Nat), .int (min (z.1 * b) (z.2 * a) : Nat)]) (fun z => .int (z.1 * b - min (z.1 * b) (z.2 * a) : Nat)) ?_
  simp [-Int.natCast_mul, start, O.isD, O.flat, isInst, isTy, tyNames, tyN, tyNs, anyN, O.toD, eqOk, D.plain, D.depth, D.eqv, D.flat, E.place, E.quiet, E.quiet.go, E.quietO, stEs, stE, asgT, cxK_own, cxK_cel, cxK_call, cxK_make, bindT.go, Tg.slots, Tg.slots.go, wipe, putBack, dOnly, ixN, bls_map, pures_map', pures_mapf, toDs_mapf, toDs_map', ints_map, E.keeps, isN, isL, modR, modPath, appAt, q4, Function.comp_def, List.zip_map']
  refine ⟨fun n n' hn => by omega, ?_⟩
  refine run_map Z (fun z => .tup [.int (z.2 * a : Nat), .int (min (z.1 * b) (z.2 * a) : Nat)]) (fun z => .int (z.2 * a - min (z.1 * b) (z.2 * a) : Nat)) ?_
  simp [-Int.natCast_mul, start, O.isD, O.flat, isInst, isTy, tyNames, tyN, tyNs, anyN, O.toD, eqOk, D.plain, D.depth, D.eqv, D.flat, E.place, E.quiet, E.quiet.go, E.quietO, stEs, stE, asgT, cxK_own, cxK_cel, cxK_call, cxK_make, bindT.go, Tg.slots, Tg.slots.go, wipe, putBack, dOnly, ixN, bls_map, pures_map', pures_mapf, toDs_mapf, toDs_map', ints_map, E.keeps, isN, isL, modR, modPath, appAt, q4, Function.comp_def, List.zip_map']
  refine ⟨fun n n' hn => by omega, ?_⟩
  have f1 := v_least_pair (sto := sto) (m := k + 2) (s := a * b) (ns := bothN a b Z) (d := .lst ((bothN a b Z).map fun n => .int (n : Nat))) e0 e1 rfl (by simpa [bothN] using hl) (by omega)
  have f2 := v_least_pair (sto := sto) (m := k + 2) (s := a * b) (ns := moreN a b Z) (d := .lst ((moreN a b Z).map fun n => .int (n : Nat))) e0 e1 rfl (by simpa [moreN] using hl) (by omega)
  have f3 := v_least_pair (sto := sto) (m := k + 2) (s := a * b) (ns := moreN' a b Z) (d := .lst ((moreN' a b Z).map fun n => .int (n : Nat))) e0 e1 rfl (by simpa [moreN'] using hl) (by omega)
  simp [-Int.natCast_mul, bothN, Function.comp_def] at f1
  simp [-Int.natCast_mul, moreN, Function.comp_def] at f2
  simp [-Int.natCast_mul, moreN', Function.comp_def] at f3
  simp only [← Int.natCast_mul]
  simp [-Int.natCast_mul, start, O.isD, O.flat, isInst, isTy, tyNames, tyN, tyNs, anyN, O.toD, eqOk, D.plain, D.depth, D.eqv, D.flat, E.place, E.quiet, E.quiet.go, E.quietO, stEs, stE, asgT, cxK_own, cxK_cel, cxK_call, cxK_make, bindT.go, Tg.slots, Tg.slots.go, wipe, putBack, dOnly, ixN, bls_map, pures_map', pures_mapf, toDs_mapf, toDs_map', ints_map, E.keeps, isN, isL, modR, modPath, appAt, f1, f2, f3, bothN, moreN, moreN']
end K48
end Py
end

section
set_option linter.all false
set_option Elab.async false
/-! M0: sums of ratios, ratios with told denominators. -/
namespace Py
/-- the sum of the first n -/
def Sg (n : Nat) (f : Nat → Rat) : Rat := match n with
  | 0 => 0
  | n + 1 => Sg n f + f n
theorem Sg_congr : ∀ {n : Nat} {f g : Nat → Rat}, (∀ i, i < n → f i = g i) → Sg n f = Sg n g
  | 0, _, _, _ => rfl
  | n + 1, f, g, h => by rw [Sg, Sg, Sg_congr fun i hi => h i (by omega), h n (by omega)]
theorem Sg_add : ∀ (n : Nat) (f g : Nat → Rat), Sg n (fun i => f i + g i) = Sg n f + Sg n g
  | 0, _, _ => by rw [Sg, Sg, Sg]; grind
  | n + 1, f, g => by rw [Sg, Sg, Sg, Sg_add n f g]; grind
theorem Sg_sub : ∀ (n : Nat) (f g : Nat → Rat), Sg n (fun i => f i - g i) = Sg n f - Sg n g
  | 0, _, _ => by rw [Sg, Sg, Sg]; grind
  | n + 1, f, g => by rw [Sg, Sg, Sg, Sg_sub n f g]; grind
theorem Sg_mul : ∀ (n : Nat) (x : Rat) (f : Nat → Rat), Sg n (fun i => x * f i) = x * Sg n f
  | 0, _, _ => by simp [Sg]
  | n + 1, x, f => by rw [Sg, Sg, Sg_mul n x f]; grind
theorem Sg_zero : ∀ n : Nat, Sg n (fun _ => 0) = 0
  | 0 => rfl
  | n + 1 => by rw [Sg, Sg_zero n]; grind
theorem Sg_swap : ∀ (n m : Nat) (f : Nat → Nat → Rat), Sg n (fun i => Sg m fun j => f i j) = Sg m fun j => Sg n fun i => f i j
  | 0, m, f => by simp only [Sg]; exact (Sg_zero m).symm
  | n + 1, m, f => by
    rw [Sg, Sg_swap n m f, ← Sg_add]
    exact Sg_congr fun j _ => rfl
theorem Sg_le : ∀ {n : Nat} {f g : Nat → Rat}, (∀ i, i < n → f i ≤ g i) → Sg n f ≤ Sg n g
  | 0, _, _, _ => Rat.le_refl
  | n + 1, f, g, h => by
    have h1 := Sg_le (n := n) fun i hi => h i (by omega)
    have h2 := h n (by omega)
    rw [Sg, Sg]; grind
theorem Sg_nonneg {n : Nat} {f : Nat → Rat} (h : ∀ i, i < n → 0 ≤ f i) : 0 ≤ Sg n f := by
  have := Sg_le (n := n) (f := fun _ => 0) (g := f) h
  rwa [Sg_zero] at this
theorem Sg_eq_of_le : ∀ {n : Nat} {f g : Nat → Rat}, (∀ i, i < n → f i ≤ g i) → Sg n f = Sg n g → ∀ i, i < n → f i = g i
  | 0, _, _, _, _, i, hi => by omega
  | n + 1, f, g, h, e, i, hi => by
    have h1 := Sg_le (n := n) fun i hi => h i (by omega)
    have h2 := h n (by omega)
    rw [Sg, Sg] at e
    have h3 : Sg n f = Sg n g := by grind
    have h4 : f n = g n := by grind
    by_cases hin : i = n
    · rw [hin]; exact h4
    · exact Sg_eq_of_le (fun i hi => h i (by omega)) h3 i (by omega)
/-- a whole number over N, from -B to B -/
def G (N B : Nat) (q : Rat) : Prop := (∃ z : Int, q * (N : Rat) = (z : Rat)) ∧ -(B : Rat) ≤ q ∧ q ≤ (B : Rat)
theorem G_add {N B B' : Nat} {p q : Rat} (hp : G N B p) (hq : G N B' q) : G N (B + B') (p + q) := by
  obtain ⟨⟨z, hz⟩, h1, h2⟩ := hp
  obtain ⟨⟨w, hw⟩, h3, h4⟩ := hq
  refine ⟨⟨z + w, ?_⟩, ?_, ?_⟩ <;> push_cast <;> grind
theorem G_sub {N B B' : Nat} {p q : Rat} (hp : G N B p) (hq : G N B' q) : G N (B + B') (p - q) := by
  obtain ⟨⟨z, hz⟩, h1, h2⟩ := hp
  obtain ⟨⟨w, hw⟩, h3, h4⟩ := hq
  refine ⟨⟨z - w, ?_⟩, ?_, ?_⟩ <;> push_cast <;> grind
theorem G_zero {N B : Nat} : G N B 0 := by
  have : (0 : Rat) ≤ (B : Rat) := by exact_mod_cast Nat.zero_le B
  refine ⟨⟨0, by simp⟩, ?_, ?_⟩ <;> grind
theorem G_mono {N B B' : Nat} {q : Rat} (h : G N B q) (hb : B ≤ B') : G N B' q := by
  have : (B : Rat) ≤ (B' : Rat) := by exact_mod_cast hb
  obtain ⟨h0, h1, h2⟩ := h
  refine ⟨h0, ?_, ?_⟩ <;> grind
theorem G_scale {N M B : Nat} {q : Rat} (h : G N B q) : G (N * M) B q := by
  obtain ⟨⟨z, hz⟩, h1, h2⟩ := h
  refine ⟨⟨z * M, ?_⟩, h1, h2⟩
  push_cast; grind
/-- times a chance -/
theorem G_mul {N M B : Nat} {p q : Rat} (hp : G N B p) (hq : ∃ z : Int, q * (M : Rat) = (z : Rat)) (h0 : 0 ≤ q) (h1 : q ≤ 1) : G (N * M) B (p * q) := by
  obtain ⟨⟨z, hz⟩, h2, h3⟩ := hp
  obtain ⟨w, hw⟩ := hq
  have hb : (0 : Rat) ≤ (B : Rat) := by exact_mod_cast Nat.zero_le B
  refine ⟨⟨z * w, ?_⟩, ?_, ?_⟩
  · push_cast; rw [← hz, ← hw]; grind
  · have a1 : -(B : Rat) * q ≤ p * q := Rat.mul_le_mul_of_nonneg_right h2 h0
    have a2 : (B : Rat) * q ≤ (B : Rat) * 1 := Rat.mul_le_mul_of_nonneg_left h1 hb
    grind
  · have a1 : p * q ≤ (B : Rat) * q := Rat.mul_le_mul_of_nonneg_right h3 h0
    have a2 : (B : Rat) * q ≤ (B : Rat) * 1 := Rat.mul_le_mul_of_nonneg_left h1 hb
    grind
theorem num_eq (q : Rat) : (q.num : Rat) = q * (q.den : Rat) := by
  have h : q = mkRat q.num q.den := (Rat.mkRat_self q).symm
  have hd : (q.den : Rat) ≠ 0 := by
    have := q.den_nz
    exact_mod_cast this
  rw [Rat.mkRat_eq_div] at h
  have h2 := Rat.div_mul_cancel (a := (q.num : Rat)) hd
  rw [← h2]
  congr 1
  exact h.symm
theorem G_den {N B : Nat} {q : Rat} (h : G N B q) : q.den ∣ N := by
  obtain ⟨⟨z, hz⟩, _⟩ := h
  have h1 : q.num * (N : Int) = z * (q.den : Int) := by
    have : ((q.num * (N : Int) : Int) : Rat) = ((z * (q.den : Int) : Int) : Rat) := by
      push_cast
      rw [num_eq, ← hz]
      grind
    exact_mod_cast this
  have h2 : (q.den : Int) ∣ q.num * (N : Int) := ⟨z, by rw [h1, Int.mul_comm]⟩
  have h3 : q.den ∣ q.num.natAbs * N := by
    have := Int.natAbs_dvd_natAbs.mpr h2
    simpa [Int.natAbs_mul] using this
  exact Nat.Coprime.dvd_of_dvd_mul_left q.reduced.symm h3
theorem G_num {N B : Nat} {q : Rat} (h : G N B q) : q.num.natAbs ≤ B * q.den := by
  obtain ⟨_, h1, h2⟩ := h
  have hd : (0 : Rat) ≤ (q.den : Rat) := by exact_mod_cast Nat.zero_le _
  have a1 : q * (q.den : Rat) ≤ (B : Rat) * (q.den : Rat) := Rat.mul_le_mul_of_nonneg_right h2 hd
  have a2 : -(B : Rat) * (q.den : Rat) ≤ q * (q.den : Rat) := Rat.mul_le_mul_of_nonneg_right h1 hd
  rw [← num_eq] at a1 a2
  have b1 : q.num ≤ (B : Int) * (q.den : Int) := by exact_mod_cast a1
  have b2 : -((B : Int) * (q.den : Int)) ≤ q.num := by
    have : ((-((B : Int) * (q.den : Int)) : Int) : Rat) ≤ (q.num : Rat) := by push_cast; grind
    exact Rat.intCast_le_intCast.mp this
  have : ((B * q.den : Nat) : Int) = (B : Int) * (q.den : Int) := by simp
  omega
end Py
end

section
set_option linter.all false
set_option Elab.async false
/-! Q7: what the meeting is made of. -/
namespace Py
theorem smR_of {N B : Nat} {q : Rat} (h : G N B q) (hN : 0 < N) (hN2 : N < bigA) (hb : B * N < bigA) : SmR q := by
  have h1 := Nat.le_of_dvd hN (G_den h)
  have h2 := G_num h
  exact ⟨Nat.lt_of_le_of_lt (Nat.le_trans h2 (Nat.mul_le_mul_left _ h1)) hb, Nat.lt_of_le_of_lt h1 hN2⟩
theorem mkRat_frac {n s : Nat} (hs : 0 < s) : mkRat (n : Int) s * (s : Rat) = (n : Rat) := by
  rw [Rat.mkRat_eq_div]
  have : (s : Rat) ≠ 0 := by
    have : s ≠ 0 := by omega
    exact_mod_cast this
  have h := Rat.div_mul_cancel (a := ((n : Int) : Rat)) this
  push_cast at h ⊢
  exact h
theorem mkRat_nonneg (n s : Nat) : 0 ≤ mkRat (n : Int) s := by
  by_cases hs : s = 0
  · subst hs; simp
  · rw [Rat.mkRat_eq_div]
    have h1 : (0 : Rat) < (s : Rat) := by
      have : 0 < s := by omega
      exact_mod_cast this
    have h2 : (0 : Rat) ≤ ((n : Int) : Rat) := by
      have : (0 : Int) ≤ (n : Int) := by omega
      exact_mod_cast this
    rw [Rat.div_def]
    exact Rat.mul_nonneg h2 (Rat.le_of_lt (Rat.inv_pos.mpr h1))
theorem mkRat_le_one {n s : Nat} (hs : 0 < s) (h : n ≤ s) : mkRat (n : Int) s ≤ 1 := by
  have h1 := mkRat_frac (n := n) hs
  have h2 : (n : Rat) ≤ (s : Rat) := by exact_mod_cast h
  have h3 : (0 : Rat) < (s : Rat) := by exact_mod_cast hs
  by_cases hq : mkRat (n : Int) s ≤ 1
  · exact hq
  · have h4 : (1 : Rat) < mkRat (n : Int) s := by grind
    have h5 := Rat.mul_lt_mul_of_pos_right h4 h3
    grind
/-- the chance of going from i to j -/
def chance (rows : List (Nat × List Nat)) (i j : Nat) : Rat := mkRat (((rows[i]?.getD (0, [])).2[j]?.getD 0 : Nat) : Int) (rows[i]?.getD (0, [])).1
/-- one step of what is at the places -/
def stepV (rows : List (Nat × List Nat)) (v : List Rat) : List Rat := (List.range rows.length).map fun j => Sg rows.length fun i => v[i]?.getD 0 * chance rows i j
theorem sum_range (n : Nat) (f : Nat → Nat) : (((List.range n).map f).sum : Nat) = (((List.range n).map f).sum : Nat) ∧ ((((List.range n).map f).sum : Nat) : Rat) = Sg n fun i => (f i : Rat) := by
  refine ⟨rfl, ?_⟩
  induction n with
  | zero => rfl
  | succ n ih => rw [List.range_succ, List.map_append, List.sum_append_nat]; push_cast; rw [ih, Sg]; simp
theorem val_gone {rows : List (Nat × List Nat)} (h : ROk rows) {p : Nat × List Nat} (hp : 0 < p.1) : valP (gone rows p) = stepV rows (valP p) := by
  have ht := totR_spec h
  have h0 : 0 < p.1 * totR rows := Nat.mul_pos hp ht.1
  rw [gone, val_least h0]
  unfold valP stepV
  rw [List.map_map]
  refine List.map_congr_left fun j hj => ?_
  have hj : j < rows.length := List.mem_range.mp hj
  have hne : ((p.1 * totR rows : Nat) : Rat) ≠ 0 := by
    have : p.1 * totR rows ≠ 0 := by omega
    exact_mod_cast this
  have e1 := mkRat_frac (n := ((List.range rows.length).map fun i => p.2[i]?.getD 0 * ((tabR rows)[i]?.getD [])[j]?.getD 0).sum) h0
  rw [(sum_range _ _).2] at e1
  have e2 : (Sg rows.length fun i => (p.2.map fun n : Nat => mkRat (n : Int) p.1)[i]?.getD 0 * chance rows i j) * ((p.1 * totR rows : Nat) : Rat) = Sg rows.length fun i => ((p.2[i]?.getD 0 * ((tabR rows)[i]?.getD [])[j]?.getD 0 : Nat) : Rat) := by
    rw [Rat.mul_comm, ← Sg_mul]
    refine Sg_congr fun i hi => ?_
    have hr := h.row _ (List.getElem_mem hi)
    have hj2 : j < (rows[i]).2.length := by omega
    rw [tab_at hi hj2]
    obtain ⟨q, hq⟩ := ht.2.2 _ (List.getElem_mem hi)
    have f1 : totR rows / (rows[i]).1 = q := by rw [hq]; exact Nat.mul_div_cancel_left _ hr.1
    have f2 := mkRat_frac (n := (rows[i]).2[j]) hr.1
    have f3 : (p.2.map fun n : Nat => mkRat (n : Int) p.1)[i]?.getD 0 * (p.1 : Rat) = ((p.2[i]?.getD 0 : Nat) : Rat) := by
      rw [List.getElem?_map]
      cases hx : p.2[i]? with
      | none => simp
      | some n => simpa using mkRat_frac hp
    rw [f1]
    simp only [chance, List.getElem?_eq_getElem hi, Option.getD_some, List.getElem?_eq_getElem hj2]
    rw [hq]
    push_cast
    rw [← f2, ← f3]
    grind
  have e3 := e1.trans e2.symm
  have := congrArg (fun x => x / ((p.1 * totR rows : Nat) : Rat)) e3
  rw [Rat.div_def, Rat.div_def, Rat.mul_assoc, Rat.mul_assoc, Rat.mul_inv_cancel _ hne, Rat.mul_one, Rat.mul_one] at this
  exact this
end Py
end

section
set_option linter.all false
set_option Elab.async false
/-! Q8: the meeting table. -/
namespace Py
theorem le_two_pow {a b : Nat} (h : a ≤ b) : 2 ^ a ≤ 2 ^ b := Nat.pow_le_pow_right (by decide) h
theorem mul_le_pow {x y a b c : Nat} (hx : x ≤ 2 ^ a) (hy : y ≤ 2 ^ b) (h : a + b ≤ c) : x * y ≤ 2 ^ c := by
  refine Nat.le_trans (Nat.mul_le_mul hx hy) ?_
  rw [← Nat.pow_add]
  exact le_two_pow h
theorem sum_le {l : List Nat} {B : Nat} (h : ∀ n ∈ l, n ≤ B) : l.sum ≤ l.length * B := by
  induction l with
  | nil => simp
  | cons x l ih =>
    have h1 := h x (by simp)
    have h2 := ih fun n hn => h n (by simp [hn])
    rw [List.sum_cons, List.length_cons, Nat.add_mul, Nat.one_mul]
    omega
theorem pok_gone {rows : List (Nat × List Nat)} (h : ROk rows) {b : Nat} {p : Nat × List Nat} (hp : POk b p) : POk (b + 93) (gone rows p) := by
  have ht := totR_spec h
  refine pok_least (Nat.mul_pos hp.pos ht.1) (mul_le_pow hp.le ht.2.1 (by omega)) ?_
  intro n hn
  obtain ⟨j, hj, rfl⟩ := List.mem_map.mp hn
  have := sum_le (l := (List.range rows.length).map fun i => p.2[i]?.getD 0 * ((tabR rows)[i]?.getD [])[j]?.getD 0) (B := 2 ^ (b + 90)) (by
    intro n hn
    obtain ⟨i, hi, rfl⟩ := List.mem_map.mp hn
    have hi : i < rows.length := List.mem_range.mp hi
    refine mul_le_pow (a := b) (b := 90) ?_ (tab_le h hi) (by omega)
    cases hx : p.2[i]? with
    | none => simp
    | some n => simpa using hp.nums n (List.mem_of_getElem? hx))
  refine Nat.le_trans this ?_
  rw [List.length_map, List.length_range]
  have h8 := h.many.2
  exact mul_le_pow (a := 3) (b := b + 90) h8 (Nat.le_refl _) (by omega)
/-- t steps -/
def goneN (rows : List (Nat × List Nat)) (p : Nat × List Nat) : Nat → Nat × List Nat
  | 0 => p
  | t + 1 => gone rows (goneN rows p t)
theorem pok_goneN {rows : List (Nat × List Nat)} (h : ROk rows) {b : Nat} {p : Nat × List Nat} (hp : POk b p) : ∀ t, POk (b + 93 * t) (goneN rows p t)
  | 0 => hp
  | t + 1 => pok_mono (pok_gone h (pok_goneN h hp t)) (by omega)
theorem len_goneN {rows : List (Nat × List Nat)} {p : Nat × List Nat} (hl : p.2.length = rows.length) : ∀ t, (goneN rows p t).2.length = rows.length
  | 0 => hl
  | t + 1 => gone_len
def bothP (p q : Nat × List Nat) : Nat × List Nat := least (p.1 * q.1) (bothN p.1 q.1 (p.2.zip q.2))
def partR (p q : Nat × List Nat) : Rat := mkRat (((moreN p.1 q.1 (p.2.zip q.2)).sum : Nat) : Int) (p.1 * q.1)
theorem zip_fst {p q : List Nat} (h : q.length = p.length) : (p.zip q).map (·.1) = p := List.map_fst_zip (by omega)
theorem zip_snd {p q : List Nat} (h : q.length = p.length) : (p.zip q).map (·.2) = q := List.map_snd_zip (by omega)
theorem pok_both {b b' : Nat} {p q : Nat × List Nat} (hp : POk b p) (hq : POk b' q) : POk (b + b') (bothP p q) := by
  refine pok_least (Nat.mul_pos hp.pos hq.pos) (mul_le_pow hp.le hq.le (Nat.le_refl _)) ?_
  intro n hn
  obtain ⟨z, hz, rfl⟩ := List.mem_map.mp hn
  have := (List.of_mem_zip (a := z.1) (b := z.2) hz)
  exact Nat.le_trans (Nat.min_le_left _ _) (mul_le_pow (hp.nums _ this.1) hq.le (Nat.le_refl _))
theorem len_both {p q : Nat × List Nat} (h : q.2.length = p.2.length) : (bothP p q).2.length = p.2.length := by
  simp [bothP, len_least, bothN, h]
theorem sum_div {g : Nat} (hg : 0 < g) : ∀ {l : List Nat}, (∀ n ∈ l, g ∣ n) → (l.map fun n => n / g).sum = l.sum / g ∧ g ∣ l.sum
  | [], _ => by simp
  | x :: l, h => by
    obtain ⟨e1, e2⟩ := sum_div hg (l := l) fun n hn => h n (by simp [hn])
    obtain ⟨q, hq⟩ := h x (by simp)
    obtain ⟨w, hw⟩ := e2
    simp only [List.map_cons, List.sum_cons, e1, hq, hw]
    refine ⟨?_, ⟨q + w, by rw [Nat.mul_add]⟩⟩
    rw [← Nat.mul_add, Nat.mul_div_cancel_left _ hg, Nat.mul_div_cancel_left _ hg, Nat.mul_div_cancel_left _ hg]
/-- the table that both meet by -/
def aheadV (rows : List (Nat × List Nat)) (p q : Nat × List Nat) : Nat → List Rat
  | 0 => List.replicate rows.length 0
  | t + 1 => valP (gone rows (bothP (goneN rows p t) (goneN rows q t)))
def meetV (rows : List (Nat × List Nat)) (p q : Nat × List Nat) (t : Nat) : List Rat := ((valP (bothP (goneN rows p t) (goneN rows q t))).zip (aheadV rows p q t)).map fun z => z.1 - z.2
theorem smR_val {b : Nat} {p : Nat × List Nat} (hp : POk b p) (hb : 2 * b < 4000) : ∀ q ∈ valP p, SmR q := by
  intro q hq
  obtain ⟨n, hn, rfl⟩ := List.mem_map.mp hq
  have hg : G p.1 (2 ^ b) (mkRat (n : Int) p.1) := by
    have h1 := mkRat_frac (n := n) hp.pos
    have h2 := mkRat_nonneg n p.1
    refine ⟨⟨n, by rw [h1]; rfl⟩, ?_, ?_⟩
    · have : (0 : Rat) ≤ ((2 ^ b : Nat) : Rat) := by exact_mod_cast Nat.zero_le _
      grind
    · have h3 : (1 : Rat) ≤ (p.1 : Rat) := by exact_mod_cast hp.pos
      have h4 : mkRat (n : Int) p.1 * 1 ≤ mkRat (n : Int) p.1 * (p.1 : Rat) := Rat.mul_le_mul_of_nonneg_left h3 h2
      have h5 : (n : Rat) ≤ ((2 ^ b : Nat) : Rat) := by exact_mod_cast hp.nums n hn
      grind
  refine smR_of hg hp.pos (Nat.lt_of_le_of_lt hp.le (pow_bigA (by omega))) ?_
  exact Nat.lt_of_le_of_lt (mul_le_pow (Nat.le_refl _) hp.le (Nat.le_refl _)) (pow_bigA (by omega))
@[simp high] theorem enc_eqC {p q : Rat} : cop .eq (enc p) (enc q) = some (decide (p = q)) := by
  rw [show cop .eq (enc p) (enc q) = if eqOk (enc p) (enc q) then some (D.eqv (enc p) (enc q)) else none from rfl, eqv_enc]
  simp [eqOk, plain_enc, depth_enc]
@[simp high] theorem enc_neC {p q : Rat} : cop .ne (enc p) (enc q) = some (!decide (p = q)) := by
  rw [show cop .ne (enc p) (enc q) = if eqOk (enc p) (enc q) then some (!D.eqv (enc p) (enc q)) else none from rfl, eqv_enc]
  simp [eqOk, plain_enc, depth_enc]
theorem ones_ok {α : Type} (l : List α) : eqOk (.lst (l.map fun _ => D.int 1)) (.lst []) = true := by
  have h : D.plains (l.map fun _ => D.int 1) = true ∧ D.depths (l.map fun _ => D.int 1) = 0 := by
    induction l with
    | nil => exact ⟨rfl, rfl⟩
    | cons x l ih =>
      refine ⟨?_, ?_⟩
      · simp only [List.map_cons, D.plains, ih.1]; rfl
      · simp only [List.map_cons, D.depths, ih.2]; rfl
  simp only [eqOk, D.plain, D.depth, h.1, h.2, D.plains, D.depths]
  rfl
theorem ones_eqv {α : Type} (l : List α) : D.eqv (.lst (l.map fun _ => D.int 1)) (.lst []) = l.isEmpty := by
  cases l <;> simp [D.eqv, D.eqvs]
@[simp high] theorem ones_ne {α : Type} (l : List α) (t : α → Bool) : cop .ne (.lst ((l.filter t).map fun _ => D.int 1)) (.lst []) = some (l.any t) := by
  have e : (l.filter t).isEmpty = !l.any t := by
    rw [Bool.eq_iff_iff]; simp [List.filter_eq_nil_iff]
  rw [show cop .ne (D.lst ((l.filter t).map fun _ => D.int 1)) (.lst []) = if eqOk (D.lst ((l.filter t).map fun _ => D.int 1)) (.lst []) then some (!D.eqv (D.lst ((l.filter t).map fun _ => D.int 1)) (.lst [])) else none from rfl, ones_ok, ones_eqv, e]
  simp
@[simp high] theorem ones_eq {α : Type} (l : List α) (t : α → Bool) : cop .eq (.lst ((l.filter t).map fun _ => D.int 1)) (.lst []) = some (!l.any t) := by
  have e : (l.filter t).isEmpty = !l.any t := by
    rw [Bool.eq_iff_iff]; simp [List.filter_eq_nil_iff]
  rw [show cop .eq (D.lst ((l.filter t).map fun _ => D.int 1)) (.lst []) = if eqOk (D.lst ((l.filter t).map fun _ => D.int 1)) (.lst []) then some (D.eqv (D.lst ((l.filter t).map fun _ => D.int 1)) (.lst [])) else none from rfl, ones_ok, ones_eqv, e]
  simp
namespace K48
variable {sto : List O}
theorem v_apart_of {b b' : Nat} {p q : Nat × List Nat} (hp : POk b p) (hq : POk b' q) (hb : b + b' ≤ 3000) (hl : p.2.length ≤ 8) (hl' : q.2.length = p.2.length) {m : Nat} (hm : 3 ≤ m) :
    callD loop prog m 16 [pD p, pD q] sto = some (.d (.tup [pD (bothP p q), pD (least (p.1 * q.1) (moreN p.1 q.1 (p.2.zip q.2))), pD (least (p.1 * q.1) (moreN' p.1 q.1 (p.2.zip q.2)))]), sto) := by
  have e1 := zip_fst hl'
  have e2 := zip_snd hl'
  have := v_apart (sto := sto) (B := b) (B' := b') (a := p.1) (b := q.1) (Z := p.2.zip q.2) (by rw [e1]; exact hp) (by rw [e2]; exact hq) hb (by simp; omega) hm
  rw [e1, e2] at this
  exact this
theorem v_parted_of {b b' : Nat} {p q : Nat × List Nat} (hp : POk b p) (hq : POk b' q) (hb : b + b' ≤ 3000) (hl : p.2.length ≤ 8) (hl' : q.2.length = p.2.length) {m : Nat} (hm : 4 ≤ m) :
    callD loop prog m 36 [pD p, pD q] sto = some (.d (enc (partR p q)), sto) := by
  obtain ⟨k, rfl⟩ : ∃ k, m = k + 4 := ⟨m - 4, by omega⟩
  refine ends_eq (run_def (d := d_parted_of) rfl rfl ?_)
  have h0 : 0 < p.1 * q.1 := Nat.mul_pos hp.pos hq.pos
  have hg := gcdL_pos (ns := moreN p.1 q.1 (p.2.zip q.2)) h0
  have hd := gcdL_dvd (ns := moreN p.1 q.1 (p.2.zip q.2)) (s := p.1 * q.1)
  have hs := sum_div hg hd.2
  have hq1 : 0 < (least (p.1 * q.1) (moreN p.1 q.1 (p.2.zip q.2))).1 := Nat.div_pos (gcdL_le h0) hg
  have hq2 : (least (p.1 * q.1) (moreN p.1 q.1 (p.2.zip q.2))).1 < bigB := by
    refine Nat.lt_of_le_of_lt (Nat.div_le_self _ _) ?_
    exact Nat.lt_trans (Nat.lt_of_le_of_lt (mul_le_pow hp.le hq.le (Nat.le_refl _)) (pow_bigA (by omega))) bigAB
  have hr := v_ratio_of (sto := sto) (m := k + 3) (a := (((least (p.1 * q.1) (moreN p.1 q.1 (p.2.zip q.2))).2.sum : Nat) : Int)) (b := ((least (p.1 * q.1) (moreN p.1 q.1 (p.2.zip q.2))).1 : Nat)) (by omega) (by simpa using hq2) (by omega)
  have he : mkRat (((least (p.1 * q.1) (moreN p.1 q.1 (p.2.zip q.2))).2.sum : Nat) : Int) (least (p.1 * q.1) (moreN p.1 q.1 (p.2.zip q.2))).1 = partR p q := by
    simp only [least]
    rw [hs.1]
    exact mkRat_div hg hs.2 hd.1 h0
  simp only [Int.natAbs_natCast, he] at hr
  simp [d_parted_of, start, O.isD, O.flat, isInst, isTy, tyNames, tyN, tyNs, anyN, O.toD, eqOk, D.plain, D.depth, D.eqv, D.flat, E.place, E.quiet, E.quiet.go, E.quietO, stEs, stE, asgT, cxK_own, cxK_cel, cxK_call, cxK_make, bindT.go, Tg.slots, Tg.slots.go, wipe, putBack, dOnly, ixN, bls_map, pures_map', pures_mapf, toDs_mapf, toDs_map', ints_map, E.keeps, isN, isL, modR, modPath, appAt, v_apart_of hp hq hb hl hl', ints_nat, sum_cast, hr]
theorem v_gone_far {rows : List (Nat × List Nat)} (h : ROk rows) {b t : Nat} {p : Nat × List Nat} (hp : POk b p) (hb : b + 93 * t ≤ 3000) (hl : p.2.length = rows.length) {m : Nat} (hm : 5 ≤ m) : callD loop prog m 23 [walkD rows, pD p, .int (t : Nat)] sto = some (.d (pD (goneN rows p t)), sto) := by
  obtain ⟨k, rfl⟩ : ∃ k, m = k + 5 := ⟨m - 5, by omega⟩
  have hr : itk .range [.int (t : Nat)] = some ((List.range t).map fun (j : Nat) => .int (j : Int)) := q_range (by omega)
  refine ends_eq (run_def (d := d_gone_far) rfl rfl ?_)
  simp [d_gone_far, start, O.isD, O.flat, isInst, isTy, tyNames, tyN, tyNs, anyN, O.toD, eqOk, D.plain, D.depth, D.eqv, D.flat, E.place, E.quiet, E.quiet.go, E.quietO, stEs, stE, asgT, cxK_own, cxK_cel, cxK_call, cxK_make, bindT.go, Tg.slots, Tg.slots.go, wipe, putBack, dOnly, ixN, bls_map, pures_map', pures_mapf, toDs_mapf, toDs_map', ints_map, E.keeps, isN, isL, modR, modPath, appAt]
  refine run_for (List.range t) (fun j => .int (j : Nat)) (fun done s => ∃ x4, s = ⟨[some (.d (walkD rows)), some (.d (pD p)), some (.d (.int (t : Nat))), some (.d (pD (goneN rows p done.length))), x4], sto⟩) ?_ ?_ ?_
  · simp [start, O.isD, O.flat, isInst, isTy, tyNames, tyN, tyNs, anyN, O.toD, eqOk, D.plain, D.depth, D.eqv, D.flat, E.place, E.quiet, E.quiet.go, E.quietO, stEs, stE, asgT, cxK_own, cxK_cel, cxK_call, cxK_make, bindT.go, Tg.slots, Tg.slots.go, wipe, putBack, dOnly, ixN, bls_map, pures_map', pures_mapf, toDs_mapf, toDs_map', ints_map, E.keeps, isN, isL, modR, modPath, appAt, hr, goneN]
  · rintro done x rest e s ⟨x4, rfl⟩
    have hd : done.length < t := by
      have := congrArg List.length e
      simp at this; omega
    simp [start, O.isD, O.flat, isInst, isTy, tyNames, tyN, tyNs, anyN, O.toD, eqOk, D.plain, D.depth, D.eqv, D.flat, E.place, E.quiet, E.quiet.go, E.quietO, stEs, stE, asgT, cxK_own, cxK_cel, cxK_call, cxK_make, bindT.go, Tg.slots, Tg.slots.go, wipe, putBack, dOnly, ixN, bls_map, pures_map', pures_mapf, toDs_mapf, toDs_map', ints_map, E.keeps, isN, isL, modR, modPath, appAt, v_gone_on h (pok_goneN h hp done.length) (by omega) (len_goneN hl _), goneN]
  · rintro s ⟨x4, rfl⟩
    simp [start, O.isD, O.flat, isInst, isTy, tyNames, tyN, tyNs, anyN, O.toD, eqOk, D.plain, D.depth, D.eqv, D.flat, E.place, E.quiet, E.quiet.go, E.quietO, stEs, stE, asgT, cxK_own, cxK_cel, cxK_call, cxK_make, bindT.go, Tg.slots, Tg.slots.go, wipe, putBack, dOnly, ixN, bls_map, pures_map', pures_mapf, toDs_mapf, toDs_map', ints_map, E.keeps, isN, isL, modR, modPath, appAt]
theorem v_is_losing {rows : List (Nat × List Nat)} (h : ROk rows) {m : Nat} (hm : 1 ≤ m) : callD loop prog m 24 [walkD rows] sto = some (.d (.bl false), sto) := by
  obtain ⟨k, rfl⟩ : ∃ k, m = k + 1 := ⟨m - 1, by omega⟩
  have q4 : lenOk rows.length = true := lenOk_of (by have := h.many.2; omega)
  refine ends_eq (run_def (d := d_is_losing) rfl rfl ?_)
  simp [d_is_losing, start, O.isD, O.flat, isInst, isTy, tyNames, tyN, tyNs, anyN, O.toD, eqOk, D.plain, D.depth, D.eqv, D.flat, E.place, E.quiet, E.quiet.go, E.quietO, stEs, stE, asgT, cxK_own, cxK_cel, cxK_call, cxK_make, bindT.go, Tg.slots, Tg.slots.go, wipe, putBack, dOnly, ixN, bls_map, pures_map', pures_mapf, toDs_mapf, toDs_map', ints_map, E.keeps, isN, isL, modR, modPath, appAt]
  refine run_filt rows pD (fun _ => .int 1) (fun _ => false) ?_
  simp [walkD, rowsD, attrOf, List.lookup, q4, start, O.isD, O.flat, isInst, isTy, tyNames, tyN, tyNs, anyN, O.toD, eqOk, D.plain, D.depth, D.eqv, D.flat, E.place, E.quiet, E.quiet.go, E.quietO, stEs, stE, asgT, cxK_own, cxK_cel, cxK_call, cxK_make, bindT.go, Tg.slots, Tg.slots.go, wipe, putBack, dOnly, ixN, bls_map, pures_map', pures_mapf, toDs_mapf, toDs_map', ints_map, E.keeps, isN, isL, modR, modPath, appAt]
  intro a b hab
  have := h.row _ hab
  simp only at this
  rw [sum_cast, this.2.2.2]
  exact Int.le_refl _
end K48
end Py
end

section
set_option linter.all false
set_option Elab.async false
/-! Q9: what is asked ahead; the table of the meeting. -/
namespace Py
/-- a row of ratios, as a tuple -/
def rowD (v : List Rat) : D := .tup (v.map enc)
theorem okD_row {v : List Rat} (h : v.length ≤ 1000) : okD (rowD v) = true := by
  simp only [rowD, okD, Bool.and_eq_true]
  refine ⟨lenOk_of (by simp; omega), okDs_of ?_⟩
  simp [okD_enc]
theorem val_len {p : Nat × List Nat} : (valP p).length = p.2.length := by simp [valP]
theorem meet_len {rows : List (Nat × List Nat)} {p q : Nat × List Nat} (hl : p.2.length = rows.length) (hl' : q.2.length = rows.length) (t : Nat) : (aheadV rows p q t).length = rows.length ∧ (meetV rows p q t).length = rows.length := by
  have h1 : (aheadV rows p q t).length = rows.length := by
    cases t with
    | zero => simp [aheadV]
    | succ t => simp [aheadV, val_len, gone_len]
  refine ⟨h1, ?_⟩
  simp only [meetV, List.length_map, List.length_zip, val_len, h1]
  rw [len_both (by rw [len_goneN hl', len_goneN hl]), len_goneN hl]
  simp
namespace K48
variable {sto : List O}
theorem v_need_walk {rows : List (Nat × List Nat)} {m : Nat} (hm : 1 ≤ m) : callD loop prog m 20 [walkD rows] sto = some (.d .non, sto) := by
  obtain ⟨k, rfl⟩ : ∃ k, m = k + 1 := ⟨m - 1, by omega⟩
  refine ends_eq (run_def (d := d_need_walk) rfl rfl ?_)
  simp [d_need_walk, start, O.isD, O.flat, isInst, isTy, tyNames, tyN, tyNs, anyN, O.toD, eqOk, D.plain, D.depth, D.eqv, D.flat, E.place, E.quiet, E.quiet.go, E.quietO, stEs, stE, asgT, cxK_own, cxK_cel, cxK_call, cxK_make, bindT.go, Tg.slots, Tg.slots.go, wipe, putBack, dOnly, ixN, bls_map, pures_map', pures_mapf, toDs_mapf, toDs_map', ints_map, E.keeps, isN, isL, modR, modPath, appAt, walkD]
theorem v_need_kept {rows : List (Nat × List Nat)} (h : ROk rows) {m : Nat} (hm : 2 ≤ m) : callD loop prog m 32 [walkD rows] sto = some (.d .non, sto) := by
  obtain ⟨k, rfl⟩ : ∃ k, m = k + 2 := ⟨m - 2, by omega⟩
  refine ends_eq (run_def (d := d_need_kept) rfl rfl ?_)
  simp [d_need_kept, start, O.isD, O.flat, isInst, isTy, tyNames, tyN, tyNs, anyN, O.toD, eqOk, D.plain, D.depth, D.eqv, D.flat, E.place, E.quiet, E.quiet.go, E.quietO, stEs, stE, asgT, cxK_own, cxK_cel, cxK_call, cxK_make, bindT.go, Tg.slots, Tg.slots.go, wipe, putBack, dOnly, ixN, bls_map, pures_map', pures_mapf, toDs_mapf, toDs_map', ints_map, E.keeps, isN, isL, modR, modPath, appAt, v_need_walk, v_is_losing h]
theorem v_need_pair {rows : List (Nat × List Nat)} (h : ROk rows) {b : Nat} {p q : Nat × List Nat} (hp : Share rows.length b p) (hq : Share rows.length b q) {m : Nat} (hm : 6 ≤ m) : callD loop prog m 33 [walkD rows, pD p, pD q] sto = some (.d .non, sto) := by
  obtain ⟨k, rfl⟩ : ∃ k, m = k + 6 := ⟨m - 6, by omega⟩
  have h2 := h.many.2
  have e1 := v_is_share_of (sto := sto) hp h2 (m := k + 5) (by omega)
  have e2 := v_is_share_of (sto := sto) hq h2 (m := k + 5) (by omega)
  refine ends_eq (run_def (d := d_need_pair) rfl rfl ?_)
  simp [d_need_pair, start, O.isD, O.flat, isInst, isTy, tyNames, tyN, tyNs, anyN, O.toD, eqOk, D.plain, D.depth, D.eqv, D.flat, E.place, E.quiet, E.quiet.go, E.quietO, stEs, stE, asgT, cxK_own, cxK_cel, cxK_call, cxK_make, bindT.go, Tg.slots, Tg.slots.go, wipe, putBack, dOnly, ixN, bls_map, pures_map', pures_mapf, toDs_mapf, toDs_map', ints_map, E.keeps, isN, isL, modR, modPath, appAt, walkD, attrOf, List.lookup, e1, e2]
theorem v_need_moment_to {t most : Nat} (h : t ≤ most) {m : Nat} (hm : 3 ≤ m) : callD loop prog m 34 [.int (t : Nat), .int (most : Nat)] sto = some (.d .non, sto) := by
  obtain ⟨k, rfl⟩ : ∃ k, m = k + 3 := ⟨m - 3, by omega⟩
  refine ends_eq (run_def (d := d_need_moment_to) rfl rfl ?_)
  have : (t : Int) ≤ (most : Int) := by omega
  simp [d_need_moment_to, start, O.isD, O.flat, isInst, isTy, tyNames, tyN, tyNs, anyN, O.toD, eqOk, D.plain, D.depth, D.eqv, D.flat, E.place, E.quiet, E.quiet.go, E.quietO, stEs, stE, asgT, cxK_own, cxK_cel, cxK_call, cxK_make, bindT.go, Tg.slots, Tg.slots.go, wipe, putBack, dOnly, ixN, bls_map, pures_map', pures_mapf, toDs_mapf, toDs_map', ints_map, E.keeps, isN, isL, modR, modPath, appAt, v_is_between, h]
theorem v_need_task {rows : List (Nat × List Nat)} (h : ROk rows) {b t most : Nat} {p q : Nat × List Nat} (hp : Share rows.length b p) (hq : Share rows.length b q) (ht : t ≤ most) {m : Nat} (hm : 7 ≤ m) : callD loop prog m 35 [walkD rows, pD p, pD q, .int (t : Nat), .int (most : Nat)] sto = some (.d .non, sto) := by
  obtain ⟨k, rfl⟩ : ∃ k, m = k + 7 := ⟨m - 7, by omega⟩
  refine ends_eq (run_def (d := d_need_task) rfl rfl ?_)
  simp [d_need_task, start, O.isD, O.flat, isInst, isTy, tyNames, tyN, tyNs, anyN, O.toD, eqOk, D.plain, D.depth, D.eqv, D.flat, E.place, E.quiet, E.quiet.go, E.quietO, stEs, stE, asgT, cxK_own, cxK_cel, cxK_call, cxK_make, bindT.go, Tg.slots, Tg.slots.go, wipe, putBack, dOnly, ixN, bls_map, pures_map', pures_mapf, toDs_mapf, toDs_map', ints_map, E.keeps, isN, isL, modR, modPath, appAt, v_need_kept h, v_need_pair h hp hq, v_need_moment_to ht]
theorem v_parted_list {rows : List (Nat × List Nat)} (h : ROk rows) {b t : Nat} {p q : Nat × List Nat} (hp : POk b p) (hq : POk b q) (hb : 2 * (b + 93 * t) ≤ 3000) (hl : p.2.length = rows.length) (hl' : q.2.length = rows.length) {m : Nat} (hm : 5 ≤ m) :
    callD loop prog m 37 [walkD rows, pD p, pD q, .int (t : Nat)] sto = some (.lst ((List.range (t + 1)).map fun u => .d (enc (partR (goneN rows p u) (goneN rows q u)))), sto) := by
  obtain ⟨k, rfl⟩ : ∃ k, m = k + 5 := ⟨m - 5, by omega⟩
  have h2 := h.many.2
  have hr : itk .range [.int (t : Nat)] = some ((List.range t).map fun (j : Nat) => .int (j : Int)) := q_range (by omega)
  have hpart : ∀ u, u ≤ t → ∀ sto, callD loop prog (k + 4) 36 [pD (goneN rows p u), pD (goneN rows q u)] sto = some (.d (enc (partR (goneN rows p u) (goneN rows q u))), sto) := fun u hu sto =>
    v_parted_of (pok_goneN h hp u) (pok_goneN h hq u) (by omega) (by rw [len_goneN hl]; exact h2) (by rw [len_goneN hl', len_goneN hl]) (by omega)
  refine ends_eq (run_def (d := d_parted_list) rfl rfl ?_)
  have e0 := hpart 0 (by omega) sto
  simp only [goneN] at e0
  simp [d_parted_list, start, O.isD, O.flat, isInst, isTy, tyNames, tyN, tyNs, anyN, O.toD, eqOk, D.plain, D.depth, D.eqv, D.flat, E.place, E.quiet, E.quiet.go, E.quietO, stEs, stE, asgT, cxK_own, cxK_cel, cxK_call, cxK_make, bindT.go, Tg.slots, Tg.slots.go, wipe, putBack, dOnly, ixN, bls_map, pures_map', pures_mapf, toDs_mapf, toDs_map', ints_map, E.keeps, isN, isL, modR, modPath, appAt, e0]
  refine run_for (List.range t) (fun j => .int (j : Nat)) (fun done s => ∃ x7, s = ⟨[some (.d (walkD rows)), some (.d (pD p)), some (.d (pD q)), some (.d (.int (t : Nat))), some (.d (pD (goneN rows p done.length))), some (.d (pD (goneN rows q done.length))), some (.lst ((List.range (done.length + 1)).map fun u => .d (enc (partR (goneN rows p u) (goneN rows q u))))), x7], sto⟩) ?_ ?_ ?_
  · simp [start, O.isD, O.flat, isInst, isTy, tyNames, tyN, tyNs, anyN, O.toD, eqOk, D.plain, D.depth, D.eqv, D.flat, E.place, E.quiet, E.quiet.go, E.quietO, stEs, stE, asgT, cxK_own, cxK_cel, cxK_call, cxK_make, bindT.go, Tg.slots, Tg.slots.go, wipe, putBack, dOnly, ixN, bls_map, pures_map', pures_mapf, toDs_mapf, toDs_map', ints_map, E.keeps, isN, isL, modR, modPath, appAt, hr, goneN]
  · rintro done x rest e s ⟨x4, rfl⟩
    have hd : done.length < t := by
      have := congrArg List.length e
      simp at this; omega
    have q5 : lenOk (done.length + 1 + 1) = true := lenOk_of (by omega)
    have e1 := hpart (done.length + 1) (by omega) sto
    simp only [goneN] at e1
    simp [start, O.isD, O.flat, isInst, isTy, tyNames, tyN, tyNs, anyN, O.toD, eqOk, D.plain, D.depth, D.eqv, D.flat, E.place, E.quiet, E.quiet.go, E.quietO, stEs, stE, asgT, cxK_own, cxK_cel, cxK_call, cxK_make, bindT.go, Tg.slots, Tg.slots.go, wipe, putBack, dOnly, ixN, bls_map, pures_map', pures_mapf, toDs_mapf, toDs_map', ints_map, E.keeps, isN, isL, modR, modPath, appAt, v_gone_on h (pok_goneN h hp done.length) (by omega) (len_goneN hl _), v_gone_on h (pok_goneN h hq done.length) (by omega) (len_goneN hl' _), goneN, isN, isL, modR, modPath, appAt, e1, q5]
    rw [List.range_succ (n := done.length + 1)]
    simp [goneN]
  · rintro s ⟨x4, rfl⟩
    simp [start, O.isD, O.flat, isInst, isTy, tyNames, tyN, tyNs, anyN, O.toD, eqOk, D.plain, D.depth, D.eqv, D.flat, E.place, E.quiet, E.quiet.go, E.quietO, stEs, stE, asgT, cxK_own, cxK_cel, cxK_call, cxK_make, bindT.go, Tg.slots, Tg.slots.go, wipe, putBack, dOnly, ixN, bls_map, pures_map', pures_mapf, toDs_mapf, toDs_map', ints_map, E.keeps, isN, isL, modR, modPath, appAt]
end K48
end Py
end

section
set_option linter.all false
set_option Elab.async false
/-! QA: the meeting table, sums. -/
namespace Py
theorem zip_maps {α β γ δ : Type} (f : α → γ) (g : β → δ) (a : List α) (b : List β) : (a.map f).zip (b.map g) = (a.zip b).map fun z => (f z.1, g z.2) := by
  rw [List.zip_map]; rfl
/-- numbers that sums stay below -/
structure Room (N B : Nat) : Prop where
  pos : 0 < N
  den : N < bigA
  num : B * N < bigA
theorem Room.sm {N B : Nat} (h : Room N B) {q : Rat} (hq : G N B q) : SmR q := smR_of hq h.pos h.den h.num
theorem Room.le {N B B' : Nat} (h : Room N B) (hb : B' ≤ B) : Room N B' := ⟨h.pos, h.den, Nat.lt_of_le_of_lt (Nat.mul_le_mul_right _ hb) h.num⟩
theorem G_total {N B : Nat} : ∀ {l : List Rat} {C : Nat} {x : Rat}, G N C x → (∀ q ∈ l, G N B q) → G N (C + l.length * B) (l.foldl (· + ·) x)
  | [], C, x, hx, _ => by simpa using hx
  | y :: l, C, x, hx, h => by
    have := G_total (l := l) (G_add hx (h y (by simp))) fun q hq => h q (by simp [hq])
    rw [List.foldl_cons]
    refine G_mono this ?_
    rw [List.length_cons, Nat.add_mul]
    omega
theorem toDs_rep (n : Nat) (x : D) : O.toDs (List.replicate n (.d x)) = List.replicate n x := by
  induction n with
  | zero => rfl
  | succ n ih => rw [List.replicate_succ, O.toDs, ih]; rfl
/-- what has stopped up to each moment -/
def cumV : List (List Rat) → Rat → List Rat
  | [], _ => []
  | r :: l, x => (x + totalR r) :: cumV l (x + totalR r)
theorem cumV_append : ∀ (l : List (List Rat)) (r : List Rat) (x : Rat), cumV (l ++ [r]) x = cumV l x ++ [(cumV l x).getLast?.getD x + totalR r]
  | [], r, x => by simp [cumV]
  | a :: l, r, x => by
    rw [List.cons_append, cumV, cumV, cumV_append l r]
    cases h : cumV l (x + totalR a) <;> simp [List.getLast?_cons]
theorem cumV_len : ∀ (l : List (List Rat)) (x : Rat), (cumV l x).length = l.length
  | [], _ => rfl
  | a :: l, x => by simp [cumV, cumV_len l]
namespace K48
variable {sto : List O}
theorem v_total_of {d : D} {l : List Rat} {N B : Nat} (hd : seqOf d = some (l.map enc)) (hR : Room N (l.length * B)) (hB : Room N B) (hl : ∀ q ∈ l, G N B q) {m : Nat} (hm : 4 ≤ m) :
    callD loop prog m 13 [d] sto = some (.d (enc (totalR l)), sto) := by
  obtain ⟨k, rfl⟩ : ∃ k, m = k + 4 := ⟨m - 4, by omega⟩
  have hn : noCell (.d d) = true := by cases d <;> first | rfl | cases hd
  refine ends_eq (run_def (d := d_total_of) rfl rfl ?_)
  simp [d_total_of, start, O.isD, O.flat, isInst, isTy, tyNames, tyN, tyNs, anyN, O.toD, eqOk, D.plain, D.depth, D.eqv, D.flat, E.place, E.quiet, E.quiet.go, E.quietO, stEs, stE, asgT, cxK_own, cxK_cel, cxK_call, cxK_make, bindT.go, Tg.slots, Tg.slots.go, wipe, putBack, dOnly, ixN, bls_map, pures_map', pures_mapf, toDs_mapf, toDs_map', ints_map, E.keeps, isN, isL, modR, modPath, appAt]
  refine run_for l enc (fun done s => ∃ x2, s = ⟨[some (.d d), some (.d (enc (totalR done))), x2], sto⟩) ?_ ?_ ?_
  · simp [start, O.isD, O.flat, isInst, isTy, tyNames, tyN, tyNs, anyN, O.toD, eqOk, D.plain, D.depth, D.eqv, D.flat, E.place, E.quiet, E.quiet.go, E.quietO, stEs, stE, asgT, cxK_own, cxK_cel, cxK_call, cxK_make, bindT.go, Tg.slots, Tg.slots.go, wipe, putBack, dOnly, ixN, bls_map, pures_map', pures_mapf, toDs_mapf, toDs_map', ints_map, E.keeps, isN, isL, modR, modPath, appAt, hd, hn, totalR, enc_zero]
  · rintro done x rest e s ⟨x2, rfl⟩
    have g1 : G N (l.length * B) (totalR done) := by
      have := G_total (N := N) (B := B) (C := 0) (x := 0) (l := done) G_zero fun q hq => hl q (by rw [e]; simp [hq])
      refine G_mono this ?_
      rw [Nat.zero_add]
      refine Nat.mul_le_mul_right _ ?_
      rw [e]; simp
    have g2 := hl x (by rw [e]; simp)
    have g3 : totalR (done ++ [x]) = totalR done + x := by simp [totalR]
    simp [start, O.isD, O.flat, isInst, isTy, tyNames, tyN, tyNs, anyN, O.toD, eqOk, D.plain, D.depth, D.eqv, D.flat, E.place, E.quiet, E.quiet.go, E.quietO, stEs, stE, asgT, cxK_own, cxK_cel, cxK_call, cxK_make, bindT.go, Tg.slots, Tg.slots.go, wipe, putBack, dOnly, ixN, bls_map, pures_map', pures_mapf, toDs_mapf, toDs_map', ints_map, E.keeps, isN, isL, modR, modPath, appAt, v_sum_of (hR.sm g1) (hB.sm g2), g3]
  · rintro s ⟨x2, rfl⟩
    simp [start, O.isD, O.flat, isInst, isTy, tyNames, tyN, tyNs, anyN, O.toD, eqOk, D.plain, D.depth, D.eqv, D.flat, E.place, E.quiet, E.quiet.go, E.quietO, stEs, stE, asgT, cxK_own, cxK_cel, cxK_call, cxK_make, bindT.go, Tg.slots, Tg.slots.go, wipe, putBack, dOnly, ixN, bls_map, pures_map', pures_mapf, toDs_mapf, toDs_map', ints_map, E.keeps, isN, isL, modR, modPath, appAt]
theorem v_meeting_rows {rows : List (Nat × List Nat)} (h : ROk rows) {b t : Nat} {p q : Nat × List Nat} (hp : POk b p) (hq : POk b q) (hb : 2 * (b + 93 * (t + 1)) ≤ 1500) (hl : p.2.length = rows.length) (hl' : q.2.length = rows.length) {m : Nat} (hm : 5 ≤ m) :
    callD loop prog m 38 [walkD rows, pD p, pD q, .int (t : Nat)] sto = some (.lst ((List.range (t + 1)).map fun u => .d (rowD (meetV rows p q u))), sto) := by
  obtain ⟨k, rfl⟩ : ∃ k, m = k + 5 := ⟨m - 5, by omega⟩
  have h2 := h.many.2
  have hr : itk .range [.int ((t + 1 : Nat) : Nat)] = some ((List.range (t + 1)).map fun (j : Nat) => .int (j : Int)) := q_range (by omega)
  have q3 : lenOk rows.length = true := lenOk_of (by omega)
  have hbo : ∀ u, u ≤ t → POk (b + 93 * u + (b + 93 * u)) (bothP (goneN rows p u) (goneN rows q u)) := fun u hu => pok_both (pok_goneN h hp u) (pok_goneN h hq u)
  have hll : ∀ u, (goneN rows q u).2.length = (goneN rows p u).2.length := fun u => by rw [len_goneN hl', len_goneN hl]
  have hbl : ∀ u, (bothP (goneN rows p u) (goneN rows q u)).2.length = rows.length := fun u => by rw [len_both (hll u), len_goneN hl]
  refine ends_eq (run_def (d := d_meeting_rows) rfl rfl ?_)
  simp [d_meeting_rows, start, O.isD, O.flat, isInst, isTy, tyNames, tyN, tyNs, anyN, O.toD, eqOk, D.plain, D.depth, D.eqv, D.flat, E.place, E.quiet, E.quiet.go, E.quietO, stEs, stE, asgT, cxK_own, cxK_cel, cxK_call, cxK_make, bindT.go, Tg.slots, Tg.slots.go, wipe, putBack, dOnly, ixN, bls_map, pures_map', pures_mapf, toDs_mapf, toDs_map', ints_map, E.keeps, isN, isL, modR, modPath, appAt, q3, List.flatten_replicate_singleton]
  refine run_for (List.range (t + 1)) (fun j => .int (j : Nat)) (fun done s => ∃ x8 x9, s = ⟨[some (.d (walkD rows)), some (.d (pD p)), some (.d (pD q)), some (.d (.int (t : Nat))), some (.d (pD (goneN rows p done.length))), some (.d (pD (goneN rows q done.length))), some (.d (.lst ((aheadV rows p q done.length).map enc))), some (.lst ((List.range done.length).map fun u => .d (rowD (meetV rows p q u)))), x8, x9, none, none], sto⟩) ?_ ?_ ?_
  · have hr' : itk .range [.int ((t : Int) + 1)] = some ((List.range (t + 1)).map fun (j : Nat) => .int (j : Int)) := by simpa using hr
    simp [start, O.isD, O.flat, isInst, isTy, tyNames, tyN, tyNs, anyN, O.toD, eqOk, D.plain, D.depth, D.eqv, D.flat, E.place, E.quiet, E.quiet.go, E.quietO, stEs, stE, asgT, cxK_own, cxK_cel, cxK_call, cxK_make, bindT.go, Tg.slots, Tg.slots.go, wipe, putBack, dOnly, ixN, bls_map, pures_map', pures_mapf, toDs_mapf, toDs_map', ints_map, E.keeps, isN, isL, modR, modPath, appAt, aheadV, hr', goneN, toDs_rep, enc_zero]
  · rintro done x rest e s ⟨x8, x9, rfl⟩
    have hd : done.length < t + 1 := by
      have := congrArg List.length e
      simp at this; omega
    have q5 : lenOk (done.length + 1) = true := lenOk_of (by omega)
    have hz : ((valP (bothP (goneN rows p done.length) (goneN rows q done.length))).zip (aheadV rows p q done.length)).length = rows.length := by
      simp [val_len, hbl, (meet_len hl hl' done.length).1]
    have q6 : lenOk ((valP (bothP (goneN rows p done.length) (goneN rows q done.length))).zip (aheadV rows p q done.length)).length = true := by rw [hz]; exact q3
    simp [start, O.isD, O.flat, isInst, isTy, tyNames, tyN, tyNs, anyN, O.toD, eqOk, D.plain, D.depth, D.eqv, D.flat, E.place, E.quiet, E.quiet.go, E.quietO, stEs, stE, asgT, cxK_own, cxK_cel, cxK_call, cxK_make, bindT.go, Tg.slots, Tg.slots.go, wipe, putBack, dOnly, ixN, bls_map, pures_map', pures_mapf, toDs_mapf, toDs_map', ints_map, E.keeps, isN, isL, modR, modPath, appAt, v_apart_of (pok_goneN h hp done.length) (pok_goneN h hq done.length) (by omega) (by rw [len_goneN hl]; exact h2) (hll _), isN, isL, modR, modPath, appAt, q5]
    refine run_map ((valP (bothP (goneN rows p done.length) (goneN rows q done.length))).zip (aheadV rows p q done.length)) (fun z => .tup [enc z.1, enc z.2]) (fun z => enc (z.1 - z.2)) ?_
    have hsm : ∀ a b, (a, b) ∈ (valP (bothP (goneN rows p done.length) (goneN rows q done.length))).zip (aheadV rows p q done.length) → SmR a ∧ SmR b := by
      intro a b' hab
      have := List.of_mem_zip hab
      refine ⟨smR_val (hbo done.length (by omega)) (by omega) a this.1, ?_⟩
      revert this
      cases hdn : done.length with
      | zero =>
        intro this
        have h0 := this.2
        simp [aheadV] at h0
        rw [h0.2]; exact smR_zero
      | succ u =>
        intro this
        exact smR_val (pok_gone h (hbo u (by omega))) (by omega) b' this.2
    have g1 := v_gone_on (sto := sto) h (hbo done.length (by omega)) (by omega) (hbl done.length) (m := k + 4) (by omega)
    have g2 := v_ratios_of (sto := sto) (pok_gone h (hbo done.length (by omega))) (by omega) (by rw [gone_len]; omega) (m := k + 4) (by omega)
    have q7 : lenOk (min (valP (bothP (goneN rows p done.length) (goneN rows q done.length))).length (aheadV rows p q done.length).length) = true := by simpa using q6
    simp [start, O.isD, O.flat, isInst, isTy, tyNames, tyN, tyNs, anyN, O.toD, eqOk, D.plain, D.depth, D.eqv, D.flat, E.place, E.quiet, E.quiet.go, E.quietO, stEs, stE, asgT, cxK_own, cxK_cel, cxK_call, cxK_make, bindT.go, Tg.slots, Tg.slots.go, wipe, putBack, dOnly, ixN, bls_map, pures_map', pures_mapf, toDs_mapf, toDs_map', ints_map, E.keeps, isN, isL, modR, modPath, appAt, v_ratios_of (hbo done.length (by omega)) (by omega) (by rw [hbl]; omega), zip_maps, q5, q7, g1, g2, v_gone_on h (pok_goneN h hp done.length) (by omega) (len_goneN hl _), v_gone_on h (pok_goneN h hq done.length) (by omega) (len_goneN hl' _)]
    refine ⟨fun a b' hab => ?_, ?_⟩
    · obtain ⟨s1, s2⟩ := hsm a b' hab
      simp [v_less_of s1 s2, start, O.isD, O.flat, isInst, isTy, tyNames, tyN, tyNs, anyN, O.toD, eqOk, D.plain, D.depth, D.eqv, D.flat, E.place, E.quiet, E.quiet.go, E.quietO, stEs, stE, asgT, cxK_own, cxK_cel, cxK_call, cxK_make, bindT.go, Tg.slots, Tg.slots.go, wipe, putBack, dOnly, ixN, bls_map, pures_map', pures_mapf, toDs_mapf, toDs_map', ints_map, E.keeps, isN, isL, modR, modPath, appAt]
    · refine ⟨rfl, rfl, rfl, ?_⟩
      rw [List.range_succ]
      simp [rowD, meetV]
  · rintro s ⟨x8, x9, rfl⟩
    simp [start, O.isD, O.flat, isInst, isTy, tyNames, tyN, tyNs, anyN, O.toD, eqOk, D.plain, D.depth, D.eqv, D.flat, E.place, E.quiet, E.quiet.go, E.quietO, stEs, stE, asgT, cxK_own, cxK_cel, cxK_call, cxK_make, bindT.go, Tg.slots, Tg.slots.go, wipe, putBack, dOnly, ixN, bls_map, pures_map', pures_mapf, toDs_mapf, toDs_map', ints_map, E.keeps, isN, isL, modR, modPath, appAt]
end K48
end Py
end

section
set_option linter.all false
set_option Elab.async false
/-! QB: timetables judged, sums so far. -/
namespace Py
/-- a ratio in least terms -/
def isRat : D → Bool
  | .tup [.int a, .int b] => decide (1 ≤ b) && decide (divN [a, b] = 1)
  | _ => false
theorem isRat_enc {d : D} (h : isRat d = true) : ∃ q : Rat, d = enc q := by
  unfold isRat at h
  split at h
  · rename_i a b
    simp [divN] at h
    obtain ⟨n, rfl⟩ := Int.eq_ofNat_of_zero_le (show 0 ≤ b by omega)
    refine ⟨⟨a, n, by omega, by simpa using h.2⟩, rfl⟩
  · cases h
theorem enc_isRat (q : Rat) : isRat (enc q) = true := by
  simp only [enc, isRat, divN]
  have h1 := q.reduced
  have h2 := q.den_pos
  simp
  exact ⟨by omega, h1⟩
def isRow (n : Nat) : D → Bool
  | .tup xs => decide (xs.length = n) && xs.all isRat
  | _ => false
def notNeg : D → Bool
  | .tup (.int a :: _) => decide (0 ≤ a)
  | _ => false
def isChance (n : Nat) : D → Bool
  | .tup xs => decide (xs.length = n) && xs.all isRat && xs.all notNeg
  | _ => false
theorem rats_of : ∀ {xs : List D}, xs.all isRat = true → ∃ v : List Rat, xs = v.map enc
  | [], _ => ⟨[], rfl⟩
  | x :: xs, h => by
    simp only [List.all_cons, Bool.and_eq_true] at h
    obtain ⟨q, rfl⟩ := isRat_enc h.1
    obtain ⟨v, rfl⟩ := rats_of h.2
    exact ⟨q :: v, rfl⟩
theorem isRow_rowD {n : Nat} {d : D} (h : isRow n d = true) : ∃ v : List Rat, d = rowD v ∧ v.length = n := by
  cases d <;> simp only [isRow] at h <;> try cases h
  simp only [Bool.and_eq_true, decide_eq_true_eq] at h
  obtain ⟨v, rfl⟩ := rats_of h.2
  exact ⟨v, rfl, by simpa using h.1⟩
theorem notNeg_enc (q : Rat) : notNeg (enc q) = decide (0 ≤ q) := by
  simp only [enc, notNeg]
  rw [Bool.eq_iff_iff, decide_eq_true_eq, decide_eq_true_eq, Rat.num_nonneg]
theorem isChance_rowD {n : Nat} {d : D} (h : isChance n d = true) : ∃ v : List Rat, d = rowD v ∧ v.length = n ∧ ∀ q ∈ v, 0 ≤ q := by
  cases d <;> simp only [isChance] at h <;> try cases h
  simp only [Bool.and_eq_true, decide_eq_true_eq] at h
  obtain ⟨v, rfl⟩ := rats_of h.1.2
  refine ⟨v, rfl, by simpa using h.1.1, ?_⟩
  simpa [notNeg_enc] using h.2
theorem rowD_isChance {n : Nat} {v : List Rat} (h : v.length = n) (h2 : ∀ q ∈ v, 0 ≤ q) : isChance n (rowD v) = true := by
  simp [rowD, isChance, h, enc_isRat, notNeg_enc]
  exact h2
def isTab (n : Nat) (d : D) : Bool := isLis d && (match seqOf d with
  | some xs => decide (1 ≤ xs.length) && decide (xs.length ≤ 41) && xs.all (isChance n)
  | none => false)
theorem rows_of {n : Nat} : ∀ {xs : List D}, xs.all (isChance n) = true → ∃ S : List (List Rat), xs = S.map rowD ∧ ∀ v ∈ S, v.length = n ∧ ∀ q ∈ v, 0 ≤ q
  | [], _ => ⟨[], rfl, by simp⟩
  | x :: xs, h => by
    simp only [List.all_cons, Bool.and_eq_true] at h
    obtain ⟨q, rfl, h1⟩ := isChance_rowD h.1
    obtain ⟨v, rfl, h2⟩ := rows_of h.2
    refine ⟨q :: v, rfl, ?_⟩
    intro w hw
    rcases List.mem_cons.mp hw with rfl | hw
    · exact h1
    · exact h2 w hw
theorem isTab_rows {n : Nat} {d : D} (h : isTab n d = true) : ∃ S : List (List Rat), seqOf d = some (S.map rowD) ∧ isLis d = true ∧ 1 ≤ S.length ∧ S.length ≤ 41 ∧ ∀ v ∈ S, v.length = n ∧ ∀ q ∈ v, 0 ≤ q := by
  unfold isTab at h
  rw [Bool.and_eq_true] at h
  cases hs : seqOf d with
  | none => rw [hs] at h; exact absurd h.2 (by simp)
  | some xs =>
    rw [hs] at h
    simp only [Bool.and_eq_true, decide_eq_true_eq] at h
    obtain ⟨S, rfl, h2⟩ := rows_of h.2.2
    exact ⟨S, rfl, h.1, by simpa using h.2.1.1, by simpa using h.2.1.2, h2⟩
theorem okDs_seq {d : D} {xs : List D} (h : okD d = true) (hs : seqOf d = some xs) (hi : isLis d = true) : okDs xs = true ∧ lenOk xs.length = true ∧ bi .len [d] = some (.d (.int (xs.length : Nat))) := by
  cases d <;> try cases hi
  all_goals
    simp only [q_seq1, q_seq2, Option.some.injEq] at hs
    subst hs
    simp only [okD, Bool.and_eq_true] at h
    exact ⟨h.2, h.1, rfl⟩
theorem seq_of_lis {d : D} (hi : isLis d = true) : ∃ xs, seqOf d = some xs := by
  cases d <;> first | exact ⟨_, rfl⟩ | cases hi
theorem seq_none {d : D} (h : okD d = true) (hi : isLis d = false) : seqOf d = none := by
  cases d <;> first | rfl | cases h | cases hi
theorem isInst_tup {d : D} (h : okD d = true) : isInst d (.ty "tuple") = some (isTup d) := by
  cases d <;> first | rfl | (simp [isInst, isTy, tyNames, tyN, isTup, isLis, tyNs, anyN]; done) | cases h
theorem isInst_lis {d : D} (h : okD d = true) : isInst d (.tup [.ty "list", .ty "tuple"]) = some (isLis d) := by
  cases d <;> first | rfl | (simp [isInst, isTy, tyNames, tyN, isTup, isLis, tyNs, anyN]; done) | cases h
theorem isInst_lis' {d : D} (h : okD d = true) : isInst d (.tup [.ty "tuple", .ty "list"]) = some (isLis d) := by
  cases d <;> first | rfl | (simp [isInst, isTy, tyNames, tyN, isTup, isLis, tyNs, anyN]; done) | cases h
namespace K48
variable {sto : List O}
theorem v_is_ratio {d : D} (h : okD d = true) {m : Nat} (hm : 2 ≤ m) : callD loop prog m 9 [d] sto = some (.d (.bl (isRat d)), sto) := by
  obtain ⟨k, rfl⟩ : ∃ k, m = k + 2 := ⟨m - 2, by omega⟩
  refine ends_eq (run_def (d := d_is_ratio) rfl rfl ?_)
  by_cases ht : isTup d = true
  · cases d <;> try cases ht
    rename_i xs
    by_cases hl : xs.length = 2
    · rcases xs with _ | ⟨x, _ | ⟨y, _ | ⟨z, xs⟩⟩⟩ <;> try (exfalso; simp at hl; done)
      simp only [okD, okDs, Bool.and_eq_true] at h
      have hx := h.2.1
      have hy := h.2.2.1
      by_cases nx : isNum x = true
      · by_cases ny : isNum y = true
        · cases x <;> try cases nx
          cases y <;> try cases ny
          rename_i a b
          have hv : callD loop prog (k + 1) 5 [.tup [.int a, .int b]] sto = some (.d (.int (divN [a, b] : Nat)), sto) := v_divisor (ns := [a, b]) rfl (by omega)
          simp [d_is_ratio, v_is_number, isNum, hv, start, O.isD, O.flat, isInst, isTy, tyNames, tyN, tyNs, anyN, O.toD, eqOk, D.plain, D.depth, D.eqv, D.flat, E.place, E.quiet, E.quiet.go, E.quietO, stEs, stE, asgT, cxK_own, cxK_cel, cxK_call, cxK_make, bindT.go, Tg.slots, Tg.slots.go, wipe, putBack, dOnly, ixN, bls_map, pures_map', pures_mapf, toDs_mapf, toDs_map', ints_map, E.keeps, isN, isL, modR, modPath, appAt, isRat]
          by_cases hb : 1 ≤ b
          · simp [hb]
            by_cases hq : divN [a, b] = 1
            · simp [hq]
              exact hb
            · have : (((divN [a, b] : Nat) : Int) == 1) = false := by simpa using (by omega : ((divN [a, b] : Nat) : Int) ≠ 1)
              simp [hq, this]
          · simp [hb]
        · have hn : isRat (.tup [x, y]) = false := by
            cases x <;> try rfl
            cases y <;> first | rfl | exact absurd rfl ny
          simp [d_is_ratio, v_is_number, nx, ny, hx, hy, start, O.isD, O.flat, isInst, isTy, tyNames, tyN, tyNs, anyN, O.toD, eqOk, D.plain, D.depth, D.eqv, D.flat, E.place, E.quiet, E.quiet.go, E.quietO, stEs, stE, asgT, cxK_own, cxK_cel, cxK_call, cxK_make, bindT.go, Tg.slots, Tg.slots.go, wipe, putBack, dOnly, ixN, bls_map, pures_map', pures_mapf, toDs_mapf, toDs_map', ints_map, E.keeps, isN, isL, modR, modPath, appAt, hn]
      · have hn : isRat (.tup [x, y]) = false := by
          cases x <;> first | rfl | exact absurd rfl nx
        simp [d_is_ratio, v_is_number, nx, hx, start, O.isD, O.flat, isInst, isTy, tyNames, tyN, tyNs, anyN, O.toD, eqOk, D.plain, D.depth, D.eqv, D.flat, E.place, E.quiet, E.quiet.go, E.quietO, stEs, stE, asgT, cxK_own, cxK_cel, cxK_call, cxK_make, bindT.go, Tg.slots, Tg.slots.go, wipe, putBack, dOnly, ixN, bls_map, pures_map', pures_mapf, toDs_mapf, toDs_map', ints_map, E.keeps, isN, isL, modR, modPath, appAt, hn]
    · have hn : isRat (.tup xs) = false := by
        rcases xs with _ | ⟨x, _ | ⟨y, _ | ⟨z, xs⟩⟩⟩
        · rfl
        · cases x <;> rfl
        · exact absurd rfl hl
        · cases x <;> first | rfl | (cases y <;> rfl)
      have : ((xs.length : Int) == 2) = false := by simpa using (by omega : (xs.length : Int) ≠ 2)
      have h3 : (xs.length : Int) ≠ 2 := by omega
      simp [d_is_ratio, start, O.isD, O.flat, isInst, isTy, tyNames, tyN, tyNs, anyN, O.toD, eqOk, D.plain, D.depth, D.eqv, D.flat, E.place, E.quiet, E.quiet.go, E.quietO, stEs, stE, asgT, cxK_own, cxK_cel, cxK_call, cxK_make, bindT.go, Tg.slots, Tg.slots.go, wipe, putBack, dOnly, ixN, bls_map, pures_map', pures_mapf, toDs_mapf, toDs_map', ints_map, E.keeps, isN, isL, modR, modPath, appAt, hn, this, h3]
  · have hn : isRat d = false := by
      cases d <;> first | rfl | exact absurd rfl ht
    have hc := noCell_ok h
    simp [d_is_ratio, start, O.isD, O.flat, O.toD, eqOk, D.plain, D.depth, D.eqv, D.flat, E.place, E.quiet, E.quiet.go, E.quietO, stEs, stE, asgT, cxK_own, cxK_cel, cxK_call, cxK_make, bindT.go, Tg.slots, Tg.slots.go, wipe, putBack, dOnly, ixN, bls_map, pures_map', pures_mapf, toDs_mapf, toDs_map', ints_map, E.keeps, isN, isL, modR, modPath, appAt, hc, isInst_tup h, ht, hn]
theorem v_is_ratio_row {d : D} {n : Nat} (h : okD d = true) {m : Nat} (hm : 3 ≤ m) : callD loop prog m 25 [.int (n : Nat), d] sto = some (.d (.bl (isRow n d)), sto) := by
  obtain ⟨k, rfl⟩ : ∃ k, m = k + 3 := ⟨m - 3, by omega⟩
  refine ends_eq (run_def (d := d_is_ratio_row) rfl rfl ?_)
  have hc := noCell_ok h
  simp [d_is_ratio_row, start, O.isD, O.flat, O.toD, eqOk, D.plain, D.depth, D.eqv, D.flat, E.place, E.quiet, E.quiet.go, E.quietO, stEs, stE, asgT, cxK_own, cxK_cel, cxK_call, cxK_make, bindT.go, Tg.slots, Tg.slots.go, wipe, putBack, dOnly, ixN, bls_map, pures_map', pures_mapf, toDs_mapf, toDs_map', ints_map, E.keeps, isN, isL, modR, modPath, appAt, hc, isInst_tup h]
  cases d <;> simp [isTup, isRow, start, O.isD, O.flat, O.toD, eqOk, D.plain, D.depth, D.eqv, D.flat, E.place, E.quiet, E.quiet.go, E.quietO, stEs, stE, asgT, cxK_own, cxK_cel, cxK_call, cxK_make, bindT.go, Tg.slots, Tg.slots.go, wipe, putBack, dOnly, ixN, bls_map, pures_map', pures_mapf, toDs_mapf, toDs_map', ints_map, E.keeps, isN, isL, modR, modPath, appAt]
  rename_i xs
  simp only [okD, Bool.and_eq_true] at h
  refine ⟨fun e e' => absurd (show (xs.length : Int) = (n : Int) by omega) e, fun e => ?_⟩
  refine run_map xs id (fun x => .bl (isRat x)) ?_
  simp [start, O.isD, O.flat, O.toD, eqOk, D.plain, D.depth, D.eqv, D.flat, E.place, E.quiet, E.quiet.go, E.quietO, stEs, stE, asgT, cxK_own, cxK_cel, cxK_call, cxK_make, bindT.go, Tg.slots, Tg.slots.go, wipe, putBack, dOnly, ixN, bls_map, pures_map', pures_mapf, toDs_mapf, toDs_map', ints_map, E.keeps, isN, isL, modR, modPath, appAt, h.1]
  refine ⟨fun x hx => by simp [v_is_ratio (okDs_mem h.2 x hx), start, O.isD, O.flat, O.toD, eqOk, D.plain, D.depth, D.eqv, D.flat, E.place, E.quiet, E.quiet.go, E.quietO, stEs, stE, asgT, cxK_own, cxK_cel, cxK_call, cxK_make, bindT.go, Tg.slots, Tg.slots.go, wipe, putBack, dOnly, ixN, bls_map, pures_map', pures_mapf, toDs_mapf, toDs_map', ints_map, E.keeps, isN, isL, modR, modPath, appAt], ?_⟩
  have : xs.length = n := by omega
  simp [bls_map, this]
theorem v_is_chance_tuple {d : D} {n : Nat} (h : okD d = true) {m : Nat} (hm : 4 ≤ m) : callD loop prog m 26 [.int (n : Nat), d] sto = some (.d (.bl (isChance n d)), sto) := by
  obtain ⟨k, rfl⟩ : ∃ k, m = k + 4 := ⟨m - 4, by omega⟩
  refine ends_eq (run_def (d := d_is_chance_tuple) rfl rfl ?_)
  have hc := noCell_ok h
  simp [d_is_chance_tuple, start, O.isD, O.flat, O.toD, eqOk, D.plain, D.depth, D.eqv, D.flat, E.place, E.quiet, E.quiet.go, E.quietO, stEs, stE, asgT, cxK_own, cxK_cel, cxK_call, cxK_make, bindT.go, Tg.slots, Tg.slots.go, wipe, putBack, dOnly, ixN, bls_map, pures_map', pures_mapf, toDs_mapf, toDs_map', ints_map, E.keeps, isN, isL, modR, modPath, appAt, v_is_ratio_row h]
  refine ⟨fun e => ?_, fun e => ?_⟩
  · cases d <;> simp [isRow, isChance] at e ⊢
    intro e1 e2
    obtain ⟨x, hx, h2⟩ := e e1
    exact absurd (e2 x hx) (by simp [h2])
  · obtain ⟨v, rfl, hv⟩ := isRow_rowD e
    simp only [rowD] at *
    refine run_map v enc (fun q => .bl (decide (0 ≤ q))) ?_
    simp only [okD, Bool.and_eq_true] at h
    have hl : lenOk v.length = true := by simpa using h.1
    simp [start, O.isD, O.flat, O.toD, eqOk, D.plain, D.depth, D.eqv, D.flat, E.place, E.quiet, E.quiet.go, E.quietO, stEs, stE, asgT, cxK_own, cxK_cel, cxK_call, cxK_make, bindT.go, Tg.slots, Tg.slots.go, wipe, putBack, dOnly, ixN, bls_map, pures_map', pures_mapf, toDs_mapf, toDs_map', ints_map, E.keeps, isN, isL, modR, modPath, appAt, hl, Rat.num_nonneg, bls_map]
    simp [isChance, enc_isRat, notNeg_enc, hv]
    have f1 : (isRat ∘ enc) = fun _ => true := funext enc_isRat
    have f2 : (notNeg ∘ enc) = fun q => decide (0 ≤ q) := funext notNeg_enc
    rw [f1, f2]
    simp
theorem v_is_timetable {d : D} {n : Nat} (h : okD d = true) {m : Nat} (hm : 5 ≤ m) : callD loop prog m 27 [.int (n : Nat), d] sto = some (.d (.bl (isTab n d)), sto) := by
  obtain ⟨k, rfl⟩ : ∃ k, m = k + 5 := ⟨m - 5, by omega⟩
  refine ends_eq (run_def (d := d_is_timetable) rfl rfl ?_)
  have hc := noCell_ok h
  by_cases hi : isLis d = true
  · obtain ⟨xs, hs⟩ := seq_of_lis hi
    obtain ⟨h1, h2, h3⟩ := okDs_seq h hs hi
    by_cases hb : 1 ≤ xs.length ∧ xs.length ≤ 41
    · have q1 : (1 : Int) ≤ (xs.length : Int) := by omega
      have q2 : (xs.length : Int) ≤ 41 := by omega
      have q3 : ¬ ((xs.length : Int) < 1) := by omega
      simp [d_is_timetable, start, O.isD, O.flat, O.toD, eqOk, D.plain, D.depth, D.eqv, D.flat, E.place, E.quiet, E.quiet.go, E.quietO, stEs, stE, asgT, cxK_own, cxK_cel, cxK_call, cxK_make, bindT.go, Tg.slots, Tg.slots.go, wipe, putBack, dOnly, ixN, bls_map, pures_map', pures_mapf, toDs_mapf, toDs_map', ints_map, E.keeps, isN, isL, modR, modPath, appAt, v_is_list h, hi, hc, h3, q1, q2, q3]
      refine run_map xs id (fun x => .bl (isChance n x)) ?_
      simp [start, O.isD, O.flat, O.toD, eqOk, D.plain, D.depth, D.eqv, D.flat, E.place, E.quiet, E.quiet.go, E.quietO, stEs, stE, asgT, cxK_own, cxK_cel, cxK_call, cxK_make, bindT.go, Tg.slots, Tg.slots.go, wipe, putBack, dOnly, ixN, bls_map, pures_map', pures_mapf, toDs_mapf, toDs_map', ints_map, E.keeps, isN, isL, modR, modPath, appAt, hc, hs, h2]
      refine ⟨fun x hx => by simp [v_is_chance_tuple (okDs_mem h1 x hx), start, O.isD, O.flat, O.toD, eqOk, D.plain, D.depth, D.eqv, D.flat, E.place, E.quiet, E.quiet.go, E.quietO, stEs, stE, asgT, cxK_own, cxK_cel, cxK_call, cxK_make, bindT.go, Tg.slots, Tg.slots.go, wipe, putBack, dOnly, ixN, bls_map, pures_map', pures_mapf, toDs_mapf, toDs_map', ints_map, E.keeps, isN, isL, modR, modPath, appAt], ?_⟩
      simp [bls_map, isTab, hi, hs, hb.1, hb.2]
    · have hn : isTab n d = false := by
        simp only [isTab, hi, hs]
        by_cases h4 : 1 ≤ xs.length <;> by_cases h5 : xs.length ≤ 41 <;> simp [h4, h5]
        exact absurd ⟨h4, h5⟩ hb
      by_cases h4 : 1 ≤ xs.length
      · have q1 : (1 : Int) ≤ (xs.length : Int) := by omega
        have q2 : ¬ ((xs.length : Int) ≤ 41) := by omega
        have q3 : ¬ ((xs.length : Int) < 1) := by omega
        have q4 : (41 : Int) < (xs.length : Int) := by omega
        simp [d_is_timetable, start, O.isD, O.flat, O.toD, eqOk, D.plain, D.depth, D.eqv, D.flat, E.place, E.quiet, E.quiet.go, E.quietO, stEs, stE, asgT, cxK_own, cxK_cel, cxK_call, cxK_make, bindT.go, Tg.slots, Tg.slots.go, wipe, putBack, dOnly, ixN, bls_map, pures_map', pures_mapf, toDs_mapf, toDs_map', ints_map, E.keeps, isN, isL, modR, modPath, appAt, v_is_list h, hi, hc, h3, q1, q2, q3, q4, hn]
      · have q1 : ¬ ((1 : Int) ≤ (xs.length : Int)) := by omega
        have q3 : ((xs.length : Int) < 1) := by omega
        simp [d_is_timetable, start, O.isD, O.flat, O.toD, eqOk, D.plain, D.depth, D.eqv, D.flat, E.place, E.quiet, E.quiet.go, E.quietO, stEs, stE, asgT, cxK_own, cxK_cel, cxK_call, cxK_make, bindT.go, Tg.slots, Tg.slots.go, wipe, putBack, dOnly, ixN, bls_map, pures_map', pures_mapf, toDs_mapf, toDs_map', ints_map, E.keeps, isN, isL, modR, modPath, appAt, v_is_list h, hi, hc, h3, q1, q3, hn]
  · have hn : isTab n d = false := by simp [isTab, hi]
    simp [d_is_timetable, start, O.isD, O.flat, O.toD, eqOk, D.plain, D.depth, D.eqv, D.flat, E.place, E.quiet, E.quiet.go, E.quietO, stEs, stE, asgT, cxK_own, cxK_cel, cxK_call, cxK_make, bindT.go, Tg.slots, Tg.slots.go, wipe, putBack, dOnly, ixN, bls_map, pures_map', pures_mapf, toDs_mapf, toDs_map', ints_map, E.keeps, isN, isL, modR, modPath, appAt, v_is_list h, hi, hc, hn]
end K48
end Py
end

section
set_option linter.all false
set_option Elab.async false
/-! QC: what comes and goes. -/
namespace Py
theorem totalR_snoc (l : List Rat) (x : Rat) : totalR (l ++ [x]) = totalR l + x := by simp [totalR]
theorem totalR_Sg (l : List Rat) : totalR l = Sg l.length fun i => l[i]?.getD 0 := by
  have key : ∀ n, n ≤ l.length → totalR (l.take n) = Sg n fun i => l[i]?.getD 0 := by
    intro n
    induction n with
    | zero => intro _; simp [totalR, Sg]
    | succ n ih =>
      intro hn
      rw [Sg, ← ih (by omega), List.take_succ, List.getElem?_eq_getElem (by omega)]
      simp only [Option.toList_some, totalR_snoc, Option.getD_some]
  have := key l.length (Nat.le_refl _)
  rwa [List.take_length] at this
theorem chance_frac {rows : List (Nat × List Nat)} (h : ROk rows) {i j : Nat} (hi : i < rows.length) : (∃ z : Int, chance rows i j * (totR rows : Rat) = (z : Rat)) ∧ 0 ≤ chance rows i j ∧ chance rows i j ≤ 1 := by
  have hr := h.row _ (List.getElem_mem hi)
  obtain ⟨q, hq⟩ := (totR_spec h).2.2 _ (List.getElem_mem hi)
  simp only [chance, List.getElem?_eq_getElem hi, Option.getD_some]
  have hle : (rows[i]).2[j]?.getD 0 ≤ (rows[i]).1 := by
    cases hx : (rows[i]).2[j]? with
    | none => simp
    | some n => exact Nat.le_trans (mem_le_sum (List.mem_of_getElem? hx)) (Nat.le_of_eq hr.2.2.2)
  refine ⟨⟨(((rows[i]).2[j]?.getD 0 * q : Nat) : Int), ?_⟩, mkRat_nonneg _ _, mkRat_le_one hr.1 hle⟩
  have f := mkRat_frac (n := (rows[i]).2[j]?.getD 0) hr.1
  rw [hq]
  push_cast
  rw [← f]
  grind
theorem step_at {rows : List (Nat × List Nat)} {v : List Rat} {j : Nat} (hj : j < rows.length) : (stepV rows v)[j]?.getD 0 = Sg rows.length fun i => v[i]?.getD 0 * chance rows i j := by
  simp [stepV, hj]
theorem step_len {rows : List (Nat × List Nat)} {v : List Rat} : (stepV rows v).length = rows.length := by simp [stepV]
/-- all items over N, up to B -/
def GL (N B : Nat) (v : List Rat) : Prop := ∀ q ∈ v, G N B q
theorem GL_at {N B : Nat} {v : List Rat} (h : GL N B v) (i : Nat) : G N B (v[i]?.getD 0) := by
  cases hx : v[i]? with
  | none => exact G_zero
  | some q => exact h q (List.mem_of_getElem? hx)
theorem G_Sg {N B : Nat} {f : Nat → Rat} : ∀ {n : Nat}, (∀ i, i < n → G N B (f i)) → G N (n * B) (Sg n f)
  | 0, _ => by rw [Nat.zero_mul]; exact G_zero
  | n + 1, h => by
    have := G_add (G_Sg (n := n) fun i hi => h i (by omega)) (h n (by omega))
    rw [Sg, Nat.add_mul, Nat.one_mul]
    exact this
theorem GL_step {rows : List (Nat × List Nat)} (h : ROk rows) {N B : Nat} {v : List Rat} (hv : GL N B v) : GL (N * totR rows) (8 * B) (stepV rows v) := by
  intro q hq
  obtain ⟨j, hj, rfl⟩ := List.mem_map.mp hq
  refine G_mono (G_Sg fun i hi => ?_) (Nat.mul_le_mul_right _ h.many.2)
  obtain ⟨c1, c2, c3⟩ := chance_frac h (i := i) (j := j) hi
  exact G_mul (GL_at hv i) c1 c2 c3
def subV (a b : List Rat) : List Rat := (a.zip b).map fun z => z.1 - z.2
theorem GL_sub {N B B' : Nat} {a b : List Rat} (ha : GL N B a) (hb : GL N B' b) : GL N (B + B') (subV a b) := by
  intro q hq
  obtain ⟨z, hz, rfl⟩ := List.mem_map.mp hq
  have := List.of_mem_zip (a := z.1) (b := z.2) hz
  exact G_sub (ha _ this.1) (hb _ this.2)
theorem GL_scale {N M B : Nat} {v : List Rat} (h : GL N B v) : GL (N * M) B v := fun q hq => G_scale (h q hq)
theorem GL_mono {N B B' : Nat} {v : List Rat} (h : GL N B v) (hb : B ≤ B') : GL N B' v := fun q hq => G_mono (h q hq) hb
theorem sub_len {a b : List Rat} (h : b.length = a.length) : (subV a b).length = a.length := by simp [subV, h]
/-- what comes and what goes on, moment by moment -/
def goL (rows : List (Nat × List Nat)) : List (List Rat) → List Rat → List (List Rat × List Rat)
  | [], _ => []
  | s :: l, h => (h, subV h s) :: goL rows l (stepV rows (subV h s))
theorem snoc_ind {α : Type} {P : List α → Prop} (h0 : P []) (h1 : ∀ l x, P l → P (l ++ [x])) : ∀ l, P l := by
  have key : ∀ l : List α, P l.reverse := by
    intro l
    induction l with
    | nil => exact h0
    | cons x l ih => rw [List.reverse_cons]; exact h1 _ _ ih
  intro l
  have := key l.reverse
  rwa [List.reverse_reverse] at this
def hereL (rows : List (Nat × List Nat)) : List (List Rat) → List Rat → List Rat
  | [], h => h
  | s :: l, h => hereL rows l (stepV rows (subV h s))
theorem goL_snoc {rows : List (Nat × List Nat)} : ∀ (l : List (List Rat)) (s h : List Rat), goL rows (l ++ [s]) h = goL rows l h ++ [(hereL rows l h, subV (hereL rows l h) s)]
  | [], s, h => rfl
  | a :: l, s, h => by rw [List.cons_append, goL, goL, hereL, goL_snoc l s]; rfl
theorem goL_len {rows : List (Nat × List Nat)} : ∀ (l : List (List Rat)) (h : List Rat), (goL rows l h).length = l.length
  | [], _ => rfl
  | s :: l, h => by rw [goL, List.length_cons, goL_len l, List.length_cons]
theorem hereL_snoc {rows : List (Nat × List Nat)} : ∀ (l : List (List Rat)) (s h : List Rat), hereL rows (l ++ [s]) h = stepV rows (subV (hereL rows l h) s)
  | [], s, h => rfl
  | a :: l, s, h => by rw [List.cons_append, hereL, hereL, hereL_snoc l s]
theorem hereL_G {rows : List (Nat × List Nat)} (hR : ROk rows) {N : Nat} {h : List Rat} (hh : GL N 1 h) (hl : h.length = rows.length) : ∀ (l : List (List Rat)) (_ : ∀ s ∈ l, GL N 4 s ∧ s.length = rows.length),
    GL (N * totR rows ^ l.length) (2 ^ (6 * l.length)) (hereL rows l h) ∧ (hereL rows l h).length = rows.length := by
  intro l
  induction l using snoc_ind with
  | h0 => intro _; exact ⟨by simpa [hereL] using hh, hl⟩
  | h1 l s ih =>
    intro hs
    obtain ⟨h1, h2⟩ := ih fun s' hs' => hs s' (by simp [hs'])
    have h3 := hs s (by simp)
    rw [hereL_snoc]
    refine ⟨?_, step_len⟩
    have := GL_step hR (GL_sub h1 (GL_scale (M := totR rows ^ l.length) h3.1))
    rw [List.length_append, List.length_singleton, Nat.pow_succ, ← Nat.mul_assoc]
    refine GL_mono this ?_
    have e : 2 ^ (6 * (l.length + 1)) = 64 * 2 ^ (6 * l.length) := by rw [Nat.mul_add, Nat.pow_add, Nat.mul_comm]
    rw [e]
    have : 0 < 2 ^ (6 * l.length) := Nat.pow_pos (by decide)
    omega
/-- nowhere less than nothing goes on -/
def posB (rows : List (Nat × List Nat)) (l : List (List Rat)) (h : List Rat) : Bool := (goL rows l h).all fun z => z.2.all fun q => decide (0 ≤ q)
namespace K48
variable {sto : List O}
theorem v_behind_step {rows : List (Nat × List Nat)} (h : ROk rows) {N B : Nat} {v : List Rat} (hv : GL N B v) (hl : v.length = rows.length) (hR : Room (N * totR rows) (8 * B)) {m : Nat} (hm : 5 ≤ m) :
    callD loop prog m 29 [walkD rows, .lst (v.map enc)] sto = some (.lst ((stepV rows v).map fun q => .d (enc q)), sto) := by
  obtain ⟨k, rfl⟩ : ∃ k, m = k + 5 := ⟨m - 5, by omega⟩
  have h2 := h.many.2
  have ht := totR_spec h
  have hr : itk .range [.int (rows.length : Nat)] = some ((List.range rows.length).map fun (j : Nat) => .int (j : Int)) := q_range (by omega)
  have hN : 0 < N := Nat.pos_of_mul_pos_right hR.pos
  have hRN : Room N (8 * B) := ⟨hN, Nat.lt_of_le_of_lt (Nat.le_mul_of_pos_right _ ht.1) hR.den, Nat.lt_of_le_of_lt (Nat.mul_le_mul_left _ (Nat.le_mul_of_pos_right _ ht.1)) hR.num⟩
  refine ends_eq (run_def (d := d_behind_step) rfl rfl ?_)
  simp [d_behind_step, start, O.isD, O.flat, isInst, isTy, tyNames, tyN, tyNs, anyN, O.toD, eqOk, D.plain, D.depth, D.eqv, D.flat, E.place, E.quiet, E.quiet.go, E.quietO, stEs, stE, asgT, cxK_own, cxK_cel, cxK_call, cxK_make, bindT.go, Tg.slots, Tg.slots.go, wipe, putBack, dOnly, ixN, bls_map, pures_map', pures_mapf, toDs_mapf, toDs_map', ints_map, E.keeps, isN, isL, modR, modPath, appAt]
  refine run_for (List.range rows.length) (fun j => .int (j : Nat)) (fun done s => ∃ x3 x4, s = ⟨[some (.d (walkD rows)), some (.d (.lst (v.map enc))), some (.lst ((List.range done.length).map fun j => .d (enc (Sg rows.length fun i => v[i]?.getD 0 * chance rows i j)))), x3, x4, none, none], sto⟩) ?_ ?_ ?_
  · simp [start, O.isD, O.flat, isInst, isTy, tyNames, tyN, tyNs, anyN, O.toD, eqOk, D.plain, D.depth, D.eqv, D.flat, E.place, E.quiet, E.quiet.go, E.quietO, stEs, stE, asgT, cxK_own, cxK_cel, cxK_call, cxK_make, bindT.go, Tg.slots, Tg.slots.go, wipe, putBack, dOnly, ixN, bls_map, pures_map', pures_mapf, toDs_mapf, toDs_map', ints_map, E.keeps, isN, isL, modR, modPath, appAt, hr]
  · rintro done x rest e s ⟨x3, x4, rfl⟩
    have hx : x = done.length := by
      have := congrArg (fun l => l[done.length]?) e
      simp at this
      have hlt : done.length < rows.length := by
        have := congrArg List.length e
        simp at this; omega
      rw [List.getElem?_eq_getElem (by simpa using hlt)] at this
      simpa using this.symm
    have hd : done.length < rows.length := by
      have := congrArg List.length e
      simp at this; omega
    subst hx
    have hz : (v.zip rows).length = rows.length := by simp [hl]
    have q6 : lenOk (min v.length rows.length) = true := lenOk_of (by omega)
    simp [start, O.isD, O.flat, isInst, isTy, tyNames, tyN, tyNs, anyN, O.toD, eqOk, D.plain, D.depth, D.eqv, D.flat, E.place, E.quiet, E.quiet.go, E.quietO, stEs, stE, asgT, cxK_own, cxK_cel, cxK_call, cxK_make, bindT.go, Tg.slots, Tg.slots.go, wipe, putBack, dOnly, ixN, bls_map, pures_map', pures_mapf, toDs_mapf, toDs_map', ints_map, E.keeps, isN, isL, modR, modPath, appAt]
    refine run_map (v.zip rows) (fun z => .tup [enc z.1, pD z.2]) (fun z => enc (z.1 * mkRat ((z.2.2[done.length]?.getD 0 : Nat) : Int) z.2.1)) ?_
    simp [start, O.isD, O.flat, isInst, isTy, tyNames, tyN, tyNs, anyN, O.toD, eqOk, D.plain, D.depth, D.eqv, D.flat, E.place, E.quiet, E.quiet.go, E.quietO, stEs, stE, asgT, cxK_own, cxK_cel, cxK_call, cxK_make, bindT.go, Tg.slots, Tg.slots.go, wipe, putBack, dOnly, ixN, bls_map, pures_map', pures_mapf, toDs_mapf, toDs_map', ints_map, E.keeps, isN, isL, modR, modPath, appAt, rowsD, zip_maps, q6]
    have hmem : ∀ z ∈ v.zip rows, z.1 ∈ v ∧ z.2 ∈ rows := fun z hz => List.of_mem_zip (a := z.1) (b := z.2) hz
    have hch : ∀ r ∈ rows, G (totR rows) 1 (mkRat ((r.2[done.length]?.getD 0 : Nat) : Int) r.1) ∧ 0 ≤ mkRat ((r.2[done.length]?.getD 0 : Nat) : Int) r.1 ∧ mkRat ((r.2[done.length]?.getD 0 : Nat) : Int) r.1 ≤ 1 := by
      intro r hr
      obtain ⟨i, hi, rfl⟩ := List.getElem_of_mem hr
      obtain ⟨c1, c2, c3⟩ := chance_frac h (i := i) (j := done.length) hi
      simp only [chance, List.getElem?_eq_getElem hi, Option.getD_some] at c1 c2 c3
      refine ⟨⟨c1, ?_, ?_⟩, c2, c3⟩ <;> push_cast <;> grind
    have hRT : Room (totR rows) 1 := by
      have := pow_bigA (b := 80) (by decide)
      exact ⟨ht.1, by omega, by omega⟩
    have hparts : GL (N * totR rows) B ((v.zip rows).map fun z => z.1 * mkRat ((z.2.2[done.length]?.getD 0 : Nat) : Int) z.2.1) := by
      intro q hq
      obtain ⟨z, hz, rfl⟩ := List.mem_map.mp hq
      obtain ⟨c1, c2, c3⟩ := hch z.2 (hmem z hz).2
      exact G_mul (hv z.1 (hmem z hz).1) c1.1 c2 c3
    have htot := v_total_of (sto := sto) (m := k + 4) (d := .lst (((v.zip rows).map fun z => z.1 * mkRat ((z.2.2[done.length]?.getD 0 : Nat) : Int) z.2.1).map enc)) (l := (v.zip rows).map fun z => z.1 * mkRat ((z.2.2[done.length]?.getD 0 : Nat) : Int) z.2.1) (N := N * totR rows) (B := B) rfl (hR.le (by rw [List.length_map, hz]; exact Nat.mul_le_mul_right _ h2)) (hR.le (by omega)) hparts (by omega)
    have hval : totalR ((v.zip rows).map fun z => z.1 * mkRat ((z.2.2[done.length]?.getD 0 : Nat) : Int) z.2.1) = Sg rows.length fun i => v[i]?.getD 0 * chance rows i done.length := by
      rw [totalR_Sg, List.length_map, hz]
      refine Sg_congr fun i hi => ?_
      have h3 : i < v.length := by omega
      rw [List.getElem?_eq_getElem (by simp; omega)]
      simp [chance, List.getElem?_eq_getElem hi, List.getElem?_eq_getElem h3]
    rw [hval] at htot
    simp [Function.comp_def] at htot
    refine ⟨fun a a1 b hab => ?_, ?_⟩
    · obtain ⟨m1, m2⟩ := hmem _ hab
      simp only at m1 m2
      have hr := h.row _ m2
      simp only at hr
      obtain ⟨c1, c2, c3⟩ := hch _ m2
      have g1 := item_tup (fun n : Nat => D.int (n : Nat)) b 0 (j := done.length) (by omega)
      have g2 := v_ratio_of (sto := sto) (m := k + 4) (a := ((b[done.length]?.getD 0 : Nat) : Int)) (b := (a1 : Int)) (by have := hr.1; omega) (by simpa using Nat.lt_trans (Nat.lt_of_le_of_lt hr.2.1 (pow_bigA (by decide))) bigAB) (by omega)
      have g3 := v_product_of (sto := sto) (m := k + 4) ((hRN.le (by omega)).sm (hv a m1)) (hRT.sm c1) (by omega)
      simp at g2
      simp [start, O.isD, O.flat, isInst, isTy, tyNames, tyN, tyNs, anyN, O.toD, eqOk, D.plain, D.depth, D.eqv, D.flat, E.place, E.quiet, E.quiet.go, E.quietO, stEs, stE, asgT, cxK_own, cxK_cel, cxK_call, cxK_make, bindT.go, Tg.slots, Tg.slots.go, wipe, putBack, dOnly, ixN, bls_map, pures_map', pures_mapf, toDs_mapf, toDs_map', ints_map, E.keeps, isN, isL, modR, modPath, appAt, g1, g2, g3]
    · have q5 : lenOk (done.length + 1) = true := lenOk_of (by omega)
      simp [start, O.isD, O.flat, isInst, isTy, tyNames, tyN, tyNs, anyN, O.toD, eqOk, D.plain, D.depth, D.eqv, D.flat, E.place, E.quiet, E.quiet.go, E.quietO, stEs, stE, asgT, cxK_own, cxK_cel, cxK_call, cxK_make, bindT.go, Tg.slots, Tg.slots.go, wipe, putBack, dOnly, ixN, bls_map, pures_map', pures_mapf, toDs_mapf, toDs_map', ints_map, E.keeps, isN, isL, modR, modPath, appAt, htot, q5]
      rw [List.range_succ]
      simp
  · rintro s ⟨x3, x4, rfl⟩
    simp [start, O.isD, O.flat, isInst, isTy, tyNames, tyN, tyNs, anyN, O.toD, eqOk, D.plain, D.depth, D.eqv, D.flat, E.place, E.quiet, E.quiet.go, E.quietO, stEs, stE, asgT, cxK_own, cxK_cel, cxK_call, cxK_make, bindT.go, Tg.slots, Tg.slots.go, wipe, putBack, dOnly, ixN, bls_map, pures_map', pures_mapf, toDs_mapf, toDs_map', ints_map, E.keeps, isN, isL, modR, modPath, appAt, stepV]
theorem v_comes_and_goes {rows : List (Nat × List Nat)} (h : ROk rows) {N b : Nat} {p : Nat × List Nat} {d : D} {S : List (List Rat)} (hp : POk b p) (hb : b ≤ 3000) (hl : p.2.length = rows.length) (hG : GL N 1 (valP p)) (hS : ∀ s ∈ S, GL N 4 s ∧ s.length = rows.length)
    (hd : seqOf d = some (S.map rowD)) (hlen : S.length ≤ 41) (hR : Room (N * totR rows ^ S.length) (2 ^ (6 * S.length + 6))) {m : Nat} (hm : 6 ≤ m) :
    callD loop prog m 30 [walkD rows, pD p, d] sto = some (.lst ((goL rows S (valP p)).map fun z => .d (.tup [.lst (z.1.map enc), .lst (z.2.map enc)])), sto) := by
  obtain ⟨k, rfl⟩ : ∃ k, m = k + 6 := ⟨m - 6, by omega⟩
  have h2 := h.many.2
  have ht := totR_spec h
  have hn : noCell (.d d) = true := by cases d <;> first | rfl | cases hd
  refine ends_eq (run_def (d := d_comes_and_goes) rfl rfl ?_)
  simp [d_comes_and_goes, start, O.isD, O.flat, isInst, isTy, tyNames, tyN, tyNs, anyN, O.toD, eqOk, D.plain, D.depth, D.eqv, D.flat, E.place, E.quiet, E.quiet.go, E.quietO, stEs, stE, asgT, cxK_own, cxK_cel, cxK_call, cxK_make, bindT.go, Tg.slots, Tg.slots.go, wipe, putBack, dOnly, ixN, bls_map, pures_map', pures_mapf, toDs_mapf, toDs_map', ints_map, E.keeps, isN, isL, modR, modPath, appAt, v_ratios_of hp hb (by omega)]
  refine run_for S rowD (fun done s => ∃ x5 x6, s = ⟨[some (.d (walkD rows)), some (.d (pD p)), some (.d d), some (.d (.lst ((hereL rows done (valP p)).map enc))), some (.lst ((goL rows done (valP p)).map fun z => .d (.tup [.lst (z.1.map enc), .lst (z.2.map enc)]))), x5, x6, none, none], sto⟩) ?_ ?_ ?_
  · simp [start, O.isD, O.flat, isInst, isTy, tyNames, tyN, tyNs, anyN, O.toD, eqOk, D.plain, D.depth, D.eqv, D.flat, E.place, E.quiet, E.quiet.go, E.quietO, stEs, stE, asgT, cxK_own, cxK_cel, cxK_call, cxK_make, bindT.go, Tg.slots, Tg.slots.go, wipe, putBack, dOnly, ixN, bls_map, pures_map', pures_mapf, toDs_mapf, toDs_map', ints_map, E.keeps, isN, isL, modR, modPath, appAt, hn, hd, hereL, goL]
  · rintro done x rest e s ⟨x5, x6, rfl⟩
    have hd : done.length < S.length := by
      have := congrArg List.length e
      simp at this; omega
    obtain ⟨g1, g2⟩ := hereL_G h hG (by rw [val_len, hl]) done fun s hs => hS s (by rw [e]; simp [hs])
    have g3 := hS x (by rw [e]; simp)
    have hpw : N * totR rows ^ done.length * totR rows ≤ N * totR rows ^ S.length := by
      rw [Nat.mul_assoc, ← Nat.pow_succ]
      exact Nat.mul_le_mul_left _ (Nat.pow_le_pow_right ht.1 hd)
    have hN0 : 0 < N * totR rows ^ done.length := by
      have : 0 < N := Nat.pos_of_mul_pos_right hR.pos
      exact Nat.mul_pos this (Nat.pow_pos ht.1)
    have hR1 : Room (N * totR rows ^ done.length * totR rows) (2 ^ (6 * S.length + 6)) := ⟨Nat.mul_pos hN0 ht.1, Nat.lt_of_le_of_lt hpw hR.den, Nat.lt_of_le_of_lt (Nat.mul_le_mul_left _ hpw) hR.num⟩
    have hR0 : Room (N * totR rows ^ done.length) (2 ^ (6 * S.length + 6)) := ⟨hN0, Nat.lt_of_le_of_lt (Nat.le_mul_of_pos_right _ ht.1) hR1.den, Nat.lt_of_le_of_lt (Nat.mul_le_mul_left _ (Nat.le_mul_of_pos_right _ ht.1)) hR1.num⟩
    have hp1 : 2 ^ (6 * done.length) + 4 ≤ 2 ^ (6 * S.length) := by
      have e1 : 2 ^ (6 * (done.length + 1)) = 64 * 2 ^ (6 * done.length) := by rw [Nat.mul_add, Nat.pow_add, Nat.mul_comm]
      have e2 : 2 ^ (6 * (done.length + 1)) ≤ 2 ^ (6 * S.length) := le_two_pow (by omega)
      have : 0 < 2 ^ (6 * done.length) := Nat.pow_pos (by decide)
      omega
    have hpos : 0 < 2 ^ (6 * S.length) := Nat.pow_pos (by decide)
    have hp2 : 2 ^ (6 * S.length + 6) = 64 * 2 ^ (6 * S.length) := by rw [Nat.pow_add, Nat.mul_comm]
    have gs := GL_sub g1 (GL_scale (M := totR rows ^ done.length) g3.1)
    have q6 : lenOk (min (hereL rows done (valP p)).length x.length) = true := lenOk_of (by omega)
    have q7 : lenOk ((goL rows done (valP p)).length + 1) = true := lenOk_of (by rw [show (goL rows done (valP p)).length = done.length from goL_len done _]; omega)
    have hb1 := v_behind_step (sto := sto) h (N := N * totR rows ^ done.length) (B := 2 ^ (6 * S.length)) (v := subV (hereL rows done (valP p)) x) (GL_mono gs hp1) (by rw [sub_len (by rw [g3.2, g2]), g2]) (hR1.le (by omega)) (m := k + 5) (by omega)
    simp [start, O.isD, O.flat, isInst, isTy, tyNames, tyN, tyNs, anyN, O.toD, eqOk, D.plain, D.depth, D.eqv, D.flat, E.place, E.quiet, E.quiet.go, E.quietO, stEs, stE, asgT, cxK_own, cxK_cel, cxK_call, cxK_make, bindT.go, Tg.slots, Tg.slots.go, wipe, putBack, dOnly, ixN, bls_map, pures_map', pures_mapf, toDs_mapf, toDs_map', ints_map, E.keeps, isN, isL, modR, modPath, appAt]
    refine run_map ((hereL rows done (valP p)).zip x) (fun z => .tup [enc z.1, enc z.2]) (fun z => enc (z.1 - z.2)) ?_
    simp [start, O.isD, O.flat, isInst, isTy, tyNames, tyN, tyNs, anyN, O.toD, eqOk, D.plain, D.depth, D.eqv, D.flat, E.place, E.quiet, E.quiet.go, E.quietO, stEs, stE, asgT, cxK_own, cxK_cel, cxK_call, cxK_make, bindT.go, Tg.slots, Tg.slots.go, wipe, putBack, dOnly, ixN, bls_map, pures_map', pures_mapf, toDs_mapf, toDs_map', ints_map, E.keeps, isN, isL, modR, modPath, appAt, zip_maps, q6, rowD]
    refine ⟨fun a a' haa => ?_, ?_⟩
    · have hm := List.of_mem_zip haa
      have s1 := (hR0.le (by omega : 2 ^ (6 * done.length) ≤ _)).sm (g1 a hm.1)
      have s2 := (hR0.le (by omega : 4 ≤ _)).sm (GL_scale (M := totR rows ^ done.length) g3.1 a' hm.2)
      simp [v_less_of s1 s2, start, O.isD, O.flat, isInst, isTy, tyNames, tyN, tyNs, anyN, O.toD, eqOk, D.plain, D.depth, D.eqv, D.flat, E.place, E.quiet, E.quiet.go, E.quietO, stEs, stE, asgT, cxK_own, cxK_cel, cxK_call, cxK_make, bindT.go, Tg.slots, Tg.slots.go, wipe, putBack, dOnly, ixN, bls_map, pures_map', pures_mapf, toDs_mapf, toDs_map', ints_map, E.keeps, isN, isL, modR, modPath, appAt]
    · have e1 : (List.map (fun x => enc (x.1 - x.2)) ((hereL rows done (valP p)).zip x)) = (subV (hereL rows done (valP p)) x).map enc := by simp [subV]
      rw [e1]
      simp [start, O.isD, O.flat, isInst, isTy, tyNames, tyN, tyNs, anyN, O.toD, eqOk, D.plain, D.depth, D.eqv, D.flat, E.place, E.quiet, E.quiet.go, E.quietO, stEs, stE, asgT, cxK_own, cxK_cel, cxK_call, cxK_make, bindT.go, Tg.slots, Tg.slots.go, wipe, putBack, dOnly, ixN, bls_map, pures_map', pures_mapf, toDs_mapf, toDs_map', ints_map, E.keeps, isN, isL, modR, modPath, appAt, q7, hb1, goL_snoc, hereL_snoc]
  · rintro s ⟨x5, x6, rfl⟩
    simp [start, O.isD, O.flat, isInst, isTy, tyNames, tyN, tyNs, anyN, O.toD, eqOk, D.plain, D.depth, D.eqv, D.flat, E.place, E.quiet, E.quiet.go, E.quietO, stEs, stE, asgT, cxK_own, cxK_cel, cxK_call, cxK_make, bindT.go, Tg.slots, Tg.slots.go, wipe, putBack, dOnly, ixN, bls_map, pures_map', pures_mapf, toDs_mapf, toDs_map', ints_map, E.keeps, isN, isL, modR, modPath, appAt]
end K48
end Py
end

section
set_option linter.all false
set_option Elab.async false
/-! QD: is_meeting. -/
namespace Py
theorem eqvs_map {α : Type} [DecidableEq α] (f : α → D) (hf : ∀ x y, D.eqv (f x) (f y) = decide (x = y)) : ∀ a b : List α, D.eqvs (a.map f) (b.map f) = decide (a = b)
  | [], [] => by simp [D.eqvs]
  | [], y :: b => by simp [D.eqvs]
  | x :: a, [] => by simp [D.eqvs]
  | x :: a, y :: b => by
    simp only [List.map_cons, D.eqvs, hf, eqvs_map f hf a b, List.cons.injEq]
    rw [Bool.eq_iff_iff]; simp
theorem plains_map {α : Type} (f : α → D) (hf : ∀ x, (f x).plain = true) : ∀ a : List α, D.plains (a.map f) = true
  | [] => rfl
  | x :: a => by simp only [List.map_cons, D.plains, hf, plains_map f hf a]; rfl
theorem depths_map {α : Type} (f : α → D) (n : Nat) (hf : ∀ x, (f x).depth ≤ n) : ∀ a : List α, D.depths (a.map f) ≤ n
  | [] => by simp [D.depths]
  | x :: a => by
    simp only [List.map_cons, D.depths]
    exact Nat.max_le.mpr ⟨hf x, depths_map f n hf a⟩
theorem eqv_row (a b : List Rat) : D.eqv (rowD a) (rowD b) = decide (a = b) := by
  simp only [rowD, D.eqv]
  exact eqvs_map enc (fun _ _ => eqv_enc) a b
theorem plain_row (a : List Rat) : (rowD a).plain = true := by
  simp only [rowD, D.plain]
  exact plains_map enc (fun _ => plain_enc) a
theorem depth_row (a : List Rat) : (rowD a).depth ≤ 2 := by
  simp only [rowD, D.depth]
  have := depths_map enc 1 (fun x => Nat.le_of_eq depth_enc) a
  omega
theorem eqOk_encs (a b : List Rat) : eqOk (.lst (a.map enc)) (.lst (b.map enc)) = true := by
  have h1 := depths_map enc 1 (fun x => Nat.le_of_eq depth_enc) a
  have h2 := depths_map enc 1 (fun x => Nat.le_of_eq depth_enc) b
  simp [eqOk, D.plain, D.depth, plains_map enc (fun _ => plain_enc)]
  omega
theorem eqOk_rows (a b : List (List Rat)) : eqOk (.lst (a.map rowD)) (.lst (b.map rowD)) = true := by
  have h1 := depths_map rowD 2 depth_row a
  have h2 := depths_map rowD 2 depth_row b
  simp [eqOk, D.plain, D.depth, plains_map rowD plain_row]
  omega
@[simp high] theorem encs_eqC {a b : List Rat} : cop .eq (.lst (a.map enc)) (.lst (b.map enc)) = some (decide (a = b)) := by
  rw [show cop .eq (D.lst (a.map enc)) (.lst (b.map enc)) = if eqOk (D.lst (a.map enc)) (.lst (b.map enc)) then some (D.eqv (D.lst (a.map enc)) (.lst (b.map enc))) else none from rfl, eqOk_encs]
  simp only [D.eqv, eqvs_map enc (fun _ _ => eqv_enc), if_true]
@[simp high] theorem rows_neC {a b : List (List Rat)} : cop .ne (.lst (a.map rowD)) (.lst (b.map rowD)) = some (!decide (a = b)) := by
  rw [show cop .ne (D.lst (a.map rowD)) (.lst (b.map rowD)) = if eqOk (D.lst (a.map rowD)) (.lst (b.map rowD)) then some (!D.eqv (D.lst (a.map rowD)) (.lst (b.map rowD))) else none from rfl, eqOk_rows]
  simp only [D.eqv, eqvs_map rowD eqv_row, if_true]
theorem item_neg1 {α : Type} (f : α → O) (l : List α) (x : α) (h : l.getLast? = some x) : item (.lst (l.map f)) (.int (-1)) = some (f x) := by
  have hl : 0 < l.length := by
    cases l with
    | nil => simp at h
    | cons a l => simp
  rw [q_it4]
  have : ixN (l.map f).length (-1) = some (l.length - 1) := by
    unfold ixN
    rw [if_neg (by omega), if_pos (by simp; omega)]
    simp
    omega
  rw [this]
  rw [List.getLast?_eq_getElem?] at h
  simp [h]
theorem cut_one {α : Type} (x : α) (l : List α) : cut (x :: l) (some 1) none = l := by
  simp [cut, sIx]
def lastC (l : List (List Rat)) : Rat := (cumV l 0).getLast?.getD 0
theorem lastC_snoc (l : List (List Rat)) (r : List Rat) : lastC (l ++ [r]) = lastC l + totalR r ∧ cumV (l ++ [r]) 0 = cumV l 0 ++ [lastC l + totalR r] := by
  have := cumV_append l r 0
  refine ⟨?_, this⟩
  simp [lastC, this]
theorem lastC_G {N B n : Nat} : ∀ (l : List (List Rat)) (_ : ∀ s ∈ l, GL N B s ∧ s.length = n), G N (l.length * (n * B)) (lastC l) := by
  intro l
  induction l using snoc_ind with
  | h0 => intro _; simp [lastC, cumV]; exact G_zero
  | h1 l s ih =>
    intro hs
    have h1 := ih fun s' hs' => hs s' (by simp [hs'])
    have h2 := hs s (by simp)
    have h3 := G_total (N := N) (B := B) (C := 0) (x := 0) (l := s) G_zero h2.1
    rw [(lastC_snoc l s).1, List.length_append, List.length_singleton, Nat.add_mul, Nat.one_mul]
    rw [h2.2, Nat.zero_add] at h3
    exact G_add h1 h3
theorem all_idx {α : Type} (f : α → Bool) (l : List α) : (l.zipIdx.all fun z => f z.1) = l.all f := by
  have := List.zipIdx_map_fst 0 l
  rw [← this, List.all_map]
  simp [Function.comp_def]
theorem neg_at {q : Rat} : decide (q.num < 0) = !decide (0 ≤ q) := by
  rw [Bool.eq_iff_iff]
  simp [← Rat.num_nonneg]
namespace K48
variable {sto : List O}
theorem v_stopped {N n : Nat} {d : D} {S : List (List Rat)} (hd : seqOf d = some (S.map rowD)) (hS : ∀ s ∈ S, GL N 4 s ∧ s.length = n) (hn8 : n ≤ 8) (hlen : S.length ≤ 41) (hR : Room N 4000) {m : Nat} (hm : 5 ≤ m) :
    callD loop prog m 39 [d] sto = some (.lst ((cumV S 0).map fun q => .d (enc q)), sto) := by
  obtain ⟨k, rfl⟩ : ∃ k, m = k + 5 := ⟨m - 5, by omega⟩
  have hn : noCell (.d d) = true := by cases d <;> first | rfl | cases hd
  refine ends_eq (run_def (d := d_stopped_so_far) rfl rfl ?_)
  simp [d_stopped_so_far, start, O.isD, O.flat, isInst, isTy, tyNames, tyN, tyNs, anyN, O.toD, eqOk, D.plain, D.depth, D.eqv, D.flat, E.place, E.quiet, E.quiet.go, E.quietO, stEs, stE, asgT, cxK_own, cxK_cel, cxK_call, cxK_make, bindT.go, Tg.slots, Tg.slots.go, wipe, putBack, dOnly, ixN, bls_map, pures_map', pures_mapf, toDs_mapf, toDs_map', ints_map, E.keeps, isN, isL, modR, modPath, appAt, enc_zero]
  refine run_for S rowD (fun done s => ∃ x2, s = ⟨[some (.d d), some (.lst ((0 :: cumV done 0).map fun q => .d (enc q))), x2], sto⟩) ?_ ?_ ?_
  · simp [start, O.isD, O.flat, isInst, isTy, tyNames, tyN, tyNs, anyN, O.toD, eqOk, D.plain, D.depth, D.eqv, D.flat, E.place, E.quiet, E.quiet.go, E.quietO, stEs, stE, asgT, cxK_own, cxK_cel, cxK_call, cxK_make, bindT.go, Tg.slots, Tg.slots.go, wipe, putBack, dOnly, ixN, bls_map, pures_map', pures_mapf, toDs_mapf, toDs_map', ints_map, E.keeps, isN, isL, modR, modPath, appAt, hn, hd, cumV]
  · rintro done x rest e s ⟨x2, rfl⟩
    have hlt : done.length < S.length := by
      have := congrArg List.length e
      simp at this; omega
    have g1 := lastC_G done fun s hs => hS s (by rw [e]; simp [hs])
    have g3 := hS x (by rw [e]; simp)
    have g4 := G_total (N := N) (B := 4) (C := 0) (x := 0) (l := x) G_zero g3.1
    have hb1 : done.length * (n * 4) ≤ 4000 := Nat.le_trans (Nat.mul_le_mul (by omega : done.length ≤ 41) (by omega : n * 4 ≤ 32)) (by decide)
    have t1 := v_total_of (sto := sto) (m := k + 4) (d := .lst (x.map enc)) (l := x) (N := N) (B := 4) rfl (hR.le (by rw [g3.2]; omega)) (hR.le (by omega)) g3.1 (by omega)
    have t2 := v_sum_of (sto := sto) (m := k + 4) ((hR.le hb1).sm g1) ((hR.le (by rw [g3.2]; omega)).sm g4) (by omega)
    have t3 := item_neg1 (fun q => O.d (enc q)) (0 :: cumV done 0) (lastC done) (by simp [lastC, List.getLast?_cons])
    have q7 : lenOk ((0 :: cumV done 0).length + 1) = true := lenOk_of (by simp [cumV_len]; omega)
    have e3 : x.foldl (fun x1 x2 => x1 + x2) 0 = totalR x := rfl
    simp only [e3] at t2
    simp [start, O.isD, O.flat, isInst, isTy, tyNames, tyN, tyNs, anyN, O.toD, eqOk, D.plain, D.depth, D.eqv, D.flat, E.place, E.quiet, E.quiet.go, E.quietO, stEs, stE, asgT, cxK_own, cxK_cel, cxK_call, cxK_make, bindT.go, Tg.slots, Tg.slots.go, wipe, putBack, dOnly, ixN, bls_map, pures_map', pures_mapf, toDs_mapf, toDs_map', ints_map, E.keeps, isN, isL, modR, modPath, appAt] at t3 q7
    simp [Function.comp_def, start, O.isD, O.flat, isInst, isTy, tyNames, tyN, tyNs, anyN, O.toD, eqOk, D.plain, D.depth, D.eqv, D.flat, E.place, E.quiet, E.quiet.go, E.quietO, stEs, stE, asgT, cxK_own, cxK_cel, cxK_call, cxK_make, bindT.go, Tg.slots, Tg.slots.go, wipe, putBack, dOnly, ixN, bls_map, pures_map', pures_mapf, toDs_mapf, toDs_map', ints_map, E.keeps, isN, isL, modR, modPath, appAt, t3, rowD, t1, t2, q7, (lastC_snoc done x).2]
  · rintro s ⟨x2, rfl⟩
    simp [start, O.isD, O.flat, isInst, isTy, tyNames, tyN, tyNs, anyN, O.toD, eqOk, D.plain, D.depth, D.eqv, D.flat, E.place, E.quiet, E.quiet.go, E.quietO, stEs, stE, asgT, cxK_own, cxK_cel, cxK_call, cxK_make, bindT.go, Tg.slots, Tg.slots.go, wipe, putBack, dOnly, ixN, bls_map, pures_map', pures_mapf, toDs_mapf, toDs_map', ints_map, E.keeps, isN, isL, modR, modPath, appAt, cut_one, E.quietO]
theorem v_first_lack {rows : List (Nat × List Nat)} (h : ROk rows) {N b : Nat} {p : Nat × List Nat} {d : D} {S : List (List Rat)} (hp : POk b p) (hb : b ≤ 3000) (hl : p.2.length = rows.length) (hG : GL N 1 (valP p)) (hS : ∀ s ∈ S, GL N 4 s ∧ s.length = rows.length)
    (hd : seqOf d = some (S.map rowD)) (hlen : S.length ≤ 41) (hR : Room (N * totR rows ^ S.length) (2 ^ (6 * S.length + 6))) {m : Nat} (hm : 7 ≤ m) :
    ∃ r, callD loop prog m 31 [walkD rows, pD p, d] sto = some (.d r, sto) ∧ cop .isnot r .non = some (!posB rows S (valP p)) := by
  obtain ⟨k, rfl⟩ : ∃ k, m = k + 7 := ⟨m - 7, by omega⟩
  have hn : noCell (.d d) = true := by cases d <;> first | rfl | cases hd
  have hcg := v_comes_and_goes (sto := sto) h hp hb hl hG hS hd hlen hR (m := k + 6) (by omega)
  suffices hE : Ends (callD loop prog (k + 7) 31 [walkD rows, pD p, d] sto) fun a => ∃ r, a = (.d r, sto) ∧ cop .isnot r .non = some (!posB rows S (valP p)) by
    obtain ⟨a, h1, r, rfl, h2⟩ := hE
    exact ⟨r, h1, h2⟩
  refine run_def (d := d_first_lack) rfl rfl ?_
  simp [d_first_lack, start, O.isD, O.flat, isInst, isTy, tyNames, tyN, tyNs, anyN, O.toD, eqOk, D.plain, D.depth, D.eqv, D.flat, E.place, E.quiet, E.quiet.go, E.quietO, stEs, stE, asgT, cxK_own, cxK_cel, cxK_call, cxK_make, bindT.go, Tg.slots, Tg.slots.go, wipe, putBack, dOnly, ixN, bls_map, pures_map', pures_mapf, toDs_mapf, toDs_map', ints_map, E.keeps, isN, isL, modR, modPath, appAt]
  refine run_for ((goL rows S (valP p)).zipIdx) (fun z => .tup [.int (z.2 : Nat), .tup [.lst (z.1.1.map enc), .lst (z.1.2.map enc)]]) (fun done s => (done.all fun z => z.1.2.all fun q => decide (0 ≤ q)) = true ∧ ∃ x3 x4 x5 x6, s = ⟨[some (.d (walkD rows)), some (.d (pD p)), some (.d d), x3, x4, x5, x6], sto⟩) ?_ ?_ ?_
  · simp [start, O.isD, O.flat, isInst, isTy, tyNames, tyN, tyNs, anyN, O.toD, eqOk, D.plain, D.depth, D.eqv, D.flat, E.place, E.quiet, E.quiet.go, E.quietO, stEs, stE, asgT, cxK_own, cxK_cel, cxK_call, cxK_make, bindT.go, Tg.slots, Tg.slots.go, wipe, putBack, dOnly, ixN, bls_map, pures_map', pures_mapf, toDs_mapf, toDs_map', ints_map, E.keeps, isN, isL, modR, modPath, appAt, hn, hcg, List.zipIdx_map]
  · rintro done x rest e s ⟨hpos, x3, x4, x5, x6, rfl⟩
    simp [start, O.isD, O.flat, isInst, isTy, tyNames, tyN, tyNs, anyN, O.toD, eqOk, D.plain, D.depth, D.eqv, D.flat, E.place, E.quiet, E.quiet.go, E.quietO, stEs, stE, asgT, cxK_own, cxK_cel, cxK_call, cxK_make, bindT.go, Tg.slots, Tg.slots.go, wipe, putBack, dOnly, ixN, bls_map, pures_map', pures_mapf, toDs_mapf, toDs_map', ints_map, E.keeps, isN, isL, modR, modPath, appAt]
    refine run_for (x.1.2.zipIdx) (fun z => .tup [.int (z.2 : Nat), enc z.1]) (fun dn s => (dn.all fun z => decide (0 ≤ z.1)) = true ∧ ∃ x5 x6, s = ⟨[some (.d (walkD rows)), some (.d (pD p)), some (.d d), some (.d (.int (x.2 : Nat))), some (.d (.tup [.lst (x.1.1.map enc), .lst (x.1.2.map enc)])), x5, x6], sto⟩) ?_ ?_ ?_
    · simp [start, O.isD, O.flat, isInst, isTy, tyNames, tyN, tyNs, anyN, O.toD, eqOk, D.plain, D.depth, D.eqv, D.flat, E.place, E.quiet, E.quiet.go, E.quietO, stEs, stE, asgT, cxK_own, cxK_cel, cxK_call, cxK_make, bindT.go, Tg.slots, Tg.slots.go, wipe, putBack, dOnly, ixN, bls_map, pures_map', pures_mapf, toDs_mapf, toDs_map', ints_map, E.keeps, isN, isL, modR, modPath, appAt, List.zipIdx_map]
    · rintro dn y rst e2 s ⟨hpos2, x5, x6, rfl⟩
      simp [start, O.isD, O.flat, isInst, isTy, tyNames, tyN, tyNs, anyN, O.toD, eqOk, D.plain, D.depth, D.eqv, D.flat, E.place, E.quiet, E.quiet.go, E.quietO, stEs, stE, asgT, cxK_own, cxK_cel, cxK_call, cxK_make, bindT.go, Tg.slots, Tg.slots.go, wipe, putBack, dOnly, ixN, bls_map, pures_map', pures_mapf, toDs_mapf, toDs_map', ints_map, E.keeps, isN, isL, modR, modPath, appAt]
      refine ⟨fun hy => ?_, fun hy => ⟨by simpa using hpos2, hy⟩⟩
      have hy2 : ¬ (0 ≤ y.1) := fun h0 => by
        have := Rat.num_nonneg.mpr h0
        omega
      have m1 : x.1 ∈ goL rows S (valP p) := by
        have : x ∈ (goL rows S (valP p)).zipIdx := by rw [e]; simp
        have m := List.mem_map_of_mem (f := Prod.fst) this
        rwa [List.zipIdx_map_fst] at m
      have m2 : y.1 ∈ x.1.2 := by
        have : y ∈ x.1.2.zipIdx := by rw [e2]; simp
        have m := List.mem_map_of_mem (f := Prod.fst) this
        rwa [List.zipIdx_map_fst] at m
      simp only [posB, List.all_eq_false]
      exact ⟨x.1, m1, by simp; exact ⟨y.1, m2, by grind⟩⟩
    · rintro s ⟨hp2, x5, x6, rfl⟩
      rw [all_idx (fun q => decide (0 ≤ q))] at hp2
      simp [List.all_append, hpos, hp2]
  · rintro s ⟨hpos, x3, x4, x5, x6, rfl⟩
    rw [all_idx (fun z : List Rat × List Rat => z.2.all fun q => decide (0 ≤ q))] at hpos
    simp [start, O.isD, O.flat, isInst, isTy, tyNames, tyN, tyNs, anyN, O.toD, eqOk, D.plain, D.depth, D.eqv, D.flat, E.place, E.quiet, E.quiet.go, E.quietO, stEs, stE, asgT, cxK_own, cxK_cel, cxK_call, cxK_make, bindT.go, Tg.slots, Tg.slots.go, wipe, putBack, dOnly, ixN, bls_map, pures_map', pures_mapf, toDs_mapf, toDs_map', ints_map, E.keeps, isN, isL, modR, modPath, appAt, posB, hpos]
end K48
end Py
end

section
set_option linter.all false
set_option Elab.async false
/-! QE: the meeting by name. -/
namespace Py
theorem partR_G {b b' : Nat} {p q : Nat × List Nat} (hp : POk b p) (hq : POk b' q) (hb : 2 * (b + b') + 3 < 4000) (hl : p.2.length ≤ 8) (hl' : q.2.length = p.2.length) : SmR (partR p q) := by
  have h0 : 0 < p.1 * q.1 := Nat.mul_pos hp.pos hq.pos
  have h1 : (moreN p.1 q.1 (p.2.zip q.2)).sum ≤ 2 ^ (b + b' + 3) := by
    refine Nat.le_trans (sum_le (B := 2 ^ (b + b')) ?_) ?_
    · intro n hn
      obtain ⟨z, hz, rfl⟩ := List.mem_map.mp hn
      have := List.of_mem_zip (a := z.1) (b := z.2) hz
      refine Nat.le_trans (Nat.sub_le _ _) ?_
      exact mul_le_pow (hp.nums _ this.1) hq.le (Nat.le_refl _)
    · have : (moreN p.1 q.1 (p.2.zip q.2)).length ≤ 2 ^ 3 := by simp [moreN, hl']; omega
      exact mul_le_pow this (Nat.le_refl _) (by omega)
  have hg : G (p.1 * q.1) (2 ^ (b + b' + 3)) (partR p q) := by
    have f1 := mkRat_frac (n := (moreN p.1 q.1 (p.2.zip q.2)).sum) h0
    have f2 := mkRat_nonneg (moreN p.1 q.1 (p.2.zip q.2)).sum (p.1 * q.1)
    refine ⟨⟨_, f1.trans rfl⟩, ?_, ?_⟩
    · have : (0 : Rat) ≤ ((2 ^ (b + b' + 3) : Nat) : Rat) := by exact_mod_cast Nat.zero_le _
      unfold partR; grind
    · have h3 : (1 : Rat) ≤ ((p.1 * q.1 : Nat) : Rat) := by exact_mod_cast h0
      have h4 := Rat.mul_le_mul_of_nonneg_left h3 f2
      have h5 : (((moreN p.1 q.1 (p.2.zip q.2)).sum : Nat) : Rat) ≤ ((2 ^ (b + b' + 3) : Nat) : Rat) := by exact_mod_cast h1
      unfold partR; grind
  have hle : p.1 * q.1 ≤ 2 ^ (b + b') := mul_le_pow hp.le hq.le (Nat.le_refl _)
  exact smR_of hg h0 (Nat.lt_of_le_of_lt hle (pow_bigA (by omega))) (Nat.lt_of_le_of_lt (mul_le_pow (Nat.le_refl _) hle (Nat.le_refl _)) (pow_bigA (by omega)))
/-- how often both have met up to each moment -/
def metV (rows : List (Nat × List Nat)) (p q : Nat × List Nat) (t : Nat) : List Rat := (List.range (t + 1)).map fun u => 1 - partR (goneN rows p u) (goneN rows q u)
namespace K48
variable {sto : List O}
theorem v_meeting_table {rows : List (Nat × List Nat)} (h : ROk rows) {b t : Nat} {p q : Nat × List Nat} (hp : Share rows.length b p) (hq : Share rows.length b q) (hb : 2 * (b + 93 * (t + 1)) ≤ 1500) (ht : t ≤ 40) {m : Nat} (hm : 8 ≤ m) :
    callD loop prog m 41 [walkD rows, pD p, pD q, .int (t : Nat)] sto = some (.lst ((List.range (t + 1)).map fun u => .d (rowD (meetV rows p q u))), sto) := by
  obtain ⟨k, rfl⟩ : ∃ k, m = k + 8 := ⟨m - 8, by omega⟩
  have e1 := v_need_task (sto := sto) h hp hq ht (m := k + 7) (by omega)
  have e2 := v_meeting_rows (sto := sto) h hp.toPOk hq.toPOk hb hp.len hq.len (m := k + 7) (by omega)
  refine ends_eq (run_def (d := d_meeting_table) rfl rfl ?_)
  simp at e1
  simp [d_meeting_table, start, O.isD, O.flat, isInst, isTy, tyNames, tyN, tyNs, anyN, O.toD, eqOk, D.plain, D.depth, D.eqv, D.flat, E.place, E.quiet, E.quiet.go, E.quietO, stEs, stE, asgT, cxK_own, cxK_cel, cxK_call, cxK_make, bindT.go, Tg.slots, Tg.slots.go, wipe, putBack, dOnly, ixN, bls_map, pures_map', pures_mapf, toDs_mapf, toDs_map', ints_map, E.keeps, isN, isL, modR, modPath, appAt, e1, e2]
theorem v_parted_at {rows : List (Nat × List Nat)} (h : ROk rows) {b t : Nat} {p q : Nat × List Nat} (hp : Share rows.length b p) (hq : Share rows.length b q) (hb : 2 * (b + 93 * (t + 1)) ≤ 1500) (ht : t ≤ 200) {m : Nat} (hm : 8 ≤ m) :
    callD loop prog m 40 [walkD rows, pD p, pD q, .int (t : Nat)] sto = some (.d (enc (partR (goneN rows p t) (goneN rows q t))), sto) := by
  obtain ⟨k, rfl⟩ : ∃ k, m = k + 8 := ⟨m - 8, by omega⟩
  have h2 := h.many.2
  have e1 := v_need_task (sto := sto) h hp hq ht (m := k + 7) (by omega)
  have e2 := v_gone_far (sto := sto) h (t := t) hp.toPOk (by omega) hp.len (m := k + 7) (by omega)
  have e3 := v_gone_far (sto := sto) h (t := t) hq.toPOk (by omega) hq.len (m := k + 7) (by omega)
  have e4 := v_parted_of (sto := sto) (pok_goneN h hp.toPOk t) (pok_goneN h hq.toPOk t) (by omega) (by rw [len_goneN hp.len]; exact h2) (by rw [len_goneN hp.len, len_goneN hq.len]) (m := k + 7) (by omega)
  refine ends_eq (run_def (d := d_parted_at) rfl rfl ?_)
  simp at e1
  simp [d_parted_at, start, O.isD, O.flat, isInst, isTy, tyNames, tyN, tyNs, anyN, O.toD, eqOk, D.plain, D.depth, D.eqv, D.flat, E.place, E.quiet, E.quiet.go, E.quietO, stEs, stE, asgT, cxK_own, cxK_cel, cxK_call, cxK_make, bindT.go, Tg.slots, Tg.slots.go, wipe, putBack, dOnly, ixN, bls_map, pures_map', pures_mapf, toDs_mapf, toDs_map', ints_map, E.keeps, isN, isL, modR, modPath, appAt, e1, e2, e3, e4]
theorem v_is_meeting_no {rows : List (Nat × List Nat)} (h : ROk rows) {b t : Nat} {p q : Nat × List Nat} {d : D} (hp : Share rows.length b p) (hq : Share rows.length b q) (ht : t ≤ 40) (hd : okD d = true)
    (hno : isTab rows.length d = true → ∀ xs, seqOf d = some xs → xs.length ≠ t + 1) {m : Nat} (hm : 8 ≤ m) :
    callD loop prog m 42 [walkD rows, pD p, pD q, .int (t : Nat), d] sto = some (.d (.bl false), sto) := by
  obtain ⟨k, rfl⟩ : ∃ k, m = k + 8 := ⟨m - 8, by omega⟩
  have e1 := v_need_task (sto := sto) h hp hq ht (m := k + 7) (by omega)
  have e2 := v_is_timetable (sto := sto) (n := rows.length) hd (m := k + 7) (by omega)
  have hc := noCell_ok hd
  refine ends_eq (run_def (d := d_is_meeting) rfl rfl ?_)
  simp at e1
  by_cases hT : isTab rows.length d = true
  · obtain ⟨S, hs, hi, _⟩ := isTab_rows hT
    have h3 := hno hT _ hs
    obtain ⟨_, _, h4⟩ := okDs_seq hd hs hi
    have h5 : (((S.map rowD).length : Int) == (t : Int) + 1) = false := by
      simp only [beq_eq_false_iff_ne]; omega
    simp only [List.length_map] at h4 h5 h3
    have h6 : ¬ ((S.length : Int) = (t : Int) + 1) := by omega
    simp [d_is_meeting, start, O.isD, O.flat, O.toD, eqOk, D.plain, D.depth, D.eqv, D.flat, E.place, E.quiet, E.quiet.go, E.quietO, stEs, stE, asgT, cxK_own, cxK_cel, cxK_call, cxK_make, bindT.go, Tg.slots, Tg.slots.go, wipe, putBack, dOnly, ixN, bls_map, pures_map', pures_mapf, toDs_mapf, toDs_map', ints_map, E.keeps, isN, isL, modR, modPath, appAt, e1, e2, hT, hc, h4, h5, h6]
  · simp [d_is_meeting, start, O.isD, O.flat, O.toD, eqOk, D.plain, D.depth, D.eqv, D.flat, E.place, E.quiet, E.quiet.go, E.quietO, stEs, stE, asgT, cxK_own, cxK_cel, cxK_call, cxK_make, bindT.go, Tg.slots, Tg.slots.go, wipe, putBack, dOnly, ixN, bls_map, pures_map', pures_mapf, toDs_mapf, toDs_map', ints_map, E.keeps, isN, isL, modR, modPath, appAt, e1, e2, hT, hc]
theorem v_is_meeting {rows : List (Nat × List Nat)} (h : ROk rows) {N b t : Nat} {p q : Nat × List Nat} {d : D} {S : List (List Rat)} (hp : Share rows.length b p) (hq : Share rows.length b q) (hb : 2 * (b + 93 * (t + 1)) ≤ 1500) (ht : t ≤ 40) (hd : okD d = true)
    (hT : isTab rows.length d = true) (hs : seqOf d = some (S.map rowD)) (hlen : S.length = t + 1) (hS : ∀ s ∈ S, GL N 4 s ∧ s.length = rows.length) (hG : GL N 1 (valP p)) (hG' : GL N 1 (valP q)) (hR : Room (N * totR rows ^ S.length) (2 ^ (6 * S.length + 6))) (hR' : Room N 4000) {m : Nat} (hm : 9 ≤ m) :
    callD loop prog m 42 [walkD rows, pD p, pD q, .int (t : Nat), d] sto = some (.d (.bl (posB rows S (valP p) && posB rows S (valP q) && decide (cumV S 0 = metV rows p q t))), sto) := by
  obtain ⟨k, rfl⟩ : ∃ k, m = k + 9 := ⟨m - 9, by omega⟩
  have h2 := h.many.2
  have e1 := v_need_task (sto := sto) h hp hq ht (m := k + 8) (by omega)
  have e2 := v_is_timetable (sto := sto) (n := rows.length) hd (m := k + 8) (by omega)
  have hc := noCell_ok hd
  obtain ⟨_, hi, _⟩ := isTab_rows hT |>.choose_spec
  obtain ⟨_, _, h4⟩ := okDs_seq hd hs hi
  obtain ⟨r1, f1, f1'⟩ := v_first_lack (sto := sto) h hp.toPOk (by omega) hp.len hG hS hs (by omega) hR (m := k + 8) (by omega)
  obtain ⟨r2, f2, f2'⟩ := v_first_lack (sto := sto) h hq.toPOk (by omega) hq.len hG' hS hs (by omega) hR (m := k + 8) (by omega)
  have g1 := v_stopped (sto := sto) hs hS h2 (by omega) hR' (m := k + 8) (by omega)
  have g2 := v_parted_list (sto := sto) h (t := t) hp.toPOk hq.toPOk (by omega) hp.len hq.len (m := k + 8) (by omega)
  refine ends_eq (run_def (d := d_is_meeting) rfl rfl ?_)
  simp at e1
  simp only [List.length_map, hlen] at h4
  by_cases b1 : posB rows S (valP p) = true
  · by_cases b2 : posB rows S (valP q) = true
    · simp [d_is_meeting, start, O.isD, O.flat, O.toD, eqOk, D.plain, D.depth, D.eqv, D.flat, E.place, E.quiet, E.quiet.go, E.quietO, stEs, stE, asgT, cxK_own, cxK_cel, cxK_call, cxK_make, bindT.go, Tg.slots, Tg.slots.go, wipe, putBack, dOnly, ixN, bls_map, pures_map', pures_mapf, toDs_mapf, toDs_map', ints_map, E.keeps, isN, isL, modR, modPath, appAt, e1, e2, hT, hc, h4, f1, f1', f2, f2', b1, b2, g1]
      refine run_map (List.range (t + 1)) (fun u => enc (partR (goneN rows p u) (goneN rows q u))) (fun u => enc (1 - partR (goneN rows p u) (goneN rows q u))) ?_
      have q4 : lenOk (t + 1) = true := lenOk_of (by omega)
      simp [start, O.isD, O.flat, O.toD, eqOk, D.plain, D.depth, D.eqv, D.flat, E.place, E.quiet, E.quiet.go, E.quietO, stEs, stE, asgT, cxK_own, cxK_cel, cxK_call, cxK_make, bindT.go, Tg.slots, Tg.slots.go, wipe, putBack, dOnly, ixN, bls_map, pures_map', pures_mapf, toDs_mapf, toDs_map', ints_map, E.keeps, isN, isL, modR, modPath, appAt, g2, q4, enc_one]
      refine ⟨fun u hu => ?_, ?_⟩
      · have s1 := partR_G (pok_goneN h hp.toPOk u) (pok_goneN h hq.toPOk u) (by omega) (by rw [len_goneN hp.len]; exact h2) (by rw [len_goneN hp.len, len_goneN hq.len])
        simp [v_less_of smR_one s1, start, O.isD, O.flat, O.toD, eqOk, D.plain, D.depth, D.eqv, D.flat, E.place, E.quiet, E.quiet.go, E.quietO, stEs, stE, asgT, cxK_own, cxK_cel, cxK_call, cxK_make, bindT.go, Tg.slots, Tg.slots.go, wipe, putBack, dOnly, ixN, bls_map, pures_map', pures_mapf, toDs_mapf, toDs_map', ints_map, E.keeps, isN, isL, modR, modPath, appAt]
      · have e5 : (List.range (t + 1)).map (fun u => enc (1 - partR (goneN rows p u) (goneN rows q u))) = (metV rows p q t).map enc := by simp [metV]
        rw [e5]
        refine ⟨⟨⟨⟨plains_map enc (fun _ => plain_enc) _, plains_map enc (fun _ => plain_enc) _⟩, Nat.le_trans (depths_map enc 1 (fun x => Nat.le_of_eq depth_enc) _) (by decide)⟩, Nat.le_trans (depths_map enc 1 (fun x => Nat.le_of_eq depth_enc) _) (by decide)⟩, ?_⟩
        rw [b1, b2, eqvs_map enc (fun _ _ => eqv_enc)]
        simp
    · simp [d_is_meeting, start, O.isD, O.flat, O.toD, eqOk, D.plain, D.depth, D.eqv, D.flat, E.place, E.quiet, E.quiet.go, E.quietO, stEs, stE, asgT, cxK_own, cxK_cel, cxK_call, cxK_make, bindT.go, Tg.slots, Tg.slots.go, wipe, putBack, dOnly, ixN, bls_map, pures_map', pures_mapf, toDs_mapf, toDs_map', ints_map, E.keeps, isN, isL, modR, modPath, appAt, e1, e2, hT, hc, h4, f1, f1', f2, f2', b1, b2]
  · simp [d_is_meeting, start, O.isD, O.flat, O.toD, eqOk, D.plain, D.depth, D.eqv, D.flat, E.place, E.quiet, E.quiet.go, E.quietO, stEs, stE, asgT, cxK_own, cxK_cel, cxK_call, cxK_make, bindT.go, Tg.slots, Tg.slots.go, wipe, putBack, dOnly, ixN, bls_map, pures_map', pures_mapf, toDs_mapf, toDs_map', ints_map, E.keeps, isN, isL, modR, modPath, appAt, e1, e2, hT, hc, h4, f1, f1', b1]
end K48
end Py
end

section
set_option linter.all false
set_option Elab.async false
/-! LA: the law's own ratios. -/
namespace Py
namespace K48
variable {sto : List O}
theorem w_common {a b : Int} {m : Nat} (hm : 1 ≤ m) : callD loop prog m 47 [.int a, .int b] sto = some (.d (.int (Nat.gcd a.natAbs b.natAbs : Nat)), sto) := by
  obtain ⟨k, rfl⟩ : ∃ k, m = k + 1 := ⟨m - 1, by omega⟩
  refine ends_eq (run_def (d := d_law_common) rfl rfl ?_)
  simp [d_law_common, start, O.isD, O.flat, isInst, isTy, tyNames, tyN, tyNs, anyN, O.toD, eqOk, D.plain, D.depth, D.eqv, D.flat, E.place, E.quiet, E.quiet.go, E.quietO, stEs, stE, asgT, cxK_own, cxK_cel, cxK_call, cxK_make, bindT.go, Tg.slots, Tg.slots.go, wipe, putBack, dOnly, ixN, bls_map, pures_map', pures_mapf, toDs_mapf, toDs_map', ints_map, E.keeps, isN, isL, modR, modPath, appAt]
  refine run_whl (fun n s => ∃ a' b' : Nat, n = b' ∧ Nat.gcd a' b' = Nat.gcd a.natAbs b.natAbs ∧ s = ⟨[some (.d (.int a')), some (.d (.int b'))], sto⟩) rfl (n := b.natAbs) ⟨a.natAbs, b.natAbs, rfl, rfl, by simp⟩ ?_
  rintro n s ⟨a', b', rfl, h2, rfl⟩
  simp [start, O.isD, O.flat, isInst, isTy, tyNames, tyN, tyNs, anyN, O.toD, eqOk, D.plain, D.depth, D.eqv, D.flat, E.place, E.quiet, E.quiet.go, E.quietO, stEs, stE, asgT, cxK_own, cxK_cel, cxK_call, cxK_make, bindT.go, Tg.slots, Tg.slots.go, wipe, putBack, dOnly, ixN, bls_map, pures_map', pures_mapf, toDs_mapf, toDs_map', ints_map, E.keeps, isN, isL, modR, modPath, appAt]
  refine ⟨fun e => ?_, fun e => ?_⟩
  · subst e
    rw [Nat.gcd_zero_right] at h2
    rw [h2]
  · refine ⟨e, a' % n, Nat.mod_lt _ (by omega), n, ?_, ?_⟩
    · rw [← h2, Nat.gcd_comm n, ← Nat.gcd_rec, Nat.gcd_comm]
    · simp [fmod_nat]
theorem w_ratio {a b : Int} (hb : 0 < b) (hs : b.natAbs < bigB) {m : Nat} (hm : 2 ≤ m) : callD loop prog m 48 [.int a, .int b] sto = some (.d (enc (mkRat a b.natAbs)), sto) := by
  obtain ⟨k, rfl⟩ : ∃ k, m = k + 2 := ⟨m - 2, by omega⟩
  obtain ⟨n, rfl⟩ := Int.eq_ofNat_of_zero_le (Int.le_of_lt hb)
  have hn : 0 < n := by omega
  have hg : Nat.gcd a.natAbs n < bigB := Nat.lt_of_le_of_lt (Nat.gcd_le_right _ hn) (by simpa using hs)
  have hg0 : Nat.gcd a.natAbs n ≠ 0 := by
    have := Nat.gcd_pos_of_pos_right a.natAbs hn
    omega
  refine ends_eq (run_def (d := d_law_ratio) rfl rfl ?_)
  simp [d_law_ratio, start, O.isD, O.flat, isInst, isTy, tyNames, tyN, tyNs, anyN, O.toD, eqOk, D.plain, D.depth, D.eqv, D.flat, E.place, E.quiet, E.quiet.go, E.quietO, stEs, stE, asgT, cxK_own, cxK_cel, cxK_call, cxK_make, bindT.go, Tg.slots, Tg.slots.go, wipe, putBack, dOnly, ixN, bls_map, pures_map', pures_mapf, toDs_mapf, toDs_map', ints_map, E.keeps, isN, isL, modR, modPath, appAt, hn, w_common, big_div hg0 hg]
  exact enc_mk hn
theorem w_plus {p q : Rat} (hp : SmR p) (hq : SmR q) {m : Nat} (hm : 3 ≤ m) : callD loop prog m 49 [enc p, enc q] sto = some (.d (enc (p + q)), sto) := by
  obtain ⟨k, rfl⟩ : ∃ k, m = k + 3 := ⟨m - 3, by omega⟩
  refine ends_eq (run_def (d := d_law_plus) rfl rfl ?_)
  have hb : (0 : Int) < (p.den : Int) * (q.den : Int) := Int.mul_pos (by have := p.den_pos; omega) (by have := q.den_pos; omega)
  have hs : ((p.den : Int) * (q.den : Int)).natAbs < bigB := by
    simpa [Int.natAbs_mul] using den_lt hp hq
  simp [d_law_plus, start, O.isD, O.flat, isInst, isTy, tyNames, tyN, tyNs, anyN, O.toD, eqOk, D.plain, D.depth, D.eqv, D.flat, E.place, E.quiet, E.quiet.go, E.quietO, stEs, stE, asgT, cxK_own, cxK_cel, cxK_call, cxK_make, bindT.go, Tg.slots, Tg.slots.go, wipe, putBack, dOnly, ixN, bls_map, pures_map', pures_mapf, toDs_mapf, toDs_map', ints_map, E.keeps, isN, isL, modR, modPath, appAt, sm_mul (smR_num hp) (smR_den hq), sm_mul (smR_num hq) (smR_den hp), sm_mul (smR_den hp) (smR_den hq), w_ratio hb hs, Rat.add_def', Int.natAbs_mul]
theorem w_minus {p q : Rat} (hp : SmR p) (hq : SmR q) {m : Nat} (hm : 3 ≤ m) : callD loop prog m 55 [enc p, enc q] sto = some (.d (enc (p - q)), sto) := by
  obtain ⟨k, rfl⟩ : ∃ k, m = k + 3 := ⟨m - 3, by omega⟩
  refine ends_eq (run_def (d := d_law_minus) rfl rfl ?_)
  have hb : (0 : Int) < (p.den : Int) * (q.den : Int) := Int.mul_pos (by have := p.den_pos; omega) (by have := q.den_pos; omega)
  have hs : ((p.den : Int) * (q.den : Int)).natAbs < bigB := by
    simpa [Int.natAbs_mul] using den_lt hp hq
  simp [d_law_minus, start, O.isD, O.flat, isInst, isTy, tyNames, tyN, tyNs, anyN, O.toD, eqOk, D.plain, D.depth, D.eqv, D.flat, E.place, E.quiet, E.quiet.go, E.quietO, stEs, stE, asgT, cxK_own, cxK_cel, cxK_call, cxK_make, bindT.go, Tg.slots, Tg.slots.go, wipe, putBack, dOnly, ixN, bls_map, pures_map', pures_mapf, toDs_mapf, toDs_map', ints_map, E.keeps, isN, isL, modR, modPath, appAt, sm_mul (smR_num hp) (smR_den hq), sm_mul (smR_num hq) (smR_den hp), sm_mul (smR_den hp) (smR_den hq), w_ratio hb hs, Rat.sub_def', Int.natAbs_mul]
theorem w_times {p q : Rat} (hp : SmR p) (hq : SmR q) {m : Nat} (hm : 3 ≤ m) : callD loop prog m 50 [enc p, enc q] sto = some (.d (enc (p * q)), sto) := by
  obtain ⟨k, rfl⟩ : ∃ k, m = k + 3 := ⟨m - 3, by omega⟩
  refine ends_eq (run_def (d := d_law_times) rfl rfl ?_)
  have hb : (0 : Int) < (p.den : Int) * (q.den : Int) := Int.mul_pos (by have := p.den_pos; omega) (by have := q.den_pos; omega)
  have hs : ((p.den : Int) * (q.den : Int)).natAbs < bigB := by
    simpa [Int.natAbs_mul] using den_lt hp hq
  simp [d_law_times, start, O.isD, O.flat, isInst, isTy, tyNames, tyN, tyNs, anyN, O.toD, eqOk, D.plain, D.depth, D.eqv, D.flat, E.place, E.quiet, E.quiet.go, E.quietO, stEs, stE, asgT, cxK_own, cxK_cel, cxK_call, cxK_make, bindT.go, Tg.slots, Tg.slots.go, wipe, putBack, dOnly, ixN, bls_map, pures_map', pures_mapf, toDs_mapf, toDs_map', ints_map, E.keeps, isN, isL, modR, modPath, appAt, sm_mul (smR_num hp) (smR_num hq), sm_mul (smR_den hp) (smR_den hq), w_ratio hb hs, Rat.mul_def', Int.natAbs_mul]
theorem w_above {p q : Rat} (hp : SmR p) (hq : SmR q) {m : Nat} (hm : 1 ≤ m) : callD loop prog m 52 [enc p, enc q] sto = some (.d (.bl (decide (q < p))), sto) := by
  obtain ⟨k, rfl⟩ : ∃ k, m = k + 1 := ⟨m - 1, by omega⟩
  refine ends_eq (run_def (d := d_law_above) rfl rfl ?_)
  simp [d_law_above, start, O.isD, O.flat, isInst, isTy, tyNames, tyN, tyNs, anyN, O.toD, eqOk, D.plain, D.depth, D.eqv, D.flat, E.place, E.quiet, E.quiet.go, E.quietO, stEs, stE, asgT, cxK_own, cxK_cel, cxK_call, cxK_make, bindT.go, Tg.slots, Tg.slots.go, wipe, putBack, dOnly, ixN, bls_map, pures_map', pures_mapf, toDs_mapf, toDs_map', ints_map, E.keeps, isN, isL, modR, modPath, appAt, sm_mul (smR_num hp) (smR_den hq), sm_mul (smR_num hq) (smR_den hp), Rat.lt_iff]
theorem w_upper {p q : Rat} (hp : SmR p) (hq : SmR q) {m : Nat} (hm : 2 ≤ m) : callD loop prog m 56 [enc p, enc q] sto = some (.d (enc (if q < p then p else q)), sto) := by
  obtain ⟨k, rfl⟩ : ∃ k, m = k + 2 := ⟨m - 2, by omega⟩
  refine ends_eq (run_def (d := d_law_upper) rfl rfl ?_)
  by_cases h : q < p <;> simp [d_law_upper, start, O.isD, O.flat, isInst, isTy, tyNames, tyN, tyNs, anyN, O.toD, eqOk, D.plain, D.depth, D.eqv, D.flat, E.place, E.quiet, E.quiet.go, E.quietO, stEs, stE, asgT, cxK_own, cxK_cel, cxK_call, cxK_make, bindT.go, Tg.slots, Tg.slots.go, wipe, putBack, dOnly, ixN, bls_map, pures_map', pures_mapf, toDs_mapf, toDs_map', ints_map, E.keeps, isN, isL, modR, modPath, appAt, w_above hp hq, h]
theorem w_total {d : D} {l : List Rat} {N B : Nat} (hd : seqOf d = some (l.map enc)) (hR : Room N (l.length * B)) (hB : Room N B) (hl : ∀ q ∈ l, G N B q) {m : Nat} (hm : 4 ≤ m) :
    callD loop prog m 51 [d] sto = some (.d (enc (totalR l)), sto) := by
  obtain ⟨k, rfl⟩ : ∃ k, m = k + 4 := ⟨m - 4, by omega⟩
  have hn : noCell (.d d) = true := by cases d <;> first | rfl | cases hd
  refine ends_eq (run_def (d := d_law_total) rfl rfl ?_)
  simp [d_law_total, start, O.isD, O.flat, isInst, isTy, tyNames, tyN, tyNs, anyN, O.toD, eqOk, D.plain, D.depth, D.eqv, D.flat, E.place, E.quiet, E.quiet.go, E.quietO, stEs, stE, asgT, cxK_own, cxK_cel, cxK_call, cxK_make, bindT.go, Tg.slots, Tg.slots.go, wipe, putBack, dOnly, ixN, bls_map, pures_map', pures_mapf, toDs_mapf, toDs_map', ints_map, E.keeps, isN, isL, modR, modPath, appAt]
  refine run_for l enc (fun done s => ∃ x2, s = ⟨[some (.d d), some (.d (enc (totalR done))), x2], sto⟩) ?_ ?_ ?_
  · simp [start, O.isD, O.flat, isInst, isTy, tyNames, tyN, tyNs, anyN, O.toD, eqOk, D.plain, D.depth, D.eqv, D.flat, E.place, E.quiet, E.quiet.go, E.quietO, stEs, stE, asgT, cxK_own, cxK_cel, cxK_call, cxK_make, bindT.go, Tg.slots, Tg.slots.go, wipe, putBack, dOnly, ixN, bls_map, pures_map', pures_mapf, toDs_mapf, toDs_map', ints_map, E.keeps, isN, isL, modR, modPath, appAt, hd, hn, totalR, enc_zero]
  · rintro done x rest e s ⟨x2, rfl⟩
    have g1 : G N (l.length * B) (totalR done) := by
      have := G_total (N := N) (B := B) (C := 0) (x := 0) (l := done) G_zero fun q hq => hl q (by rw [e]; simp [hq])
      refine G_mono this ?_
      rw [Nat.zero_add]
      refine Nat.mul_le_mul_right _ ?_
      rw [e]; simp
    have g2 := hl x (by rw [e]; simp)
    have g3 : totalR (done ++ [x]) = totalR done + x := by simp [totalR]
    simp [start, O.isD, O.flat, isInst, isTy, tyNames, tyN, tyNs, anyN, O.toD, eqOk, D.plain, D.depth, D.eqv, D.flat, E.place, E.quiet, E.quiet.go, E.quietO, stEs, stE, asgT, cxK_own, cxK_cel, cxK_call, cxK_make, bindT.go, Tg.slots, Tg.slots.go, wipe, putBack, dOnly, ixN, bls_map, pures_map', pures_mapf, toDs_mapf, toDs_map', ints_map, E.keeps, isN, isL, modR, modPath, appAt, w_plus (hR.sm g1) (hB.sm g2), g3]
  · rintro s ⟨x2, rfl⟩
    simp [start, O.isD, O.flat, isInst, isTy, tyNames, tyN, tyNs, anyN, O.toD, eqOk, D.plain, D.depth, D.eqv, D.flat, E.place, E.quiet, E.quiet.go, E.quietO, stEs, stE, asgT, cxK_own, cxK_cel, cxK_call, cxK_make, bindT.go, Tg.slots, Tg.slots.go, wipe, putBack, dOnly, ixN, bls_map, pures_map', pures_mapf, toDs_mapf, toDs_map', ints_map, E.keeps, isN, isL, modR, modPath, appAt]
theorem w_ratios {b : Nat} {p : Nat × List Nat} (hp : POk b p) (hb : b ≤ 3000) (hl : p.2.length ≤ 1000) {m : Nat} (hm : 3 ≤ m) : callD loop prog m 59 [pD p] sto = some (.lst ((valP p).map fun q => .d (enc q)), sto) := by
  obtain ⟨k, rfl⟩ : ∃ k, m = k + 3 := ⟨m - 3, by omega⟩
  have q4 : lenOk p.2.length = true := lenOk_of (by omega)
  have h1 : p.1 < bigB := Nat.lt_trans (Nat.lt_of_le_of_lt hp.le (pow_bigA (by omega))) bigAB
  refine ends_eq (run_def (d := d_law_ratios) rfl rfl ?_)
  simp [d_law_ratios, start, O.isD, O.flat, isInst, isTy, tyNames, tyN, tyNs, anyN, O.toD, eqOk, D.plain, D.depth, D.eqv, D.flat, E.place, E.quiet, E.quiet.go, E.quietO, stEs, stE, asgT, cxK_own, cxK_cel, cxK_call, cxK_make, bindT.go, Tg.slots, Tg.slots.go, wipe, putBack, dOnly, ixN, bls_map, pures_map', pures_mapf, toDs_mapf, toDs_map', ints_map, E.keeps, isN, isL, modR, modPath, appAt]
  refine run_map p.2 (fun n => .int (n : Nat)) (fun n => enc (mkRat (n : Int) p.1)) ?_
  have h0 := hp.pos
  simp [start, O.isD, O.flat, isInst, isTy, tyNames, tyN, tyNs, anyN, O.toD, eqOk, D.plain, D.depth, D.eqv, D.flat, E.place, E.quiet, E.quiet.go, E.quietO, stEs, stE, asgT, cxK_own, cxK_cel, cxK_call, cxK_make, bindT.go, Tg.slots, Tg.slots.go, wipe, putBack, dOnly, ixN, bls_map, pures_map', pures_mapf, toDs_mapf, toDs_map', ints_map, E.keeps, isN, isL, modR, modPath, appAt, q4, valP, Function.comp_def]
  intro n hn
  simp [w_ratio (a := (n : Int)) (b := (p.1 : Int)) (by omega) (by simpa using h1), start, O.isD, O.flat, isInst, isTy, tyNames, tyN, tyNs, anyN, O.toD, eqOk, D.plain, D.depth, D.eqv, D.flat, E.place, E.quiet, E.quiet.go, E.quietO, stEs, stE, asgT, cxK_own, cxK_cel, cxK_call, cxK_make, bindT.go, Tg.slots, Tg.slots.go, wipe, putBack, dOnly, ixN, bls_map, pures_map', pures_mapf, toDs_mapf, toDs_map', ints_map, E.keeps, isN, isL, modR, modPath, appAt]
/-- one step, as the law does it -/
theorem w_step {rows : List (Nat × List Nat)} (h : ROk rows) {N B : Nat} {v : List Rat} {d d' : D} (hds : seqOf d = some (rows.map pD)) (hd2 : bi .len [d] = some (.d (.int (rows.length : Nat)))) (hd' : seqOf d' = some (v.map enc)) (hv : GL N B v) (hl : v.length = rows.length) (hR : Room (N * totR rows) (8 * B)) {m : Nat} (hm : 5 ≤ m) :
    callD loop prog m 54 [d, d'] sto = some (.lst ((stepV rows v).map fun q => .d (enc q)), sto) := by
  obtain ⟨k, rfl⟩ : ∃ k, m = k + 5 := ⟨m - 5, by omega⟩
  have hn : noCell (.d d) = true := by cases d <;> first | rfl | cases hds
  have hn' : noCell (.d d') = true := by cases d' <;> first | rfl | cases hd'
  have h2 := h.many.2
  have ht := totR_spec h
  have hr : itk .range [.int (rows.length : Nat)] = some ((List.range rows.length).map fun (j : Nat) => .int (j : Int)) := q_range (by omega)
  have hN : 0 < N := Nat.pos_of_mul_pos_right hR.pos
  have hRN : Room N (8 * B) := ⟨hN, Nat.lt_of_le_of_lt (Nat.le_mul_of_pos_right _ ht.1) hR.den, Nat.lt_of_le_of_lt (Nat.mul_le_mul_left _ (Nat.le_mul_of_pos_right _ ht.1)) hR.num⟩
  refine ends_eq (run_def (d := d_law_step) rfl rfl ?_)
  simp [d_law_step, start, O.isD, O.flat, isInst, isTy, tyNames, tyN, tyNs, anyN, O.toD, eqOk, D.plain, D.depth, D.eqv, D.flat, E.place, E.quiet, E.quiet.go, E.quietO, stEs, stE, asgT, cxK_own, cxK_cel, cxK_call, cxK_make, bindT.go, Tg.slots, Tg.slots.go, wipe, putBack, dOnly, ixN, bls_map, pures_map', pures_mapf, toDs_mapf, toDs_map', ints_map, E.keeps, isN, isL, modR, modPath, appAt]
  refine run_for (List.range rows.length) (fun j => .int (j : Nat)) (fun done s => ∃ x3, s = ⟨[some (.d d), some (.d d'), some (.lst ((List.range done.length).map fun j => .d (enc (Sg rows.length fun i => v[i]?.getD 0 * chance rows i j)))), x3, none, none], sto⟩) ?_ ?_ ?_
  · simp [start, O.isD, O.flat, isInst, isTy, tyNames, tyN, tyNs, anyN, O.toD, eqOk, D.plain, D.depth, D.eqv, D.flat, E.place, E.quiet, E.quiet.go, E.quietO, stEs, stE, asgT, cxK_own, cxK_cel, cxK_call, cxK_make, bindT.go, Tg.slots, Tg.slots.go, wipe, putBack, dOnly, ixN, bls_map, pures_map', pures_mapf, toDs_mapf, toDs_map', ints_map, E.keeps, isN, isL, modR, modPath, appAt, hr, hn, hd2]
  · rintro done x rest e s ⟨x3, rfl⟩
    have hx : x = done.length := by
      have := congrArg (fun l => l[done.length]?) e
      simp at this
      have hlt : done.length < rows.length := by
        have := congrArg List.length e
        simp at this; omega
      rw [List.getElem?_eq_getElem (by simpa using hlt)] at this
      simpa using this.symm
    have hd : done.length < rows.length := by
      have := congrArg List.length e
      simp at this; omega
    subst hx
    have hz : (v.zip rows).length = rows.length := by simp [hl]
    have q6 : lenOk (min v.length rows.length) = true := lenOk_of (by omega)
    have hmem : ∀ z ∈ v.zip rows, z.1 ∈ v ∧ z.2 ∈ rows := fun z hz => List.of_mem_zip (a := z.1) (b := z.2) hz
    have hch : ∀ r ∈ rows, G (totR rows) 1 (mkRat ((r.2[done.length]?.getD 0 : Nat) : Int) r.1) ∧ 0 ≤ mkRat ((r.2[done.length]?.getD 0 : Nat) : Int) r.1 ∧ mkRat ((r.2[done.length]?.getD 0 : Nat) : Int) r.1 ≤ 1 := by
      intro r hr
      obtain ⟨i, hi, rfl⟩ := List.getElem_of_mem hr
      obtain ⟨c1, c2, c3⟩ := chance_frac h (i := i) (j := done.length) hi
      simp only [chance, List.getElem?_eq_getElem hi, Option.getD_some] at c1 c2 c3
      refine ⟨⟨c1, ?_, ?_⟩, c2, c3⟩ <;> push_cast <;> grind
    have hRT : Room (totR rows) 1 := by
      have := pow_bigA (b := 80) (by decide)
      exact ⟨ht.1, by omega, by omega⟩
    have hparts : GL (N * totR rows) B ((v.zip rows).map fun z => z.1 * mkRat ((z.2.2[done.length]?.getD 0 : Nat) : Int) z.2.1) := by
      intro q hq
      obtain ⟨z, hz, rfl⟩ := List.mem_map.mp hq
      obtain ⟨c1, c2, c3⟩ := hch z.2 (hmem z hz).2
      exact G_mul (hv z.1 (hmem z hz).1) c1.1 c2 c3
    have htot := w_total (sto := sto) (m := k + 4) (d := .lst (((v.zip rows).map fun z => z.1 * mkRat ((z.2.2[done.length]?.getD 0 : Nat) : Int) z.2.1).map enc)) (l := (v.zip rows).map fun z => z.1 * mkRat ((z.2.2[done.length]?.getD 0 : Nat) : Int) z.2.1) (N := N * totR rows) (B := B) rfl (hR.le (by rw [List.length_map, hz]; exact Nat.mul_le_mul_right _ h2)) (hR.le (by omega)) hparts (by omega)
    have hval : totalR ((v.zip rows).map fun z => z.1 * mkRat ((z.2.2[done.length]?.getD 0 : Nat) : Int) z.2.1) = Sg rows.length fun i => v[i]?.getD 0 * chance rows i done.length := by
      rw [totalR_Sg, List.length_map, hz]
      refine Sg_congr fun i hi => ?_
      have h3 : i < v.length := by omega
      rw [List.getElem?_eq_getElem (by simp; omega)]
      simp [chance, List.getElem?_eq_getElem hi, List.getElem?_eq_getElem h3]
    rw [hval] at htot
    simp [Function.comp_def] at htot
    have q5 : lenOk (done.length + 1) = true := lenOk_of (by omega)
    simp [start, O.isD, O.flat, isInst, isTy, tyNames, tyN, tyNs, anyN, O.toD, eqOk, D.plain, D.depth, D.eqv, D.flat, E.place, E.quiet, E.quiet.go, E.quietO, stEs, stE, asgT, cxK_own, cxK_cel, cxK_call, cxK_make, bindT.go, Tg.slots, Tg.slots.go, wipe, putBack, dOnly, ixN, bls_map, pures_map', pures_mapf, toDs_mapf, toDs_map', ints_map, E.keeps, isN, isL, modR, modPath, appAt]
    refine run_map (v.zip rows) (fun z => .tup [enc z.1, pD z.2]) (fun z => enc (z.1 * mkRat ((z.2.2[done.length]?.getD 0 : Nat) : Int) z.2.1)) ?_
    simp [start, O.isD, O.flat, isInst, isTy, tyNames, tyN, tyNs, anyN, O.toD, eqOk, D.plain, D.depth, D.eqv, D.flat, E.place, E.quiet, E.quiet.go, E.quietO, stEs, stE, asgT, cxK_own, cxK_cel, cxK_call, cxK_make, bindT.go, Tg.slots, Tg.slots.go, wipe, putBack, dOnly, ixN, bls_map, pures_map', pures_mapf, toDs_mapf, toDs_map', ints_map, E.keeps, isN, isL, modR, modPath, appAt, zip_maps, q6, hn, hn', hd', hds]
    refine ⟨fun a a1 b hab => ?_, ?_⟩
    · obtain ⟨m1, m2⟩ := hmem _ hab
      simp only at m1 m2
      have hr := h.row _ m2
      simp only at hr
      obtain ⟨c1, c2, c3⟩ := hch _ m2
      have g1 := item_tup (fun n : Nat => D.int (n : Nat)) b 0 (j := done.length) (by omega)
      have g2 := w_ratio (sto := sto) (m := k + 4) (a := ((b[done.length]?.getD 0 : Nat) : Int)) (b := (a1 : Int)) (by have := hr.1; omega) (by simpa using Nat.lt_trans (Nat.lt_of_le_of_lt hr.2.1 (pow_bigA (by decide))) bigAB) (by omega)
      have g3 := w_times (sto := sto) (m := k + 4) ((hRN.le (by omega)).sm (hv a m1)) (hRT.sm c1) (by omega)
      simp at g2
      simp [start, O.isD, O.flat, isInst, isTy, tyNames, tyN, tyNs, anyN, O.toD, eqOk, D.plain, D.depth, D.eqv, D.flat, E.place, E.quiet, E.quiet.go, E.quietO, stEs, stE, asgT, cxK_own, cxK_cel, cxK_call, cxK_make, bindT.go, Tg.slots, Tg.slots.go, wipe, putBack, dOnly, ixN, bls_map, pures_map', pures_mapf, toDs_mapf, toDs_map', ints_map, E.keeps, isN, isL, modR, modPath, appAt, g1, g2, g3]
    · simp [start, O.isD, O.flat, isInst, isTy, tyNames, tyN, tyNs, anyN, O.toD, eqOk, D.plain, D.depth, D.eqv, D.flat, E.place, E.quiet, E.quiet.go, E.quietO, stEs, stE, asgT, cxK_own, cxK_cel, cxK_call, cxK_make, bindT.go, Tg.slots, Tg.slots.go, wipe, putBack, dOnly, ixN, bls_map, pures_map', pures_mapf, toDs_mapf, toDs_map', ints_map, E.keeps, isN, isL, modR, modPath, appAt, htot, q5]
      rw [List.range_succ]
      simp
  · rintro s ⟨x3, rfl⟩
    simp [start, O.isD, O.flat, isInst, isTy, tyNames, tyN, tyNs, anyN, O.toD, eqOk, D.plain, D.depth, D.eqv, D.flat, E.place, E.quiet, E.quiet.go, E.quietO, stEs, stE, asgT, cxK_own, cxK_cel, cxK_call, cxK_make, bindT.go, Tg.slots, Tg.slots.go, wipe, putBack, dOnly, ixN, bls_map, pures_map', pures_mapf, toDs_mapf, toDs_map', ints_map, E.keeps, isN, isL, modR, modPath, appAt, stepV]
end K48
end Py
end

section
set_option linter.all false
set_option Elab.async false
/-! LB: the law's own judge. -/
namespace Py
theorem isInst_int {d : D} (h : okD d = true) : ∃ b1 b2, isInst d (.ty "int") = some b1 ∧ isInst d (.ty "bool") = some b2 ∧ (!b1 || b2) = !isNum d := by
  cases d <;> first | (cases h; done) | exact ⟨_, _, rfl, rfl, rfl⟩
theorem num_neg' (q : Rat) : q.num < 0 ↔ q < 0 := by
  have h0 := Rat.num_nonneg (q := q)
  constructor
  · intro h
    by_cases h2 : 0 ≤ q
    · exact absurd (h0.mpr h2) (by omega)
    · grind
  · intro h
    by_cases h2 : 0 ≤ q.num
    · have := h0.mp h2
      grind
    · omega
theorem goL_mem {rows : List (Nat × List Nat)} : ∀ (l rest : List (List Rat)) (s h : List Rat), (hereL rows l h, subV (hereL rows l h) s) ∈ goL rows (l ++ s :: rest) h
  | [], rest, s, h => by simp [goL, hereL]
  | a :: l, rest, s, h => by
    rw [List.cons_append, goL, hereL]
    exact List.mem_cons_of_mem _ (goL_mem l rest s _)
/-- t steps of what is at the places -/
def stepN (rows : List (Nat × List Nat)) (v : List Rat) : Nat → List Rat
  | 0 => v
  | t + 1 => stepV rows (stepN rows v t)
theorem val_goneN {rows : List (Nat × List Nat)} (h : ROk rows) {b : Nat} {p : Nat × List Nat} (hp : POk b p) : ∀ t, valP (goneN rows p t) = stepN rows (valP p) t
  | 0 => rfl
  | t + 1 => by rw [goneN, val_gone h (pok_goneN h hp t).pos, val_goneN h hp t, stepN]
theorem stepN_len {rows : List (Nat × List Nat)} {v : List Rat} (h : v.length = rows.length) : ∀ t, (stepN rows v t).length = rows.length
  | 0 => h
  | t + 1 => step_len
theorem stepN_G {rows : List (Nat × List Nat)} (h : ROk rows) {N : Nat} {v : List Rat} (hv : GL N 1 v) : ∀ t, GL (N * totR rows ^ t) (8 ^ t) (stepN rows v t)
  | 0 => by simpa [stepN] using hv
  | t + 1 => by
    rw [stepN, Nat.pow_succ, ← Nat.mul_assoc, Nat.pow_succ, Nat.mul_comm (8 ^ t)]
    exact GL_step h (stepN_G h hv t)
def posPart (q : Rat) : Rat := if q < 0 then 0 else q
def partL (v w : List Rat) : Rat := totalR ((v.zip w).map fun z => posPart (z.1 - z.2))
theorem G_pos {N B : Nat} {q : Rat} (h : G N B q) : G N B (posPart q) := by
  unfold posPart
  by_cases hq : q < 0
  · rw [if_pos hq]; exact G_zero
  · rw [if_neg hq]; exact h
/-- the law's list of how often both have met -/
def metL (rows : List (Nat × List Nat)) (v w : List Rat) (t : Nat) : List Rat := (List.range (t + 1)).map fun u => 1 - partL (stepN rows v u) (stepN rows w u)
theorem cumV_take : ∀ (a b : List (List Rat)) (x : Rat), cumV (a ++ b) x = cumV a x ++ cumV b ((cumV a x).getLast?.getD x)
  | [], b, x => by simp [cumV]
  | r :: a, b, x => by
    rw [List.cons_append, cumV, cumV, cumV_take a b]
    cases h : cumV a (x + totalR r) <;> simp [List.getLast?_cons]
namespace K48
variable {sto : List O}
theorem w_is_ratio {d : D} (h : okD d = true) {m : Nat} (hm : 2 ≤ m) : callD loop prog m 63 [d] sto = some (.d (.bl (isRat d)), sto) := by
  obtain ⟨k, rfl⟩ : ∃ k, m = k + 2 := ⟨m - 2, by omega⟩
  refine ends_eq (run_def (d := d_law_is_ratio) rfl rfl ?_)
  by_cases ht : isTup d = true
  · cases d <;> try cases ht
    rename_i xs
    by_cases hl : xs.length = 2
    · simp only [okD, Bool.and_eq_true] at h
      have e0 : isInst (.tup xs) (.ty "tuple") = some true := by rfl
      have e1 : ((xs.length : Int) == 2) = true := by simpa using (by omega : (xs.length : Int) = 2)
      have e2 : (xs.length : Int) = 2 := by omega
      simp [d_law_is_ratio, start, O.isD, O.flat, O.toD, eqOk, D.plain, D.depth, D.eqv, D.flat, E.place, E.quiet, E.quiet.go, E.quietO, stEs, stE, asgT, cxK_own, cxK_cel, cxK_call, cxK_make, bindT.go, Tg.slots, Tg.slots.go, wipe, putBack, dOnly, ixN, bls_map, pures_map', pures_mapf, toDs_mapf, toDs_map', ints_map, E.keeps, isN, isL, modR, modPath, appAt, e0, e1, e2]
      refine run_filt xs id (fun _ => .int 1) (fun d => !isNum d) ?_
      simp [start, O.isD, O.flat, O.toD, eqOk, D.plain, D.depth, D.eqv, D.flat, E.place, E.quiet, E.quiet.go, E.quietO, stEs, stE, asgT, cxK_own, cxK_cel, cxK_call, cxK_make, bindT.go, Tg.slots, Tg.slots.go, wipe, putBack, dOnly, ixN, bls_map, pures_map', pures_mapf, toDs_mapf, toDs_map', ints_map, E.keeps, isN, isL, modR, modPath, appAt, h.1]
      refine ⟨fun x hx => ?_, ?_⟩
      · obtain ⟨b1, b2, i1, i2, i3⟩ := isInst_int (okDs_mem h.2 x hx)
        have nx := noCell_ok (okDs_mem h.2 x hx)
        cases b1 <;> cases b2 <;> simp only [Bool.not_true, Bool.not_false, Bool.or_self, Bool.or_true, Bool.or_false, Bool.true_or, Bool.false_or, Bool.true_eq, Bool.false_eq] at i3 <;> simp [nx, i1, i2, i3, start, O.isD, O.flat, O.toD, eqOk, D.plain, D.depth, D.eqv, D.flat, E.place, E.quiet, E.quiet.go, E.quietO, stEs, stE, asgT, cxK_own, cxK_cel, cxK_call, cxK_make, bindT.go, Tg.slots, Tg.slots.go, wipe, putBack, dOnly, ixN, bls_map, pures_map', pures_mapf, toDs_mapf, toDs_map', ints_map, E.keeps, isN, isL, modR, modPath, appAt]
      · rcases xs with _ | ⟨x, _ | ⟨y, _ | ⟨z, xs⟩⟩⟩ <;> try (exfalso; simp at hl; done)
        by_cases n1 : isNum x = true
        · by_cases n2 : isNum y = true
          · cases x <;> try cases n1
            cases y <;> try cases n2
            rename_i a b
            simp [isNum, start, O.isD, O.flat, O.toD, eqOk, D.plain, D.depth, D.eqv, D.flat, E.place, E.quiet, E.quiet.go, E.quietO, stEs, stE, asgT, cxK_own, cxK_cel, cxK_call, cxK_make, bindT.go, Tg.slots, Tg.slots.go, wipe, putBack, dOnly, ixN, bls_map, pures_map', pures_mapf, toDs_mapf, toDs_map', ints_map, E.keeps, isN, isL, modR, modPath, appAt, w_common, isRat, divN]
            by_cases hb : 1 ≤ b
            · simp [hb]
              by_cases hq : a.natAbs.gcd b.natAbs = 1
              · simp [hq, hb]
              · have : (((a.natAbs.gcd b.natAbs : Nat) : Int) == 1) = false := by simpa using (by omega : ((a.natAbs.gcd b.natAbs : Nat) : Int) ≠ 1)
                simp [hq, this]
            · simp [hb]
          · have hn : isRat (.tup [x, y]) = false := by
              cases x <;> try rfl
              cases y <;> first | rfl | exact absurd rfl n2
            simp [n1, n2, hn, start, O.isD, O.flat, O.toD, eqOk, D.plain, D.depth, D.eqv, D.flat, E.place, E.quiet, E.quiet.go, E.quietO, stEs, stE, asgT, cxK_own, cxK_cel, cxK_call, cxK_make, bindT.go, Tg.slots, Tg.slots.go, wipe, putBack, dOnly, ixN, bls_map, pures_map', pures_mapf, toDs_mapf, toDs_map', ints_map, E.keeps, isN, isL, modR, modPath, appAt]
        · have hn : isRat (.tup [x, y]) = false := by
            cases x <;> first | rfl | exact absurd rfl n1
          simp [n1, hn, start, O.isD, O.flat, O.toD, eqOk, D.plain, D.depth, D.eqv, D.flat, E.place, E.quiet, E.quiet.go, E.quietO, stEs, stE, asgT, cxK_own, cxK_cel, cxK_call, cxK_make, bindT.go, Tg.slots, Tg.slots.go, wipe, putBack, dOnly, ixN, bls_map, pures_map', pures_mapf, toDs_mapf, toDs_map', ints_map, E.keeps, isN, isL, modR, modPath, appAt]
    · have hn : isRat (.tup xs) = false := by
        rcases xs with _ | ⟨x, _ | ⟨y, _ | ⟨z, xs⟩⟩⟩
        · rfl
        · cases x <;> rfl
        · exact absurd rfl hl
        · cases x <;> first | rfl | (cases y <;> rfl)
      have : ((xs.length : Int) == 2) = false := by simpa using (by omega : (xs.length : Int) ≠ 2)
      have h3 : (xs.length : Int) ≠ 2 := by omega
      simp [d_law_is_ratio, start, O.isD, O.flat, isInst, isTy, tyNames, tyN, tyNs, anyN, O.toD, eqOk, D.plain, D.depth, D.eqv, D.flat, E.place, E.quiet, E.quiet.go, E.quietO, stEs, stE, asgT, cxK_own, cxK_cel, cxK_call, cxK_make, bindT.go, Tg.slots, Tg.slots.go, wipe, putBack, dOnly, ixN, bls_map, pures_map', pures_mapf, toDs_mapf, toDs_map', ints_map, E.keeps, isN, isL, modR, modPath, appAt, hn, this, h3]
  · have hn : isRat d = false := by
      cases d <;> first | rfl | exact absurd rfl ht
    have hc := noCell_ok h
    simp [d_law_is_ratio, start, O.isD, O.flat, O.toD, eqOk, D.plain, D.depth, D.eqv, D.flat, E.place, E.quiet, E.quiet.go, E.quietO, stEs, stE, asgT, cxK_own, cxK_cel, cxK_call, cxK_make, bindT.go, Tg.slots, Tg.slots.go, wipe, putBack, dOnly, ixN, bls_map, pures_map', pures_mapf, toDs_mapf, toDs_map', ints_map, E.keeps, isN, isL, modR, modPath, appAt, hc, isInst_tup h, ht, hn]
theorem w_is_row {d : D} {n : Nat} (h : okD d = true) {m : Nat} (hm : 3 ≤ m) : callD loop prog m 64 [.int (n : Nat), d] sto = some (.d (.bl (isRow n d)), sto) := by
  obtain ⟨k, rfl⟩ : ∃ k, m = k + 3 := ⟨m - 3, by omega⟩
  refine ends_eq (run_def (d := d_law_is_row) rfl rfl ?_)
  have hc := noCell_ok h
  simp [d_law_is_row, start, O.isD, O.flat, O.toD, eqOk, D.plain, D.depth, D.eqv, D.flat, E.place, E.quiet, E.quiet.go, E.quietO, stEs, stE, asgT, cxK_own, cxK_cel, cxK_call, cxK_make, bindT.go, Tg.slots, Tg.slots.go, wipe, putBack, dOnly, ixN, bls_map, pures_map', pures_mapf, toDs_mapf, toDs_map', ints_map, E.keeps, isN, isL, modR, modPath, appAt, hc, isInst_tup h]
  cases d <;> simp [isTup, isRow, start, O.isD, O.flat, O.toD, eqOk, D.plain, D.depth, D.eqv, D.flat, E.place, E.quiet, E.quiet.go, E.quietO, stEs, stE, asgT, cxK_own, cxK_cel, cxK_call, cxK_make, bindT.go, Tg.slots, Tg.slots.go, wipe, putBack, dOnly, ixN, bls_map, pures_map', pures_mapf, toDs_mapf, toDs_map', ints_map, E.keeps, isN, isL, modR, modPath, appAt]
  rename_i xs
  simp only [okD, Bool.and_eq_true] at h
  refine ⟨fun e e' => absurd (show (xs.length : Int) = (n : Int) by omega) e, fun e => ?_⟩
  refine run_filt xs id (fun _ => .int 1) (fun x => !isRat x) ?_
  simp [start, O.isD, O.flat, O.toD, eqOk, D.plain, D.depth, D.eqv, D.flat, E.place, E.quiet, E.quiet.go, E.quietO, stEs, stE, asgT, cxK_own, cxK_cel, cxK_call, cxK_make, bindT.go, Tg.slots, Tg.slots.go, wipe, putBack, dOnly, ixN, bls_map, pures_map', pures_mapf, toDs_mapf, toDs_map', ints_map, E.keeps, isN, isL, modR, modPath, appAt, h.1]
  refine ⟨fun x hx => by simp [w_is_ratio (okDs_mem h.2 x hx), start, O.isD, O.flat, O.toD, eqOk, D.plain, D.depth, D.eqv, D.flat, E.place, E.quiet, E.quiet.go, E.quietO, stEs, stE, asgT, cxK_own, cxK_cel, cxK_call, cxK_make, bindT.go, Tg.slots, Tg.slots.go, wipe, putBack, dOnly, ixN, bls_map, pures_map', pures_mapf, toDs_mapf, toDs_map', ints_map, E.keeps, isN, isL, modR, modPath, appAt], ?_⟩
  have : xs.length = n := by omega
  simp [this, List.not_all_eq_any_not]
theorem w_is_possible {rows : List (Nat × List Nat)} (h : ROk rows) {N : Nat} {v : List Rat} {d d' : D} {S : List (List Rat)} (hds : seqOf d = some (rows.map pD)) (hd2 : bi .len [d] = some (.d (.int (rows.length : Nat)))) (hl : v.length = rows.length) (hG : GL N 1 v) (hS : ∀ s ∈ S, GL N 4 s ∧ s.length = rows.length)
    (hd : seqOf d' = some (S.map rowD)) (hlen : S.length ≤ 41) (hR : Room (N * totR rows ^ S.length) (2 ^ (6 * S.length + 6))) {m : Nat} (hm : 6 ≤ m) :
    callD loop prog m 65 [d, .lst (v.map enc), d'] sto = some (.d (.bl (posB rows S v)), sto) := by
  obtain ⟨k, rfl⟩ : ∃ k, m = k + 6 := ⟨m - 6, by omega⟩
  have h2 := h.many.2
  have ht := totR_spec h
  have hn : noCell (.d d) = true := by cases d <;> first | rfl | cases hds
  have hn' : noCell (.d d') = true := by cases d' <;> first | rfl | cases hd
  refine ends_eq (run_def (d := d_law_is_possible) rfl rfl ?_)
  simp [d_law_is_possible, start, O.isD, O.flat, isInst, isTy, tyNames, tyN, tyNs, anyN, O.toD, eqOk, D.plain, D.depth, D.eqv, D.flat, E.place, E.quiet, E.quiet.go, E.quietO, stEs, stE, asgT, cxK_own, cxK_cel, cxK_call, cxK_make, bindT.go, Tg.slots, Tg.slots.go, wipe, putBack, dOnly, ixN, bls_map, pures_map', pures_mapf, toDs_mapf, toDs_map', ints_map, E.keeps, isN, isL, modR, modPath, appAt]
  refine run_for S rowD (fun done s => posB rows done v = true ∧ ∃ x4, s = ⟨[some (.d d), some (.d (.lst (v.map enc))), some (.d d'), some (.d (.lst ((hereL rows done v).map enc))), x4, none, none, none], sto⟩) ?_ ?_ ?_
  · simp [Function.comp_def, start, O.isD, O.flat, isInst, isTy, tyNames, tyN, tyNs, anyN, O.toD, eqOk, D.plain, D.depth, D.eqv, D.flat, E.place, E.quiet, E.quiet.go, E.quietO, stEs, stE, asgT, cxK_own, cxK_cel, cxK_call, cxK_make, bindT.go, Tg.slots, Tg.slots.go, wipe, putBack, dOnly, ixN, bls_map, pures_map', pures_mapf, toDs_mapf, toDs_map', ints_map, E.keeps, isN, isL, modR, modPath, appAt, hn', hd, hereL, posB, goL]
  · rintro done x rest e s ⟨hpos, x4, rfl⟩
    have hlt : done.length < S.length := by
      have := congrArg List.length e
      simp at this; omega
    obtain ⟨g1, g2⟩ := hereL_G h hG hl done fun s hs => hS s (by rw [e]; simp [hs])
    have g3 := hS x (by rw [e]; simp)
    have hpw : N * totR rows ^ done.length * totR rows ≤ N * totR rows ^ S.length := by
      rw [Nat.mul_assoc, ← Nat.pow_succ]
      exact Nat.mul_le_mul_left _ (Nat.pow_le_pow_right ht.1 hlt)
    have hN0 : 0 < N * totR rows ^ done.length := by
      have : 0 < N := Nat.pos_of_mul_pos_right hR.pos
      exact Nat.mul_pos this (Nat.pow_pos ht.1)
    have hR1 : Room (N * totR rows ^ done.length * totR rows) (2 ^ (6 * S.length + 6)) := ⟨Nat.mul_pos hN0 ht.1, Nat.lt_of_le_of_lt hpw hR.den, Nat.lt_of_le_of_lt (Nat.mul_le_mul_left _ hpw) hR.num⟩
    have hR0 : Room (N * totR rows ^ done.length) (2 ^ (6 * S.length + 6)) := ⟨hN0, Nat.lt_of_le_of_lt (Nat.le_mul_of_pos_right _ ht.1) hR1.den, Nat.lt_of_le_of_lt (Nat.mul_le_mul_left _ (Nat.le_mul_of_pos_right _ ht.1)) hR1.num⟩
    have hp1 : 2 ^ (6 * done.length) + 4 ≤ 2 ^ (6 * S.length) := by
      have e1 : 2 ^ (6 * (done.length + 1)) = 64 * 2 ^ (6 * done.length) := by rw [Nat.mul_add, Nat.pow_add, Nat.mul_comm]
      have e2 : 2 ^ (6 * (done.length + 1)) ≤ 2 ^ (6 * S.length) := le_two_pow (by omega)
      have : 0 < 2 ^ (6 * done.length) := Nat.pow_pos (by decide)
      omega
    have hpos0 : 0 < 2 ^ (6 * S.length) := Nat.pow_pos (by decide)
    have hp2 : 2 ^ (6 * S.length + 6) = 64 * 2 ^ (6 * S.length) := by rw [Nat.pow_add, Nat.mul_comm]
    have gs := GL_sub g1 (GL_scale (M := totR rows ^ done.length) g3.1)
    have q6 : lenOk (min (hereL rows done v).length x.length) = true := lenOk_of (by omega)
    have hsl : (subV (hereL rows done v) x).length = rows.length := by rw [sub_len (by rw [g3.2, g2]), g2]
    have q8 : lenOk (subV (hereL rows done v) x).length = true := lenOk_of (by omega)
    have hb1 := w_step (sto := sto) h (N := N * totR rows ^ done.length) (B := 2 ^ (6 * S.length)) (v := subV (hereL rows done v) x) (d := d) (d' := .lst ((subV (hereL rows done v) x).map enc)) hds hd2 rfl (GL_mono gs hp1) hsl (hR1.le (by omega)) (m := k + 5) (by omega)
    simp [start, O.isD, O.flat, isInst, isTy, tyNames, tyN, tyNs, anyN, O.toD, eqOk, D.plain, D.depth, D.eqv, D.flat, E.place, E.quiet, E.quiet.go, E.quietO, stEs, stE, asgT, cxK_own, cxK_cel, cxK_call, cxK_make, bindT.go, Tg.slots, Tg.slots.go, wipe, putBack, dOnly, ixN, bls_map, pures_map', pures_mapf, toDs_mapf, toDs_map', ints_map, E.keeps, isN, isL, modR, modPath, appAt]
    refine run_map ((hereL rows done v).zip x) (fun z => .tup [enc z.1, enc z.2]) (fun z => enc (z.1 - z.2)) ?_
    simp [start, O.isD, O.flat, isInst, isTy, tyNames, tyN, tyNs, anyN, O.toD, eqOk, D.plain, D.depth, D.eqv, D.flat, E.place, E.quiet, E.quiet.go, E.quietO, stEs, stE, asgT, cxK_own, cxK_cel, cxK_call, cxK_make, bindT.go, Tg.slots, Tg.slots.go, wipe, putBack, dOnly, ixN, bls_map, pures_map', pures_mapf, toDs_mapf, toDs_map', ints_map, E.keeps, isN, isL, modR, modPath, appAt, zip_maps, q6, rowD]
    refine ⟨fun a a' haa => ?_, ?_⟩
    · have hm := List.of_mem_zip haa
      have s1 := (hR0.le (by omega : 2 ^ (6 * done.length) ≤ _)).sm (g1 a hm.1)
      have s2 := (hR0.le (by omega : 4 ≤ _)).sm (GL_scale (M := totR rows ^ done.length) g3.1 a' hm.2)
      simp [w_minus s1 s2, start, O.isD, O.flat, isInst, isTy, tyNames, tyN, tyNs, anyN, O.toD, eqOk, D.plain, D.depth, D.eqv, D.flat, E.place, E.quiet, E.quiet.go, E.quietO, stEs, stE, asgT, cxK_own, cxK_cel, cxK_call, cxK_make, bindT.go, Tg.slots, Tg.slots.go, wipe, putBack, dOnly, ixN, bls_map, pures_map', pures_mapf, toDs_mapf, toDs_map', ints_map, E.keeps, isN, isL, modR, modPath, appAt]
    · have e1 : (List.map (fun x => enc (x.1 - x.2)) ((hereL rows done v).zip x)) = (subV (hereL rows done v) x).map enc := by simp [subV]
      rw [e1]
      refine run_filt (subV (hereL rows done v) x) enc (fun _ => .int 1) (fun q => decide (q < 0)) ?_
      simp [start, O.isD, O.flat, isInst, isTy, tyNames, tyN, tyNs, anyN, O.toD, eqOk, D.plain, D.depth, D.eqv, D.flat, E.place, E.quiet, E.quiet.go, E.quietO, stEs, stE, asgT, cxK_own, cxK_cel, cxK_call, cxK_make, bindT.go, Tg.slots, Tg.slots.go, wipe, putBack, dOnly, ixN, bls_map, pures_map', pures_mapf, toDs_mapf, toDs_map', ints_map, E.keeps, isN, isL, modR, modPath, appAt, q8]
      refine ⟨fun q hq => ?_, ?_⟩
      · exact ⟨(num_neg' q).mp, fun h0 => by grind⟩
      · refine ⟨fun q hq hq0 => ?_, fun hall => ?_⟩
        · have m1 := goL_mem (rows := rows) done rest x v
          rw [← e] at m1
          simp only [posB, List.all_eq_false]
          exact ⟨_, m1, by simp; exact ⟨q, hq, by grind⟩⟩
        · simp [start, O.isD, O.flat, isInst, isTy, tyNames, tyN, tyNs, anyN, O.toD, eqOk, D.plain, D.depth, D.eqv, D.flat, E.place, E.quiet, E.quiet.go, E.quietO, stEs, stE, asgT, cxK_own, cxK_cel, cxK_call, cxK_make, bindT.go, Tg.slots, Tg.slots.go, wipe, putBack, dOnly, ixN, bls_map, pures_map', pures_mapf, toDs_mapf, toDs_map', ints_map, E.keeps, isN, isL, modR, modPath, appAt, hb1, hereL_snoc, posB, goL_snoc]
          refine ⟨by simpa [posB] using hpos, fun q hq => ?_⟩
          have := hall q hq
          grind
  · rintro s ⟨hpos, x4, rfl⟩
    simp [start, O.isD, O.flat, isInst, isTy, tyNames, tyN, tyNs, anyN, O.toD, eqOk, D.plain, D.depth, D.eqv, D.flat, E.place, E.quiet, E.quiet.go, E.quietO, stEs, stE, asgT, cxK_own, cxK_cel, cxK_call, cxK_make, bindT.go, Tg.slots, Tg.slots.go, wipe, putBack, dOnly, ixN, bls_map, pures_map', pures_mapf, toDs_mapf, toDs_map', ints_map, E.keeps, isN, isL, modR, modPath, appAt, hpos]
end K48
end Py
end

section
set_option linter.all false
set_option Elab.async false
/-! LC: the law's judge of timetables. -/
namespace Py
theorem partL_G {N B : Nat} {v w : List Rat} (hv : GL N B v) (hw : GL N B w) (hl : w.length = v.length) : GL N (B + B) ((v.zip w).map fun z => posPart (z.1 - z.2)) ∧ G N (v.length * (B + B)) (partL v w) := by
  have h1 : GL N (B + B) ((v.zip w).map fun z => posPart (z.1 - z.2)) := by
    intro q hq
    obtain ⟨z, hz, rfl⟩ := List.mem_map.mp hq
    have := List.of_mem_zip (a := z.1) (b := z.2) hz
    exact G_pos (G_sub (hv _ this.1) (hw _ this.2))
  refine ⟨h1, ?_⟩
  have := G_total (N := N) (B := B + B) (C := 0) (x := 0) G_zero h1
  rw [Nat.zero_add] at this
  unfold partL totalR
  simpa [hl] using this
namespace K48
variable {sto : List O}
theorem w_parting {N B : Nat} {v w : List Rat} (hv : GL N B v) (hw : GL N B w) (hl : w.length = v.length) (h8 : v.length ≤ 8) (hR : Room N (8 * (B + B))) {m : Nat} (hm : 5 ≤ m) :
    callD loop prog m 62 [.lst (v.map enc), .lst (w.map enc)] sto = some (.d (enc (partL v w)), sto) := by
  obtain ⟨k, rfl⟩ : ∃ k, m = k + 5 := ⟨m - 5, by omega⟩
  obtain ⟨g1, g2⟩ := partL_G hv hw hl
  have q4 : lenOk (min v.length w.length) = true := lenOk_of (by omega)
  have e1 := w_total (sto := sto) (m := k + 4) (d := .lst (((v.zip w).map fun z => posPart (z.1 - z.2)).map enc)) (l := (v.zip w).map fun z => posPart (z.1 - z.2)) (N := N) (B := B + B) rfl (hR.le (by simp [hl]; exact Nat.mul_le_mul_right _ h8)) (hR.le (by omega)) g1 (by omega)
  refine ends_eq (run_def (d := d_law_parting) rfl rfl ?_)
  simp [d_law_parting, start, O.isD, O.flat, isInst, isTy, tyNames, tyN, tyNs, anyN, O.toD, eqOk, D.plain, D.depth, D.eqv, D.flat, E.place, E.quiet, E.quiet.go, E.quietO, stEs, stE, asgT, cxK_own, cxK_cel, cxK_call, cxK_make, bindT.go, Tg.slots, Tg.slots.go, wipe, putBack, dOnly, ixN, bls_map, pures_map', pures_mapf, toDs_mapf, toDs_map', ints_map, E.keeps, isN, isL, modR, modPath, appAt]
  refine run_map (v.zip w) (fun z => .tup [enc z.1, enc z.2]) (fun z => enc (posPart (z.1 - z.2))) ?_
  simp [start, O.isD, O.flat, isInst, isTy, tyNames, tyN, tyNs, anyN, O.toD, eqOk, D.plain, D.depth, D.eqv, D.flat, E.place, E.quiet, E.quiet.go, E.quietO, stEs, stE, asgT, cxK_own, cxK_cel, cxK_call, cxK_make, bindT.go, Tg.slots, Tg.slots.go, wipe, putBack, dOnly, ixN, bls_map, pures_map', pures_mapf, toDs_mapf, toDs_map', ints_map, E.keeps, isN, isL, modR, modPath, appAt, zip_maps, q4, enc_zero]
  refine ⟨fun a b hab => ?_, ?_⟩
  · have hm := List.of_mem_zip hab
    have s1 := (hR.le (by omega)).sm (hv a hm.1)
    have s2 := (hR.le (by omega)).sm (hw b hm.2)
    have s3 := (hR.le (by omega)).sm (G_sub (hv a hm.1) (hw b hm.2))
    have := w_upper (sto := sto) (m := k + 4) smR_zero s3 (by omega)
    simp [w_minus s1 s2, this, start, O.isD, O.flat, isInst, isTy, tyNames, tyN, tyNs, anyN, O.toD, eqOk, D.plain, D.depth, D.eqv, D.flat, E.place, E.quiet, E.quiet.go, E.quietO, stEs, stE, asgT, cxK_own, cxK_cel, cxK_call, cxK_make, bindT.go, Tg.slots, Tg.slots.go, wipe, putBack, dOnly, ixN, bls_map, pures_map', pures_mapf, toDs_mapf, toDs_map', ints_map, E.keeps, isN, isL, modR, modPath, appAt, posPart]
  · simp [Function.comp_def] at e1
    simp [e1, partL, Function.comp_def]
theorem w_is_right_no {rows : List (Nat × List Nat)} {t : Nat} {d1 d2 d3 d : D} (hd2 : bi .len [d1] = some (.d (.int (rows.length : Nat)))) (hn1 : noCell (.d d1) = true) (hd : okD d = true)
    (hno : isLis d = true → ∀ xs, seqOf d = some xs → xs.all (isChance rows.length) = true → xs.length ≠ t + 1) {m : Nat} (hm : 7 ≤ m) :
    callD loop prog m 66 [d1, d2, d3, .int (t : Nat), d] sto = some (.d (.bl false), sto) := by
  obtain ⟨k, rfl⟩ : ∃ k, m = k + 7 := ⟨m - 7, by omega⟩
  have hc := noCell_ok hd
  refine ends_eq (run_def (d := d_law_is_right) rfl rfl ?_)
  by_cases hi : isLis d = true
  · obtain ⟨xs, hs⟩ := seq_of_lis hi
    obtain ⟨k1, k2, k3⟩ := okDs_seq hd hs hi
    by_cases hl : xs.length = t + 1
    · have e1 : (((xs.length : Nat) : Int) == (t : Int) + 1) = true := by simp; omega
      have e2 : (xs.length : Int) = (t : Int) + 1 := by omega
      simp [d_law_is_right, start, O.isD, O.flat, O.toD, eqOk, D.plain, D.depth, D.eqv, D.flat, E.place, E.quiet, E.quiet.go, E.quietO, stEs, stE, asgT, cxK_own, cxK_cel, cxK_call, cxK_make, bindT.go, Tg.slots, Tg.slots.go, wipe, putBack, dOnly, ixN, bls_map, pures_map', pures_mapf, toDs_mapf, toDs_map', ints_map, E.keeps, isN, isL, modR, modPath, appAt, isInst_lis hd, hi, hc, k3, e1, e2]
      refine run_for xs id (fun done s => done.all (isChance rows.length) = true ∧ ∃ x5 x6, s = ⟨[some (.d d1), some (.d d2), some (.d d3), some (.d (.int (t : Nat))), some (.d d), x5, x6, none, none, none], sto⟩) ?_ ?_ ?_
      · simp [start, O.isD, O.flat, O.toD, eqOk, D.plain, D.depth, D.eqv, D.flat, E.place, E.quiet, E.quiet.go, E.quietO, stEs, stE, asgT, cxK_own, cxK_cel, cxK_call, cxK_make, bindT.go, Tg.slots, Tg.slots.go, wipe, putBack, dOnly, ixN, bls_map, pures_map', pures_mapf, toDs_mapf, toDs_map', ints_map, E.keeps, isN, isL, modR, modPath, appAt, hc, hs]
      · rintro done x rest e s ⟨ha, x5, x6, rfl⟩
        have hx : okD x = true := okDs_mem k1 x (by rw [e]; simp)
        have hcx := noCell_ok hx
        by_cases hr : isRow rows.length x = true
        · obtain ⟨v, rfl, hv⟩ := isRow_rowD hr
          have q4 : lenOk v.length = true := by
            simp [rowD, okD] at hx; exact hx.1
          simp [start, O.isD, O.flat, O.toD, eqOk, D.plain, D.depth, D.eqv, D.flat, E.place, E.quiet, E.quiet.go, E.quietO, stEs, stE, asgT, cxK_own, cxK_cel, cxK_call, cxK_make, bindT.go, Tg.slots, Tg.slots.go, wipe, putBack, dOnly, ixN, bls_map, pures_map', pures_mapf, toDs_mapf, toDs_map', ints_map, E.keeps, isN, isL, modR, modPath, appAt, hn1, hd2, w_is_row hx, hr]
          refine run_filt v enc (fun _ => .int 1) (fun q => decide (q < 0)) ?_
          simp [start, O.isD, O.flat, O.toD, eqOk, D.plain, D.depth, D.eqv, D.flat, E.place, E.quiet, E.quiet.go, E.quietO, stEs, stE, asgT, cxK_own, cxK_cel, cxK_call, cxK_make, bindT.go, Tg.slots, Tg.slots.go, wipe, putBack, dOnly, ixN, bls_map, pures_map', pures_mapf, toDs_mapf, toDs_map', ints_map, E.keeps, isN, isL, modR, modPath, appAt, rowD, q4]
          refine ⟨fun q hq => ⟨(num_neg' q).mp, fun h0 => by grind⟩, ?_⟩
          intro hall
          have := rowD_isChance (n := rows.length) hv (fun q hq => by have := hall q hq; grind)
          simp only [rowD] at this
          exact ⟨by simpa using ha, this⟩
        · simp [start, O.isD, O.flat, O.toD, eqOk, D.plain, D.depth, D.eqv, D.flat, E.place, E.quiet, E.quiet.go, E.quietO, stEs, stE, asgT, cxK_own, cxK_cel, cxK_call, cxK_make, bindT.go, Tg.slots, Tg.slots.go, wipe, putBack, dOnly, ixN, bls_map, pures_map', pures_mapf, toDs_mapf, toDs_map', ints_map, E.keeps, isN, isL, modR, modPath, appAt, hn1, hd2, w_is_row hx, hr]
      · rintro s ⟨ha, x5, x6, rfl⟩
        exact absurd hl (hno hi xs hs ha)
    · have e1 : (((xs.length : Nat) : Int) == (t : Int) + 1) = false := by simp; omega
      have e2 : ¬ ((xs.length : Int) = (t : Int) + 1) := by omega
      simp [d_law_is_right, start, O.isD, O.flat, O.toD, eqOk, D.plain, D.depth, D.eqv, D.flat, E.place, E.quiet, E.quiet.go, E.quietO, stEs, stE, asgT, cxK_own, cxK_cel, cxK_call, cxK_make, bindT.go, Tg.slots, Tg.slots.go, wipe, putBack, dOnly, ixN, bls_map, pures_map', pures_mapf, toDs_mapf, toDs_map', ints_map, E.keeps, isN, isL, modR, modPath, appAt, isInst_lis hd, hi, hc, k3, e1, e2]
  · simp [d_law_is_right, start, O.isD, O.flat, O.toD, eqOk, D.plain, D.depth, D.eqv, D.flat, E.place, E.quiet, E.quiet.go, E.quietO, stEs, stE, asgT, cxK_own, cxK_cel, cxK_call, cxK_make, bindT.go, Tg.slots, Tg.slots.go, wipe, putBack, dOnly, ixN, bls_map, pures_map', pures_mapf, toDs_mapf, toDs_map', ints_map, E.keeps, isN, isL, modR, modPath, appAt, isInst_lis hd, hi, hc]
theorem w_is_right {rows : List (Nat × List Nat)} (h : ROk rows) {N t : Nat} {v w : List Rat} {d1 d : D} {S : List (List Rat)} (hds : seqOf d1 = some (rows.map pD)) (hd2 : bi .len [d1] = some (.d (.int (rows.length : Nat)))) (hv : v.length = rows.length) (hw : w.length = rows.length) (hG : GL N 1 v) (hG' : GL N 1 w)
    (hd : okD d = true) (hi : isLis d = true) (hs : seqOf d = some (S.map rowD)) (hlen : S.length = t + 1) (ht40 : t ≤ 40) (hS : ∀ s ∈ S, GL N 4 s ∧ s.length = rows.length) (hS0 : ∀ s ∈ S, ∀ q ∈ s, 0 ≤ q) (hR : Room (N * totR rows ^ S.length) (2 ^ (6 * S.length + 6))) (hR' : Room N 4000) {m : Nat} (hm : 7 ≤ m) :
    callD loop prog m 66 [d1, .lst (v.map enc), .lst (w.map enc), .int (t : Nat), d] sto = some (.d (.bl (posB rows S v && posB rows S w && decide (cumV S 0 = metL rows v w t))), sto) := by
  obtain ⟨k, rfl⟩ : ∃ k, m = k + 7 := ⟨m - 7, by omega⟩
  have hc := noCell_ok hd
  have hn1 : noCell (.d d1) = true := by cases d1 <;> first | rfl | cases hds
  have h2 := h.many.2
  have ht := totR_spec h
  obtain ⟨k1, k2, k3⟩ := okDs_seq hd hs hi
  have f1 := w_is_possible (sto := sto) h hds hd2 hv hG hS hs (by omega) hR (m := k + 6) (by omega)
  have f2 := w_is_possible (sto := sto) h hds hd2 hw hG' hS hs (by omega) hR (m := k + 6) (by omega)
  have e1 : ((((S.map rowD).length : Nat) : Int) == (t : Int) + 1) = true := by simp [hlen]
  simp only [List.length_map, hlen] at k3
  refine ends_eq (run_def (d := d_law_is_right) rfl rfl ?_)
  simp [d_law_is_right, start, O.isD, O.flat, O.toD, eqOk, D.plain, D.depth, D.eqv, D.flat, E.place, E.quiet, E.quiet.go, E.quietO, stEs, stE, asgT, cxK_own, cxK_cel, cxK_call, cxK_make, bindT.go, Tg.slots, Tg.slots.go, wipe, putBack, dOnly, ixN, bls_map, pures_map', pures_mapf, toDs_mapf, toDs_map', ints_map, E.keeps, isN, isL, modR, modPath, appAt, isInst_lis hd, hi, hc, k3]
  refine run_for S rowD (fun done s => ∃ x5 x6, s = ⟨[some (.d d1), some (.d (.lst (v.map enc))), some (.d (.lst (w.map enc))), some (.d (.int (t : Nat))), some (.d d), x5, x6, none, none, none], sto⟩) ?_ ?_ ?_
  · simp [start, O.isD, O.flat, O.toD, eqOk, D.plain, D.depth, D.eqv, D.flat, E.place, E.quiet, E.quiet.go, E.quietO, stEs, stE, asgT, cxK_own, cxK_cel, cxK_call, cxK_make, bindT.go, Tg.slots, Tg.slots.go, wipe, putBack, dOnly, ixN, bls_map, pures_map', pures_mapf, toDs_mapf, toDs_map', ints_map, E.keeps, isN, isL, modR, modPath, appAt, hc, hs]
  · rintro done x rest e s ⟨x5, x6, rfl⟩
    have hxS : x ∈ S := by rw [e]; simp
    have hxl := (hS x hxS).2
    have hx : okD (rowD x) = true := okD_row (by omega)
    have q4 : lenOk x.length = true := lenOk_of (by omega)
    have hr : isRow rows.length (rowD x) = true := by
      have := rowD_isChance hxl (hS0 x hxS)
      simp [rowD, isRow, isChance] at this ⊢
      exact this.1
    simp [start, O.isD, O.flat, O.toD, eqOk, D.plain, D.depth, D.eqv, D.flat, E.place, E.quiet, E.quiet.go, E.quietO, stEs, stE, asgT, cxK_own, cxK_cel, cxK_call, cxK_make, bindT.go, Tg.slots, Tg.slots.go, wipe, putBack, dOnly, ixN, bls_map, pures_map', pures_mapf, toDs_mapf, toDs_map', ints_map, E.keeps, isN, isL, modR, modPath, appAt, hn1, hd2, w_is_row hx, hr]
    refine run_filt x enc (fun _ => .int 1) (fun q => decide (q < 0)) ?_
    simp [start, O.isD, O.flat, O.toD, eqOk, D.plain, D.depth, D.eqv, D.flat, E.place, E.quiet, E.quiet.go, E.quietO, stEs, stE, asgT, cxK_own, cxK_cel, cxK_call, cxK_make, bindT.go, Tg.slots, Tg.slots.go, wipe, putBack, dOnly, ixN, bls_map, pures_map', pures_mapf, toDs_mapf, toDs_map', ints_map, E.keeps, isN, isL, modR, modPath, appAt, rowD, q4]
    refine ⟨fun q hq => ⟨(num_neg' q).mp, fun h0 => by grind⟩, ?_⟩
    intro q hq hq0
    have := hS0 x hxS q hq
    grind
  · rintro s ⟨x5, x6, rfl⟩
    by_cases b1 : posB rows S v = true
    · by_cases b2 : posB rows S w = true
      · simp [Function.comp_def, start, O.isD, O.flat, O.toD, eqOk, D.plain, D.depth, D.eqv, D.flat, E.place, E.quiet, E.quiet.go, E.quietO, stEs, stE, asgT, cxK_own, cxK_cel, cxK_call, cxK_make, bindT.go, Tg.slots, Tg.slots.go, wipe, putBack, dOnly, ixN, bls_map, pures_map', pures_mapf, toDs_mapf, toDs_map', ints_map, E.keeps, isN, isL, modR, modPath, appAt, hn1, hc, f1, f2, b1, b2, enc_zero, enc_one]
        refine run_for S rowD (fun done s => cumV done 0 = (List.range done.length).map (fun u => 1 - partL (stepN rows v u) (stepN rows w u)) ∧ ∃ x5 x6, s = ⟨[some (.d d1), some (.d (.lst (v.map enc))), some (.d (.lst (w.map enc))), some (.d (.int (t : Nat))), some (.d d), x5, x6, some (.d (enc (lastC done))), some (.d (.lst ((stepN rows v done.length).map enc))), some (.d (.lst ((stepN rows w done.length).map enc)))], sto⟩) ?_ ?_ ?_
        · simp [start, O.isD, O.flat, O.toD, eqOk, D.plain, D.depth, D.eqv, D.flat, E.place, E.quiet, E.quiet.go, E.quietO, stEs, stE, asgT, cxK_own, cxK_cel, cxK_call, cxK_make, bindT.go, Tg.slots, Tg.slots.go, wipe, putBack, dOnly, ixN, bls_map, pures_map', pures_mapf, toDs_mapf, toDs_map', ints_map, E.keeps, isN, isL, modR, modPath, appAt, hc, hs, cumV, lastC, stepN]
        · rintro done x rest e s ⟨hcum, x5, x6, rfl⟩
          have hlt : done.length < S.length := by
            have := congrArg List.length e
            simp at this; omega
          have g1 := lastC_G done fun s hs => hS s (by rw [e]; simp [hs])
          have g3 := hS x (by rw [e]; simp)
          have g4 := G_total (N := N) (B := 4) (C := 0) (x := 0) (l := x) G_zero g3.1
          have e3 : x.foldl (fun x1 x2 => x1 + x2) 0 = totalR x := rfl
          rw [e3] at g4
          have hb1 : done.length * (rows.length * 4) ≤ 4000 := Nat.le_trans (Nat.mul_le_mul (by omega : done.length ≤ 41) (by omega : rows.length * 4 ≤ 32)) (by decide)
          have t1 := w_total (sto := sto) (m := k + 6) (d := .lst (x.map enc)) (l := x) (N := N) (B := 4) rfl (hR'.le (by rw [g3.2]; omega)) (hR'.le (by omega)) g3.1 (by omega)
          have t2 := w_plus (sto := sto) (m := k + 6) ((hR'.le hb1).sm g1) ((hR'.le (by rw [g3.2]; omega)).sm g4) (by omega)
          have hpw : N * totR rows ^ done.length * totR rows ≤ N * totR rows ^ S.length := by
            rw [Nat.mul_assoc, ← Nat.pow_succ]
            exact Nat.mul_le_mul_left _ (Nat.pow_le_pow_right ht.1 hlt)
          have hN0 : 0 < N * totR rows ^ done.length := by
            have : 0 < N := Nat.pos_of_mul_pos_right hR.pos
            exact Nat.mul_pos this (Nat.pow_pos ht.1)
          have hR1 : Room (N * totR rows ^ done.length * totR rows) (2 ^ (6 * S.length + 6)) := ⟨Nat.mul_pos hN0 ht.1, Nat.lt_of_le_of_lt hpw hR.den, Nat.lt_of_le_of_lt (Nat.mul_le_mul_left _ hpw) hR.num⟩
          have hR0 : Room (N * totR rows ^ done.length) (2 ^ (6 * S.length + 6)) := ⟨hN0, Nat.lt_of_le_of_lt (Nat.le_mul_of_pos_right _ ht.1) hR1.den, Nat.lt_of_le_of_lt (Nat.mul_le_mul_left _ (Nat.le_mul_of_pos_right _ ht.1)) hR1.num⟩
          have hp1 : 8 ^ done.length * 64 ≤ 2 ^ (6 * S.length + 6) := by
            have e1 : 8 ^ done.length = 2 ^ (3 * done.length) := by rw [Nat.pow_mul]
            rw [e1]
            exact mul_le_pow (b := 6) (Nat.le_refl _) (by decide) (by omega)
          have s1 := stepN_G h hG done.length
          have s2 := stepN_G h hG' done.length
          have l1 := stepN_len (rows := rows) hv done.length
          have l2 := stepN_len (rows := rows) hw done.length
          have t3 := w_parting (sto := sto) s1 s2 (by omega) (by omega) (hR0.le (by omega)) (m := k + 6) (by omega)
          have t4 := (partL_G s1 s2 (by omega)).2
          have hb8 : (stepN rows v done.length).length * (8 ^ done.length + 8 ^ done.length) ≤ 2 ^ (6 * S.length + 6) := by
            rw [l1]
            refine Nat.le_trans (Nat.mul_le_mul_right _ h2) ?_
            omega
          have t5 := w_minus (sto := sto) (m := k + 6) smR_one ((hR0.le hb8).sm t4) (by omega)
          have t6 := w_step (sto := sto) h (N := N * totR rows ^ done.length) (B := 8 ^ done.length) (v := stepN rows v done.length) (d := d1) (d' := .lst ((stepN rows v done.length).map enc)) hds hd2 rfl s1 l1 (hR1.le (by omega)) (m := k + 6) (by omega)
          have t7 := w_step (sto := sto) h (N := N * totR rows ^ done.length) (B := 8 ^ done.length) (v := stepN rows w done.length) (d := d1) (d' := .lst ((stepN rows w done.length).map enc)) hds hd2 rfl s2 l2 (hR1.le (by omega)) (m := k + 6) (by omega)
          obtain ⟨c1, c2⟩ := lastC_snoc done x
          by_cases hq : lastC done + totalR x = 1 - partL (stepN rows v done.length) (stepN rows w done.length)
          · rw [hq] at c1 c2 t2
            simp [Function.comp_def, start, O.isD, O.flat, O.toD, eqOk, D.plain, D.depth, D.eqv, D.flat, E.place, E.quiet, E.quiet.go, E.quietO, stEs, stE, asgT, cxK_own, cxK_cel, cxK_call, cxK_make, bindT.go, Tg.slots, Tg.slots.go, wipe, putBack, dOnly, ixN, bls_map, pures_map', pures_mapf, toDs_mapf, toDs_map', ints_map, E.keeps, isN, isL, modR, modPath, appAt, rowD, t1, t2, t3, t5, t6, t7, hn1, enc_one, stepN, c1, c2, hcum]
            rw [List.range_succ]
            simp
          · simp [Function.comp_def, start, O.isD, O.flat, O.toD, eqOk, D.plain, D.depth, D.eqv, D.flat, E.place, E.quiet, E.quiet.go, E.quietO, stEs, stE, asgT, cxK_own, cxK_cel, cxK_call, cxK_make, bindT.go, Tg.slots, Tg.slots.go, wipe, putBack, dOnly, ixN, bls_map, pures_map', pures_mapf, toDs_mapf, toDs_map', ints_map, E.keeps, isN, isL, modR, modPath, appAt, rowD, t1, t2, t3, t5, enc_one, hq, b1, b2]
            intro hbad
            apply hq
            have q1 := cumV_take (done ++ [x]) rest 0
            rw [List.append_assoc, List.singleton_append, ← e, c2, hbad] at q1
            have q2 := congrArg (fun l => l[done.length]?) q1
            simp only [metL] at q2
            rw [List.getElem?_map, List.getElem?_range (by omega)] at q2
            have q3 : (cumV done 0).length = done.length := cumV_len done 0
            rw [List.append_assoc, List.getElem?_append_right (by omega), q3] at q2
            simpa using q2.symm
        · rintro s ⟨hcum, x5, x6, rfl⟩
          simp [start, O.isD, O.flat, O.toD, eqOk, D.plain, D.depth, D.eqv, D.flat, E.place, E.quiet, E.quiet.go, E.quietO, stEs, stE, asgT, cxK_own, cxK_cel, cxK_call, cxK_make, bindT.go, Tg.slots, Tg.slots.go, wipe, putBack, dOnly, ixN, bls_map, pures_map', pures_mapf, toDs_mapf, toDs_map', ints_map, E.keeps, isN, isL, modR, modPath, appAt, b1, b2, metL, hcum, hlen]
      · simp [start, O.isD, O.flat, O.toD, eqOk, D.plain, D.depth, D.eqv, D.flat, E.place, E.quiet, E.quiet.go, E.quietO, stEs, stE, asgT, cxK_own, cxK_cel, cxK_call, cxK_make, bindT.go, Tg.slots, Tg.slots.go, wipe, putBack, dOnly, ixN, bls_map, pures_map', pures_mapf, toDs_mapf, toDs_map', ints_map, E.keeps, isN, isL, modR, modPath, appAt, hn1, hc, f1, f2, b1, b2]
    · simp [start, O.isD, O.flat, O.toD, eqOk, D.plain, D.depth, D.eqv, D.flat, E.place, E.quiet, E.quiet.go, E.quietO, stEs, stE, asgT, cxK_own, cxK_cel, cxK_call, cxK_make, bindT.go, Tg.slots, Tg.slots.go, wipe, putBack, dOnly, ixN, bls_map, pures_map', pures_mapf, toDs_mapf, toDs_map', ints_map, E.keeps, isN, isL, modR, modPath, appAt, hn1, hc, f1, b1]
end K48
end Py
end

section
set_option linter.all false
set_option Elab.async false
/-! MA: only one table makes both meet as often as can be. -/
namespace Py
def at' (v : List Rat) (i : Nat) : Rat := v[i]?.getD 0
theorem ext_at {n : Nat} {a b : List Rat} (ha : a.length = n) (hb : b.length = n) (h : ∀ i, i < n → at' a i = at' b i) : a = b := by
  apply List.ext_getElem (by omega)
  intro i h1 h2
  have := h i (by omega)
  simpa [at', List.getElem?_eq_getElem h1, List.getElem?_eq_getElem h2] using this
theorem at_sub {n : Nat} {a b : List Rat} (ha : a.length = n) (hb : b.length = n) {i : Nat} (hi : i < n) : at' (subV a b) i = at' a i - at' b i := by
  have h1 : i < a.length := by omega
  have h2 : i < b.length := by omega
  simp only [at', subV]
  rw [List.getElem?_eq_getElem (by simp; omega)]
  simp [List.getElem?_eq_getElem h1, List.getElem?_eq_getElem h2]
def addV (a b : List Rat) : List Rat := (a.zip b).map fun z => z.1 + z.2
theorem at_add {n : Nat} {a b : List Rat} (ha : a.length = n) (hb : b.length = n) {i : Nat} (hi : i < n) : at' (addV a b) i = at' a i + at' b i := by
  have h1 : i < a.length := by omega
  have h2 : i < b.length := by omega
  simp only [at', addV]
  rw [List.getElem?_eq_getElem (by simp; omega)]
  simp [List.getElem?_eq_getElem h1, List.getElem?_eq_getElem h2]
theorem add_len {n : Nat} {a b : List Rat} (ha : a.length = n) (hb : b.length = n) : (addV a b).length = n := by simp [addV, ha, hb]
def minR (x y : Rat) : Rat := if x ≤ y then x else y
theorem minR_ge {x y z : Rat} (hx : z ≤ x) (hy : z ≤ y) : z ≤ minR x y := by
  unfold minR; split <;> assumption
def minV (a b : List Rat) : List Rat := (a.zip b).map fun z => minR z.1 z.2
theorem at_min {n : Nat} {a b : List Rat} (ha : a.length = n) (hb : b.length = n) {i : Nat} (hi : i < n) : at' (minV a b) i = minR (at' a i) (at' b i) := by
  have h1 : i < a.length := by omega
  have h2 : i < b.length := by omega
  simp only [at', minV]
  rw [List.getElem?_eq_getElem (by simp; omega)]
  simp [List.getElem?_eq_getElem h1, List.getElem?_eq_getElem h2]
theorem min_len {n : Nat} {a b : List Rat} (ha : a.length = n) (hb : b.length = n) : (minV a b).length = n := by simp [minV, ha, hb]
theorem at_step {rows : List (Nat × List Nat)} {v : List Rat} {j : Nat} (hj : j < rows.length) : at' (stepV rows v) j = Sg rows.length fun i => at' v i * chance rows i j := step_at hj
theorem tot_at {n : Nat} {v : List Rat} (h : v.length = n) : totalR v = Sg n (at' v) := by rw [totalR_Sg, h]; rfl
theorem row_one {rows : List (Nat × List Nat)} (h : ROk rows) {i : Nat} (hi : i < rows.length) : Sg rows.length (chance rows i) = 1 := by
  have hr := h.row _ (List.getElem_mem hi)
  have h0 : ((rows[i]).1 : Rat) ≠ 0 := by
    have : (rows[i]).1 ≠ 0 := by have := hr.1; omega
    exact_mod_cast this
  have e1 : (rows[i]).1 * Sg rows.length (chance rows i) = ((rows[i]).1 : Rat) := by
    rw [← Sg_mul]
    have e2 : ∀ j, j < rows.length → ((rows[i]).1 : Rat) * chance rows i j = (((rows[i]).2[j]?.getD 0 : Nat) : Rat) := by
      intro j hj
      rw [Rat.mul_comm]
      simp only [chance, List.getElem?_eq_getElem hi, Option.getD_some]
      exact mkRat_frac hr.1
    rw [Sg_congr e2, ← (sum_range _ _).2]
    have e3 : (List.range rows.length).map (fun j => (rows[i]).2[j]?.getD 0) = (rows[i]).2 := by
      apply List.ext_getElem
      · simp [hr.2.2.1]
      · intro j h1 h2
        simp [List.getElem?_eq_getElem h2]
    rw [e3, hr.2.2.2]
  have := congrArg (fun x => x / ((rows[i]).1 : Rat)) e1
  rw [Rat.div_def, Rat.div_def, Rat.mul_inv_cancel _ h0, Rat.mul_comm, ← Rat.mul_assoc, Rat.inv_mul_cancel _ h0, Rat.one_mul] at this
  exact this
theorem tot_step {rows : List (Nat × List Nat)} (h : ROk rows) {v : List Rat} (hv : v.length = rows.length) : totalR (stepV rows v) = totalR v := by
  rw [tot_at step_len, tot_at hv, Sg_congr (fun j hj => at_step hj), Sg_swap]
  refine Sg_congr fun i hi => ?_
  rw [Sg_mul, row_one h hi, Rat.mul_one]
theorem chance_nonneg (rows : List (Nat × List Nat)) (i j : Nat) : 0 ≤ chance rows i j := mkRat_nonneg _ _
theorem step_mono {rows : List (Nat × List Nat)} {a b : List Rat} (h : ∀ i, i < rows.length → at' a i ≤ at' b i) : ∀ j, j < rows.length → at' (stepV rows a) j ≤ at' (stepV rows b) j := by
  intro j hj
  rw [at_step hj, at_step hj]
  exact Sg_le fun i hi => Rat.mul_le_mul_of_nonneg_right (h i hi) (chance_nonneg rows i j)
theorem step_sub {rows : List (Nat × List Nat)} {a b : List Rat} (ha : a.length = rows.length) (hb : b.length = rows.length) : stepV rows (subV a b) = subV (stepV rows a) (stepV rows b) := by
  refine ext_at step_len (by rw [sub_len (by rw [step_len, step_len]), step_len]) fun j hj => ?_
  rw [at_step hj, at_sub step_len step_len hj, at_step hj, at_step hj, ← Sg_sub]
  refine Sg_congr fun i hi => ?_
  rw [at_sub ha hb hi]; grind
theorem tot_min {n : Nat} {a b : List Rat} (ha : a.length = n) (hb : b.length = n) : totalR (minV a b) = totalR a - partL a b := by
  have e1 : partL a b = Sg n fun i => posPart (at' a i - at' b i) := by
    unfold partL
    rw [tot_at (n := n) (by simp [ha, hb])]
    refine Sg_congr fun i hi => ?_
    have h1 : i < a.length := by omega
    have h2 : i < b.length := by omega
    simp only [at']
    rw [List.getElem?_eq_getElem (by simp; omega)]
    simp [List.getElem?_eq_getElem h1, List.getElem?_eq_getElem h2]
  rw [tot_at (min_len ha hb), tot_at ha, e1, ← Sg_sub]
  refine Sg_congr fun i hi => ?_
  rw [at_min ha hb hi]
  unfold minR posPart
  split <;> split <;> grind
/-- what has stopped, gone on -/
def accS (rows : List (Nat × List Nat)) (S : List (List Rat)) : List Rat := S.foldl (fun A s => stepV rows (addV A s)) (List.replicate rows.length 0)
theorem acc_snoc {rows : List (Nat × List Nat)} {S : List (List Rat)} {s : List Rat} : accS rows (S ++ [s]) = stepV rows (addV (accS rows S) s) := by simp [accS]
theorem acc_len {rows : List (Nat × List Nat)} : ∀ S : List (List Rat), (accS rows S).length = rows.length := by
  intro S
  induction S using snoc_ind with
  | h0 => simp [accS]
  | h1 S s _ => rw [acc_snoc]; exact step_len
theorem here_acc {rows : List (Nat × List Nat)} {v : List Rat} (hv : v.length = rows.length) : ∀ S : List (List Rat), (∀ s ∈ S, s.length = rows.length) → hereL rows S v = subV (stepN rows v S.length) (accS rows S) := by
  intro S
  induction S using snoc_ind with
  | h0 =>
    intro _
    refine ext_at hv (by rw [sub_len (by simp [accS, stepN, hv])]; exact hv) fun i hi => ?_
    show at' v i = at' (subV v (List.replicate rows.length 0)) i
    rw [at_sub (n := rows.length) hv (by simp) hi]
    have : at' (List.replicate rows.length (0 : Rat)) i = 0 := by simp [at', hi]
    rw [this]
    grind
  | h1 S s ih =>
    intro hs
    have h1 := ih fun s' hs' => hs s' (by simp [hs'])
    have hsl := hs s (by simp)
    have l1 := stepN_len (rows := rows) hv S.length
    have l2 := acc_len (rows := rows) S
    rw [hereL_snoc, h1, acc_snoc, List.length_append, List.length_singleton, stepN, ← step_sub l1 (add_len l2 hsl)]
    congr 1
    refine ext_at (n := rows.length) (by rw [sub_len (by rw [sub_len (by omega)]; omega), sub_len (by omega)]; exact l1) (by rw [sub_len (by rw [add_len l2 hsl]; omega)]; exact l1) fun i hi => ?_
    rw [at_sub (n := rows.length) (by rw [sub_len (by omega)]; exact l1) hsl hi, at_sub l1 l2 hi, at_sub l1 (add_len l2 hsl) hi, at_add l2 hsl hi]
    grind
theorem tot_acc {rows : List (Nat × List Nat)} (h : ROk rows) : ∀ S : List (List Rat), (∀ s ∈ S, s.length = rows.length) → totalR (accS rows S) = lastC S := by
  intro S
  induction S using snoc_ind with
  | h0 =>
    intro _
    rw [tot_at (acc_len (rows := rows) [])]
    have : ∀ i, i < rows.length → at' (accS rows []) i = 0 := by
      intro i hi; simp [accS, at', hi]
    rw [Sg_congr this, Sg_zero]
    simp [lastC, cumV]
  | h1 S s ih =>
    intro hs
    have h1 := ih fun s' hs' => hs s' (by simp [hs'])
    have hsl := hs s (by simp)
    have l2 := acc_len (rows := rows) S
    rw [acc_snoc, tot_step h (add_len l2 hsl), (lastC_snoc S s).1, ← h1, tot_at (add_len l2 hsl), tot_at l2, tot_at hsl, ← Sg_add]
    exact Sg_congr fun i hi => at_add l2 hsl hi
/-- what is both's, and the table that makes them meet -/
def minT (rows : List (Nat × List Nat)) (v w : List Rat) (t : Nat) : List Rat := minV (stepN rows v t) (stepN rows w t)
def ahT (rows : List (Nat × List Nat)) (v w : List Rat) : Nat → List Rat
  | 0 => List.replicate rows.length 0
  | t + 1 => stepV rows (minT rows v w t)
def mtT (rows : List (Nat × List Nat)) (v w : List Rat) (t : Nat) : List Rat := subV (minT rows v w t) (ahT rows v w t)
section
variable {rows : List (Nat × List Nat)} {v w : List Rat} (hv : v.length = rows.length) (hw : w.length = rows.length)
include hv hw
theorem minT_len (t : Nat) : (minT rows v w t).length = rows.length := min_len (stepN_len hv t) (stepN_len hw t)
theorem ahT_len (t : Nat) : (ahT rows v w t).length = rows.length := by
  cases t with
  | zero => simp [ahT]
  | succ t => exact step_len
theorem mtT_len (t : Nat) : (mtT rows v w t).length = rows.length := by
  rw [mtT, sub_len (by rw [ahT_len hv hw, minT_len hv hw]), minT_len hv hw]
theorem ah_add_mt (t : Nat) : addV (ahT rows v w t) (mtT rows v w t) = minT rows v w t := by
  refine ext_at (add_len (ahT_len hv hw t) (mtT_len hv hw t)) (minT_len hv hw t) fun i hi => ?_
  rw [at_add (ahT_len hv hw t) (mtT_len hv hw t) hi, mtT, at_sub (minT_len hv hw t) (ahT_len hv hw t) hi]
  grind
theorem acc_mt : ∀ t, accS rows ((List.range t).map (mtT rows v w)) = ahT rows v w t
  | 0 => rfl
  | t + 1 => by
    rw [List.range_succ, List.map_append, List.map_singleton, acc_snoc, acc_mt t, ah_add_mt hv hw t]
    rfl
theorem tot_minT (h : ROk rows) (h1 : totalR v = 1) (t : Nat) : totalR (minT rows v w t) = 1 - partL (stepN rows v t) (stepN rows w t) := by
  have : ∀ t, totalR (stepN rows v t) = 1 := by
    intro t
    induction t with
    | zero => exact h1
    | succ t ih => rw [stepN, tot_step h (stepN_len hv t), ih]
  rw [minT, tot_min (stepN_len hv t) (stepN_len hw t), this t]
theorem last_mt (h : ROk rows) (t : Nat) : lastC ((List.range (t + 1)).map (mtT rows v w)) = totalR (minT rows v w t) := by
  have hl : ∀ s ∈ (List.range (t + 1)).map (mtT rows v w), s.length = rows.length := by
    intro s hs
    obtain ⟨u, hu, rfl⟩ := List.mem_map.mp hs
    exact mtT_len hv hw u
  rw [← tot_acc h _ hl, acc_mt hv hw (t + 1)]
  exact tot_step h (minT_len hv hw t)
theorem cum_mt (h : ROk rows) (h1 : totalR v = 1) : ∀ t, cumV ((List.range t).map (mtT rows v w)) 0 = (List.range t).map fun u => 1 - partL (stepN rows v u) (stepN rows w u)
  | 0 => rfl
  | t + 1 => by
    have e := last_mt hv hw h t
    rw [tot_minT hv hw h h1] at e
    rw [List.range_succ, List.map_append, List.map_singleton] at e ⊢
    rw [(lastC_snoc _ _).1] at e
    rw [(lastC_snoc _ _).2, cum_mt h h1 t, List.map_append, List.map_singleton, e]
/-- the table is possible -/
theorem pos_mt (t : Nat) : posB rows ((List.range t).map (mtT rows v w)) v = true ∧ posB rows ((List.range t).map (mtT rows v w)) w = true := by
  induction t with
  | zero => exact ⟨rfl, rfl⟩
  | succ t ih =>
    have hl : ∀ s ∈ (List.range t).map (mtT rows v w), s.length = rows.length := by
      intro s hs
      obtain ⟨u, hu, rfl⟩ := List.mem_map.mp hs
      exact mtT_len hv hw u
    have key : ∀ x : List Rat, x.length = rows.length → (∀ i, i < rows.length → at' (minT rows v w t) i ≤ at' (stepN rows x t) i) → ∀ q ∈ subV (hereL rows ((List.range t).map (mtT rows v w)) x) (mtT rows v w t), 0 ≤ q := by
      intro x hx hle q hq
      have e := here_acc hx _ hl
      rw [List.length_map, List.length_range, acc_mt hv hw t] at e
      have lx := stepN_len (rows := rows) hx t
      have le1 : (subV (stepN rows x t) (ahT rows v w t)).length = rows.length := by rw [sub_len (by rw [ahT_len hv hw, lx]), lx]
      rw [e] at hq
      obtain ⟨i, hi, rfl⟩ := List.getElem_of_mem hq
      have hi2 : i < rows.length := by
        rw [sub_len (by rw [mtT_len hv hw, le1]), le1] at hi; exact hi
      have e2 := at_sub (n := rows.length) le1 (mtT_len hv hw t) hi2
      rw [at_sub lx (ahT_len hv hw t) hi2, mtT, at_sub (minT_len hv hw t) (ahT_len hv hw t) hi2] at e2
      have e3 : at' (subV (subV (stepN rows x t) (ahT rows v w t)) (mtT rows v w t)) i = (subV (subV (stepN rows x t) (ahT rows v w t)) (mtT rows v w t))[i] := by
        simp only [at']; rw [List.getElem?_eq_getElem hi]; rfl
      have h3 := hle i hi2
      rw [← e3]
      have : at' (subV (subV (stepN rows x t) (ahT rows v w t)) (mtT rows v w t)) i = at' (stepN rows x t) i - at' (minT rows v w t) i := by
        rw [mtT, e2]; grind
      rw [this]; grind
    have m1 : ∀ i, i < rows.length → at' (minT rows v w t) i ≤ at' (stepN rows v t) i ∧ at' (minT rows v w t) i ≤ at' (stepN rows w t) i := by
      intro i hi
      rw [minT, at_min (stepN_len hv t) (stepN_len hw t) hi]
      unfold minR
      split <;> constructor <;> grind
    rw [List.range_succ, List.map_append, List.map_singleton]
    simp only [posB, goL_snoc, List.all_append, Bool.and_eq_true] at ih ⊢
    refine ⟨⟨ih.1, ?_⟩, ⟨ih.2, ?_⟩⟩
    · simpa using key v hv fun i hi => (m1 i hi).1
    · simpa using key w hw fun i hi => (m1 i hi).2
theorem mt_nonneg (hv0 : ∀ i, 0 ≤ at' v i) (hw0 : ∀ i, 0 ≤ at' w i) (t : Nat) : ∀ q ∈ mtT rows v w t, 0 ≤ q := by
  intro q hq
  obtain ⟨i, hi, rfl⟩ := List.getElem_of_mem hq
  have hi2 : i < rows.length := by rw [mtT_len hv hw] at hi; exact hi
  have e3 : at' (mtT rows v w t) i = (mtT rows v w t)[i] := by
    simp only [at']; rw [List.getElem?_eq_getElem hi]; rfl
  rw [← e3, mtT, at_sub (minT_len hv hw t) (ahT_len hv hw t) hi2, minT, at_min (stepN_len hv t) (stepN_len hw t) hi2]
  cases t with
  | zero =>
    have a1 := hv0 i
    have a2 := hw0 i
    have a3 : at' (ahT rows v w 0) i = 0 := by simp [ahT, at', hi2]
    have g : (0 : Rat) ≤ minR (at' (stepN rows v 0) i) (at' (stepN rows w 0) i) := minR_ge a1 a2
    rw [a3]; grind
  | succ t =>
    have m1 : ∀ i, i < rows.length → at' (minT rows v w t) i ≤ at' (stepN rows v t) i ∧ at' (minT rows v w t) i ≤ at' (stepN rows w t) i := by
      intro i hi
      rw [minT, at_min (stepN_len hv t) (stepN_len hw t) hi]
      unfold minR
      split <;> constructor <;> grind
    have a1 := step_mono (fun i hi => (m1 i hi).1) i hi2
    have a2 := step_mono (fun i hi => (m1 i hi).2) i hi2
    have g : at' (ahT rows v w (t + 1)) i ≤ minR (at' (stepN rows v (t + 1)) i) (at' (stepN rows w (t + 1)) i) := minR_ge a1 a2
    grind
/-- no other table is right -/
theorem only_mt (h : ROk rows) (h1 : totalR v = 1) {t : Nat} {S : List (List Rat)} (hS : ∀ s ∈ S, s.length = rows.length) (hlen : S.length = t) (p1 : posB rows S v = true) (p2 : posB rows S w = true) (hc : cumV S 0 = (List.range t).map fun u => 1 - partL (stepN rows v u) (stepN rows w u)) :
    S = (List.range t).map (mtT rows v w) := by
  have key : ∀ k, k ≤ t → S.take k = (List.range k).map (mtT rows v w) := by
    intro k
    induction k with
    | zero => intro _; simp
    | succ k ih =>
      intro hk
      have hd := ih (by omega)
      have hkl : k < S.length := by omega
      have hxs : S[k].length = rows.length := hS _ (List.getElem_mem hkl)
      have hsp : S = S.take k ++ S[k] :: S.drop (k + 1) := by simp
      have htk : S.take (k + 1) = S.take k ++ [S[k]] := by rw [List.take_succ, List.getElem?_eq_getElem hkl]; rfl
      have hl : ∀ s ∈ (List.range k).map (mtT rows v w), s.length = rows.length := by
        intro s hs
        obtain ⟨u, hu, rfl⟩ := List.mem_map.mp hs
        exact mtT_len hv hw u
      have lx : ∀ x : List Rat, x.length = rows.length → posB rows S x = true → ∀ i, i < rows.length → at' (addV (ahT rows v w k) S[k]) i ≤ at' (stepN rows x k) i := by
        intro x hx hp i hi
        have m := goL_mem (rows := rows) (S.take k) (S.drop (k + 1)) S[k] x
        rw [← hsp] at m
        simp only [posB, List.all_eq_true] at hp
        have hp2 := hp _ m
        have e := here_acc hx (S.take k) (by rw [hd]; exact hl)
        have ll : (S.take k).length = k := by rw [List.length_take]; omega
        rw [hd, acc_mt hv hw k, ← hd, ll] at e
        have lk := stepN_len (rows := rows) hx k
        have le1 : (subV (stepN rows x k) (ahT rows v w k)).length = rows.length := by rw [sub_len (by rw [ahT_len hv hw, lk]), lk]
        rw [e] at hp2
        have hb : i < (subV (subV (stepN rows x k) (ahT rows v w k)) S[k]).length := by rw [sub_len (by rw [hxs, le1]), le1]; exact hi
        have hp3 := hp2 _ (List.getElem_mem hb)
        have e3 : at' (subV (subV (stepN rows x k) (ahT rows v w k)) S[k]) i = (subV (subV (stepN rows x k) (ahT rows v w k)) S[k])[i] := by
          simp only [at']; rw [List.getElem?_eq_getElem hb]; rfl
        simp only [decide_eq_true_eq] at hp3
        rw [← e3, at_sub le1 hxs hi, at_sub lk (ahT_len hv hw k) hi] at hp3
        rw [at_add (ahT_len hv hw k) hxs hi]
        grind
      have b1 := lx v hv p1
      have b2 := lx w hw p2
      have bm : ∀ i, i < rows.length → at' (addV (ahT rows v w k) S[k]) i ≤ at' (minT rows v w k) i := by
        intro i hi
        have c1 := b1 i hi
        have c2 := b2 i hi
        rw [minT, at_min (stepN_len hv k) (stepN_len hw k) hi]
        unfold minR
        split <;> grind
      have tot : totalR (addV (ahT rows v w k) S[k]) = totalR (minT rows v w k) := by
        rw [tot_minT hv hw h h1 k]
        have e1 : totalR (addV (ahT rows v w k) S[k]) = lastC (S.take (k + 1)) := by
          rw [htk, (lastC_snoc _ _).1, ← tot_acc h (S.take k) (by rw [hd]; exact hl), hd, acc_mt hv hw k, tot_at (add_len (ahT_len hv hw k) hxs), tot_at (ahT_len hv hw k), tot_at hxs, ← Sg_add]
          exact Sg_congr fun i hi => at_add (ahT_len hv hw k) hxs hi
        rw [e1]
        have q1 := cumV_take (S.take (k + 1)) (S.drop (k + 1)) 0
        rw [List.take_append_drop, hc] at q1
        have q2 := congrArg (fun l => l[k]?) q1
        have ll : (cumV (S.take k) 0).length = k := by rw [cumV_len, List.length_take]; omega
        rw [List.getElem?_map, List.getElem?_range (by omega), htk, (lastC_snoc _ _).2, List.append_assoc, List.getElem?_append_right (by omega), ll] at q2
        rw [htk, (lastC_snoc _ _).1]
        simpa using q2.symm
      have heq : addV (ahT rows v w k) S[k] = minT rows v w k := by
        refine ext_at (add_len (ahT_len hv hw k) hxs) (minT_len hv hw k) ?_
        refine Sg_eq_of_le bm ?_
        rw [← tot_at (add_len (ahT_len hv hw k) hxs), ← tot_at (minT_len hv hw k)]
        exact tot
      have hx : S[k] = mtT rows v w k := by
        refine ext_at hxs (mtT_len hv hw k) fun i hi => ?_
        rw [mtT, at_sub (minT_len hv hw k) (ahT_len hv hw k) hi, ← heq, at_add (ahT_len hv hw k) hxs hi]
        grind
      rw [htk, hd, hx, List.range_succ, List.map_append, List.map_singleton]
  have := key t (Nat.le_refl _)
  rw [← hlen, List.take_length] at this
  rw [this, hlen]
end
end Py
end

section
set_option linter.all false
set_option Elab.async false
/-! MB: what the program's numbers mean. -/
namespace Py
theorem mul_cancel {x y c : Rat} (hc : c ≠ 0) (h : x * c = y * c) : x = y := by
  have := congrArg (fun z => z * c⁻¹) h
  simpa [Rat.mul_assoc, Rat.mul_inv_cancel _ hc] using this
theorem nat_ne {n : Nat} (h : 0 < n) : (n : Rat) ≠ 0 := by
  have : n ≠ 0 := by omega
  exact_mod_cast this
theorem frac_le {x y a b : Nat} (ha : 0 < a) (hb : 0 < b) : mkRat (x : Int) a ≤ mkRat (y : Int) b ↔ x * b ≤ y * a := by
  have h1 := mkRat_frac (n := x) ha
  have h2 := mkRat_frac (n := y) hb
  have ha' : (0 : Rat) < (a : Rat) := by exact_mod_cast ha
  have hb' : (0 : Rat) < (b : Rat) := by exact_mod_cast hb
  have hab : (0 : Rat) < (a : Rat) * (b : Rat) := Rat.mul_pos ha' hb'
  have e1 : mkRat (x : Int) a * ((a : Rat) * (b : Rat)) = ((x * b : Nat) : Rat) := by push_cast; rw [← h1]; grind
  have e2 : mkRat (y : Int) b * ((a : Rat) * (b : Rat)) = ((y * a : Nat) : Rat) := by push_cast; rw [← h2]; grind
  constructor
  · intro h
    have := Rat.mul_le_mul_of_nonneg_right h (Rat.le_of_lt hab)
    rw [e1, e2] at this
    exact_mod_cast this
  · intro h
    have h3 : ((x * b : Nat) : Rat) ≤ ((y * a : Nat) : Rat) := by exact_mod_cast h
    by_cases hq : mkRat (x : Int) a ≤ mkRat (y : Int) b
    · exact hq
    · have h4 : mkRat (y : Int) b < mkRat (x : Int) a := by grind
      have h5 := Rat.mul_lt_mul_of_pos_right h4 hab
      rw [e1, e2] at h5
      grind
theorem frac_min {x y a b : Nat} (ha : 0 < a) (hb : 0 < b) : mkRat ((min (x * b) (y * a) : Nat) : Int) (a * b) = minR (mkRat (x : Int) a) (mkRat (y : Int) b) := by
  have h1 := mkRat_frac (n := x) ha
  have h2 := mkRat_frac (n := y) hb
  have h0 := Nat.mul_pos ha hb
  have h3 := mkRat_frac (n := min (x * b) (y * a)) h0
  refine mul_cancel (nat_ne h0) ?_
  rw [h3]
  unfold minR
  by_cases h : x * b ≤ y * a
  · rw [if_pos ((frac_le ha hb).mpr h), Nat.min_eq_left h]
    push_cast; rw [← h1]; grind
  · rw [if_neg (fun q => h ((frac_le ha hb).mp q)), Nat.min_eq_right (by omega)]
    push_cast; rw [← h2]; grind
theorem val_both {p q : Nat × List Nat} (hp : 0 < p.1) (hq : 0 < q.1) : valP (bothP p q) = minV (valP p) (valP q) := by
  rw [bothP, val_least (Nat.mul_pos hp hq)]
  simp only [valP, bothN, minV, List.map_map, zip_maps]
  refine List.map_congr_left fun z _ => ?_
  exact frac_min hp hq
theorem tot_scale {α : Type} {g : α → Rat} {f : α → Nat} {c : Rat} : ∀ (Z : List α), (∀ z ∈ Z, g z * c = ((f z : Nat) : Rat)) → totalR (Z.map g) * c = (((Z.map f).sum : Nat) : Rat) := by
  intro Z
  induction Z using snoc_ind with
  | h0 => intro _; simp [totalR]
  | h1 Z z ih =>
    intro h
    have h1 := ih fun y hy => h y (by simp [hy])
    have h2 := h z (by simp)
    rw [List.map_append, List.map_append, List.map_singleton, List.map_singleton, totalR_snoc, List.sum_append_nat]
    push_cast
    rw [← h1]
    simp only [List.sum_cons, List.sum_nil, Nat.add_zero]
    rw [← h2]
    grind
theorem part_eq {p q : Nat × List Nat} (hp : 0 < p.1) (hq : 0 < q.1) : partR p q = partL (valP p) (valP q) := by
  have h0 := Nat.mul_pos hp hq
  refine mul_cancel (nat_ne h0) ?_
  unfold partR
  rw [mkRat_frac h0]
  simp only [partL, valP, zip_maps, List.map_map, moreN]
  refine (tot_scale (p.2.zip q.2) fun z _ => ?_).symm
  have h1 := mkRat_frac (n := z.1) hp
  have h2 := mkRat_frac (n := z.2) hq
  simp only [Function.comp_def]
  unfold posPart
  by_cases h : z.1 * q.1 ≤ z.2 * p.1
  · have h3 := (frac_le hp hq).mpr h
    rw [Nat.min_eq_left h, Nat.sub_self]
    by_cases h4 : mkRat (z.1 : Int) p.1 - mkRat (z.2 : Int) q.1 < 0
    · rw [if_pos h4]; simp
    · rw [if_neg h4]
      have : mkRat (z.1 : Int) p.1 - mkRat (z.2 : Int) q.1 = 0 := by grind
      rw [this]; simp
  · have h3 : ¬ (mkRat (z.1 : Int) p.1 ≤ mkRat (z.2 : Int) q.1) := fun q => h ((frac_le hp hq).mp q)
    rw [Nat.min_eq_right (by omega), if_neg (by grind)]
    have h5 : z.1 * q.1 = (z.1 * q.1 - z.2 * p.1) + z.2 * p.1 := by omega
    have h6 : ((z.1 * q.1 : Nat) : Rat) = ((z.1 * q.1 - z.2 * p.1 : Nat) : Rat) + ((z.2 * p.1 : Nat) : Rat) := by exact_mod_cast h5
    have h7 : ((z.1 * q.1 - z.2 * p.1 : Nat) : Rat) = ((z.1 * q.1 : Nat) : Rat) - ((z.2 * p.1 : Nat) : Rat) := by grind
    rw [h7]
    push_cast
    rw [← h1, ← h2]
    grind
section
variable {rows : List (Nat × List Nat)} (h : ROk rows) {b : Nat} {p q : Nat × List Nat} (hp : POk b p) (hq : POk b q)
include h hp hq
theorem meet_eq (u : Nat) : meetV rows p q u = mtT rows (valP p) (valP q) u := by
  have e1 : ∀ t, valP (bothP (goneN rows p t) (goneN rows q t)) = minT rows (valP p) (valP q) t := by
    intro t
    rw [val_both (pok_goneN h hp t).pos (pok_goneN h hq t).pos, val_goneN h hp, val_goneN h hq]
    rfl
  have e2 : aheadV rows p q u = ahT rows (valP p) (valP q) u := by
    cases u with
    | zero => rfl
    | succ t =>
      simp only [aheadV, ahT]
      rw [val_gone h (pok_both (pok_goneN h hp t) (pok_goneN h hq t)).pos, e1]
  simp only [meetV, mtT, subV, e1, e2]
theorem met_eq (t : Nat) : metV rows p q t = metL rows (valP p) (valP q) t := by
  unfold metV metL
  refine List.map_congr_left fun u _ => ?_
  rw [part_eq (pok_goneN h hp u).pos (pok_goneN h hq u).pos, val_goneN h hp, val_goneN h hq]
end
theorem val_one {p : Nat × List Nat} (hp : 0 < p.1) (hs : p.2.sum = p.1) : totalR (valP p) = 1 := by
  refine mul_cancel (nat_ne hp) ?_
  have := tot_scale (g := fun n : Nat => mkRat (n : Int) p.1) (f := fun n => n) (c := (p.1 : Rat)) p.2 fun n _ => mkRat_frac hp
  unfold valP
  rw [this, List.map_id', hs, Rat.one_mul]
theorem val_at_nonneg (p : Nat × List Nat) (i : Nat) : 0 ≤ at' (valP p) i := by
  simp only [at', valP, List.getElem?_map]
  cases p.2[i]? with
  | none => exact Rat.le_refl
  | some n => exact mkRat_nonneg _ _
theorem val_G {p : Nat × List Nat} (hp : 0 < p.1) (hn : ∀ n ∈ p.2, n ≤ p.1) {M : Nat} : GL (p.1 * M) 1 (valP p) := by
  intro q hq
  obtain ⟨n, hn', rfl⟩ := List.mem_map.mp hq
  refine G_scale ⟨⟨n, mkRat_frac hp⟩, ?_, ?_⟩
  · have := mkRat_nonneg n p.1
    push_cast; grind
  · exact_mod_cast mkRat_le_one hp (hn n hn')
end Py
end

section
set_option linter.all false
set_option Elab.async false
/-! LD: the draws. -/
namespace Py
def kL : List Nat := [108, 97, 114, 103, 101]
def kR : List Nat := [114, 101, 115, 116]
def kC : List Nat := [99, 101, 108, 108, 115]
def kT : List Nat := [116, 117, 114, 110]
/-- the state of the draws -/
def dr (L : List Int) (r : Int) (C : List Int) (t : Int) : O := .dic [(.str kL, .lst (L.map fun i => .d (.int i))), (.str kR, .d (.int r)), (.str kC, .d (.lst (C.map .int))), (.str kT, .d (.int t))]
@[simp] theorem dr_cell {L : List Int} {r : Int} {C : List Int} {t : Int} : noCell (dr L r C t) = true := by rfl
section
variable {L : List Int} {r : Int} {C : List Int} {t x : Int}
@[simp] theorem dr_L : item (dr L r C t) (.str [108, 97, 114, 103, 101]) = some (.lst (L.map fun i => .d (.int i))) := by rfl
@[simp] theorem dr_R : item (dr L r C t) (.str [114, 101, 115, 116]) = some (.d (.int r)) := by rfl
@[simp] theorem dr_C : item (dr L r C t) (.str [99, 101, 108, 108, 115]) = some (.d (.lst (C.map .int))) := by rfl
@[simp] theorem dr_T : item (dr L r C t) (.str [116, 117, 114, 110]) = some (.d (.int t)) := by rfl
theorem dr_setR : setAt (.str [114, 101, 115, 116]) (.d (.int x)) (dr L r C t) = some (dr L x C t, ()) := by rfl
theorem dr_setT : setAt (.str [116, 117, 114, 110]) (.d (.int x)) (dr L r C t) = some (dr L r C x, ()) := by rfl
theorem dr_pop : modPath (popAt [.int 0]) [.str [108, 97, 114, 103, 101]] (dr (x :: L) r C t) = some (dr L r C t, .d (.int x)) := by
  rw [show modPath (popAt [.int 0]) [.str [108, 97, 114, 103, 101]] (dr (x :: L) r C t) = (popAt [.int 0] (.lst ((x :: L).map fun i => .d (.int i)))).map fun z => (O.dic (replK (.str kL) z.1 [(.str kL, .lst ((x :: L).map fun i => .d (.int i))), (.str kR, .d (.int r)), (.str kC, .d (.lst (C.map .int))), (.str kT, .d (.int t))]), z.2) from rfl]
  have h : ixN ((x :: L).map fun i => O.d (.int i)).length 0 = some 0 := by
    have := ixN_nat (n := ((x :: L).map fun i => O.d (.int i)).length) (j := 0) (by simp)
    simpa using this
  simp only [popAt, h]
  simp [pures_mapf]
  rfl
theorem dr_popA {L' : List Int} (h : L = x :: L') : modAt (.str [108, 97, 114, 103, 101]) (fun o => popAt [.int 0] o) (dr L r C t) = some (dr L' r C t, .d (.int x)) := by
  subst h
  exact dr_pop
end
/-- the draws so far: at most n of them mixed -/
def Dr (n : Nat) (sto : List O) : Prop := ∃ L r C t, sto = [dr L r C (t : Nat)] ∧ t ≤ n
theorem Dr_mono {n n' : Nat} {sto : List O} (h : Dr n sto) (hn : n ≤ n') : Dr n' sto := by
  obtain ⟨L, r, C, t, e, ht⟩ := h
  exact ⟨L, r, C, t, e, by omega⟩
@[simp] theorem cell_no {n : Nat} {s : List O} {o : O} (h : s[n]? = some o) {e : List (Option O)} : see (.d (.cell n)) ⟨e, s⟩ = some (o, ⟨e, s⟩) := by simp [h]
@[simp high] theorem ints_ne (L : List Int) : cop .ne (.lst (L.map .int)) (.lst []) = some (!L.isEmpty) := by
  have h1 := plains_map D.int (fun _ => rfl) L
  have h2 := depths_map D.int 0 (fun _ => Nat.le_refl _) L
  rw [show cop .ne (D.lst (L.map .int)) (.lst []) = if eqOk (D.lst (L.map .int)) (.lst []) then some (!D.eqv (D.lst (L.map .int)) (.lst [])) else none from rfl]
  have h3 : eqOk (D.lst (L.map .int)) (.lst []) = true := by
    simp [eqOk, D.plain, D.depth, h1, D.plains, D.depths]
    omega
  rw [h3]
  cases L <;> simp [D.eqv, D.eqvs]
theorem fmod_range {a g : Int} (hg : 0 < g) : 0 ≤ a.fmod g ∧ a.fmod g < g := ⟨Int.fmod_nonneg_of_pos a hg, Int.fmod_lt_of_pos a hg⟩
theorem sm_lt {i : Int} {b : Nat} (h : i.natAbs ≤ 2 ^ b) (hb : b < 4000) : Sm i := Nat.lt_of_le_of_lt h (pow_bigA hb)
namespace K48
theorem w_mixed {L : List Int} {r : Int} {C : List Int} {t : Nat} (ht : t ≤ 10 ^ 9) {m : Nat} (hm : 1 ≤ m) : ∃ x : Int, callD loop prog m 44 [.cell 0] [dr L r C (t : Nat)] = some (.d (.int x), [dr L r C ((t + 1 : Nat) : Nat)]) := by
  obtain ⟨k, rfl⟩ : ∃ k, m = k + 1 := ⟨m - 1, by omega⟩
  suffices hE : Ends (callD loop prog (k + 1) 44 [.cell 0] [dr L r C (t : Nat)]) fun a => ∃ x : Int, a = (.d (.int x), [dr L r C ((t + 1 : Nat) : Nat)]) by
    obtain ⟨a, h1, x, rfl⟩ := hE
    exact ⟨x, h1⟩
  refine run_def (d := d_law_mixed) rfl rfl ?_
  simp [d_law_mixed, start, O.isD, O.flat, isInst, isTy, tyNames, tyN, tyNs, anyN, O.toD, eqOk, D.plain, D.depth, D.eqv, D.flat, E.place, E.quiet, E.quiet.go, E.quietO, stEs, stE, asgT, cxK_own, cxK_cel, cxK_call, cxK_make, bindT.go, Tg.slots, Tg.slots.go, wipe, putBack, dOnly, ixN, bls_map, pures_map', pures_mapf, toDs_mapf, toDs_map', ints_map, E.keeps, isN, isL, modR, modPath, appAt, dr_setT]
  refine run_for [(2147483647 : Nat), 2147483629, 2147483587] (fun j => .int (j : Nat)) (fun done s => ∃ (f : Int) (x3 x4 x5 : Option O), 0 ≤ f ∧ f ≤ 2 ^ (70 * done.length) ∧ s = ⟨[some (.d (.cell 0)), some (.d (.int ((t + 1 : Nat) : Nat))), some (.d (.int f)), x3, x4, x5], [dr L r C ((t + 1 : Nat) : Nat)]⟩) ?_ ?_ ?_
  · simp [start, O.isD, O.flat, isInst, isTy, tyNames, tyN, tyNs, anyN, O.toD, eqOk, D.plain, D.depth, D.eqv, D.flat, E.place, E.quiet, E.quiet.go, E.quietO, stEs, stE, asgT, cxK_own, cxK_cel, cxK_call, cxK_make, bindT.go, Tg.slots, Tg.slots.go, wipe, putBack, dOnly, ixN, bls_map, pures_map', pures_mapf, toDs_mapf, toDs_map', ints_map, E.keeps, isN, isL, modR, modPath, appAt, O.toDs]
  · rintro done g rest e s ⟨f, x3, x4, x5, f0, f1, rfl⟩
    have hg : 2147483587 ≤ g ∧ g ≤ 2147483647 := by
      have : g ∈ [(2147483647 : Nat), 2147483629, 2147483587] := by rw [e]; simp
      simp at this; omega
    have hd : done.length ≤ 2 := by
      have := congrArg List.length e
      simp at this; omega
    have m1 : mulOk ((t : Int) + 1) 48271 = true := sm_mul (sm_lt (b := 40) (by omega) (by decide)) (sm_lt (b := 40) (by decide) (by decide))
    have d1 : divOk 11 = true := sm_div (by decide) (sm_lt (b := 40) (by decide) (by decide))
    have g0 : (g : Int) ≠ 0 := by omega
    have g0' : ¬ g = 0 := by omega
    simp [start, O.isD, O.flat, isInst, isTy, tyNames, tyN, tyNs, anyN, O.toD, eqOk, D.plain, D.depth, D.eqv, D.flat, E.place, E.quiet, E.quiet.go, E.quietO, stEs, stE, asgT, cxK_own, cxK_cel, cxK_call, cxK_make, bindT.go, Tg.slots, Tg.slots.go, wipe, putBack, dOnly, ixN, bls_map, pures_map', pures_mapf, toDs_mapf, toDs_map', ints_map, E.keeps, isN, isL, modR, modPath, appAt, m1, d1, g0']
    refine run_for C D.int (fun dn s => ∃ (bl : Int) (x5 : Option O), 0 ≤ bl ∧ bl < g ∧ s = ⟨[some (.d (.cell 0)), some (.d (.int ((t : Int) + 1))), some (.d (.int f)), some (.d (.int (g : Nat))), some (.d (.int bl)), x5], [dr L r C ((t : Int) + 1)]⟩) ?_ ?_ ?_
    · obtain ⟨q1, q2⟩ := fmod_range (a := (((t : Int) + 1) * 48271 + ((g : Nat) : Int).fdiv 11)) (g := (g : Int)) (by omega)
      simp [start, O.isD, O.flat, isInst, isTy, tyNames, tyN, tyNs, anyN, O.toD, eqOk, D.plain, D.depth, D.eqv, D.flat, E.place, E.quiet, E.quiet.go, E.quietO, stEs, stE, asgT, cxK_own, cxK_cel, cxK_call, cxK_make, bindT.go, Tg.slots, Tg.slots.go, wipe, putBack, dOnly, ixN, bls_map, pures_map', pures_mapf, toDs_mapf, toDs_map', ints_map, E.keeps, isN, isL, modR, modPath, appAt]
      exact ⟨q1, q2⟩
    · rintro dn c rst e2 s ⟨bl, x5, b0, b1, rfl⟩
      have m2 : mulOk bl 69621 = true := sm_mul (sm_lt (b := 40) (by omega) (by decide)) (sm_lt (b := 40) (by decide) (by decide))
      obtain ⟨q1, q2⟩ := fmod_range (a := bl * 69621 + c + ((t : Int) + 1)) (g := (g : Int)) (by omega)
      simp [start, O.isD, O.flat, isInst, isTy, tyNames, tyN, tyNs, anyN, O.toD, eqOk, D.plain, D.depth, D.eqv, D.flat, E.place, E.quiet, E.quiet.go, E.quietO, stEs, stE, asgT, cxK_own, cxK_cel, cxK_call, cxK_make, bindT.go, Tg.slots, Tg.slots.go, wipe, putBack, dOnly, ixN, bls_map, pures_map', pures_mapf, toDs_mapf, toDs_map', ints_map, E.keeps, isN, isL, modR, modPath, appAt, m2, g0']
      exact ⟨q1, q2⟩
    · rintro s ⟨bl, x5, b0, b1, rfl⟩
      have m3 : mulOk f 2147483659 = true := by
        have : f.natAbs ≤ 2 ^ (70 * done.length) := by
          have : ((2 ^ (70 * done.length) : Nat) : Int) = 2 ^ (70 * done.length) := by push_cast; rfl
          omega
        exact sm_mul (sm_lt this (by omega)) (sm_lt (b := 40) (by decide) (by decide))
      have p1 : bl.natAbs < 2 ^ 64 := by omega
      obtain ⟨q1, q2⟩ := fmod_range (a := bl ^ 5) (g := (g : Int)) (by omega)
      have p2 : f * 2147483659 + (bl ^ 5).fmod g ≤ 2 ^ (70 * (done.length + 1)) := by
        have e1 : (2 : Int) ^ (70 * (done.length + 1)) = 2 ^ (70 * done.length) * 2 ^ 70 := by rw [Nat.mul_add, Int.pow_add]
        have e2 : (0 : Int) < 2 ^ (70 * done.length) := Int.pow_pos (by decide)
        rw [e1]
        omega
      simp [start, O.isD, O.flat, isInst, isTy, tyNames, tyN, tyNs, anyN, O.toD, eqOk, D.plain, D.depth, D.eqv, D.flat, E.place, E.quiet, E.quiet.go, E.quietO, stEs, stE, asgT, cxK_own, cxK_cel, cxK_call, cxK_make, bindT.go, Tg.slots, Tg.slots.go, wipe, putBack, dOnly, ixN, bls_map, pures_map', pures_mapf, toDs_mapf, toDs_map', ints_map, E.keeps, isN, isL, modR, modPath, appAt, m3, g0', p1]
      exact ⟨by omega, p2⟩
  · rintro s ⟨f, x3, x4, x5, f0, f1, rfl⟩
    simp [start, O.isD, O.flat, isInst, isTy, tyNames, tyN, tyNs, anyN, O.toD, eqOk, D.plain, D.depth, D.eqv, D.flat, E.place, E.quiet, E.quiet.go, E.quietO, stEs, stE, asgT, cxK_own, cxK_cel, cxK_call, cxK_make, bindT.go, Tg.slots, Tg.slots.go, wipe, putBack, dOnly, ixN, bls_map, pures_map', pures_mapf, toDs_mapf, toDs_map', ints_map, E.keeps, isN, isL, modR, modPath, appAt]
theorem w_take {n : Nat} {sto : List O} (h : Dr n sto) (hn : n ≤ 10 ^ 8) {a : Nat} (ha : 0 < a) (ha2 : a ≤ 1000) {m : Nat} (hm : 2 ≤ m) : ∃ (i : Nat) (sto' : List O), callD loop prog m 45 [.cell 0, .int (a : Nat)] sto = some (.d (.int (i : Nat)), sto') ∧ i < a ∧ Dr (n + 1) sto' := by
  obtain ⟨k, rfl⟩ : ∃ k, m = k + 2 := ⟨m - 2, by omega⟩
  obtain ⟨L, r, C, t, rfl, ht⟩ := h
  have d1 : divOk (a : Int) = true := sm_div (by omega) (sm_lt (b := 40) (by omega) (by decide))
  have a0 : ¬ (a : Int) = 0 := by omega
  have a0' : ¬ a = 0 := by omega
  have fin : ∀ x : Int, ∃ i : Nat, x.fmod (a : Int) = (i : Int) ∧ i < a := fun x => by
    obtain ⟨h1, h2⟩ := fmod_range (a := x) (g := (a : Int)) (by omega)
    exact ⟨(x.fmod a).toNat, by omega, by omega⟩
  suffices hE : Ends (callD loop prog (k + 2) 45 [.cell 0, .int (a : Nat)] [dr L r C (t : Nat)]) fun b => ∃ (i : Nat), b.1 = .d (.int (i : Nat)) ∧ i < a ∧ Dr (n + 1) b.2 by
    obtain ⟨⟨b1, b2⟩, h1, i, rfl, h2, h3⟩ := hE
    exact ⟨i, b2, h1, h2, h3⟩
  refine run_def (d := d_law_take) rfl rfl ?_
  by_cases hr : r = 0
  · by_cases hL : L.isEmpty = true
    · obtain ⟨x, hx⟩ := w_mixed (L := L) (r := r) (C := C) (t := t) (by omega) (m := k + 1) (by omega)
      obtain ⟨i, hi, hi2⟩ := fin x
      subst hr
      simp at hx
      simp [d_law_take, start, O.isD, O.flat, isInst, isTy, tyNames, tyN, tyNs, anyN, O.toD, eqOk, D.plain, D.depth, D.eqv, D.flat, E.place, E.quiet, E.quiet.go, E.quietO, stEs, stE, asgT, cxK_own, cxK_cel, cxK_call, cxK_make, bindT.go, Tg.slots, Tg.slots.go, wipe, putBack, dOnly, ixN, bls_map, pures_map', pures_mapf, toDs_mapf, toDs_map', ints_map, E.keeps, isN, isL, modR, modPath, appAt, hL, hx, dr_setR, d1, a0', hi]
      exact ⟨i, rfl, hi2, L, _, C, t + 1, rfl, by omega⟩
    · obtain ⟨y, L', hLe⟩ : ∃ y L', L = y :: L' := by
        cases L with
        | nil => exact absurd rfl hL
        | cons y L' => exact ⟨y, L', rfl⟩
      obtain ⟨i, hi, hi2⟩ := fin y
      have hp := fun r => dr_popA (r := r) (C := C) (t := (t : Int)) hLe
      subst hr
      simp [d_law_take, start, O.isD, O.flat, isInst, isTy, tyNames, tyN, tyNs, anyN, O.toD, eqOk, D.plain, D.depth, D.eqv, D.flat, E.place, E.quiet, E.quiet.go, E.quietO, stEs, stE, asgT, cxK_own, cxK_cel, cxK_call, cxK_make, bindT.go, Tg.slots, Tg.slots.go, wipe, putBack, dOnly, ixN, bls_map, pures_map', pures_mapf, toDs_mapf, toDs_map', ints_map, E.keeps, isN, isL, modR, modPath, appAt, hL, hp, dr_setR, d1, a0', hi, E.isCon]
      exact ⟨i, rfl, hi2, L', _, C, t, rfl, by omega⟩
  · obtain ⟨i, hi, hi2⟩ := fin r
    have hr2 : (r == 0) = false := by simpa using hr
    simp [d_law_take, start, O.isD, O.flat, isInst, isTy, tyNames, tyN, tyNs, anyN, O.toD, eqOk, D.plain, D.depth, D.eqv, D.flat, E.place, E.quiet, E.quiet.go, E.quietO, stEs, stE, asgT, cxK_own, cxK_cel, cxK_call, cxK_make, bindT.go, Tg.slots, Tg.slots.go, wipe, putBack, dOnly, ixN, bls_map, pures_map', pures_mapf, toDs_mapf, toDs_map', ints_map, E.keeps, isN, isL, modR, modPath, appAt, hr, hr2, dr_setR, d1, a0', hi]
    exact ⟨i, rfl, hi2, L, _, C, t, rfl, by omega⟩
end K48
end Py
end

section
set_option linter.all false
set_option Elab.async false
/-! LE: drawn rows, drawn shares. -/
namespace Py
/-- numbers up to B -/
def NL (B : Nat) (l : List Nat) : Prop := ∀ n ∈ l, n ≤ B
theorem NL_sum {B : Nat} {l : List Nat} (h : NL B l) : l.sum ≤ l.length * B := sum_le h
theorem item_natO {l : List Nat} {j : Nat} (h : j < l.length) : item (.lst (l.map fun n => .d (.int (n : Nat)))) (.int (j : Nat)) = some (.d (.int (l[j]?.getD 0 : Nat))) := by
  rw [q_it4, ixN_nat (by simpa using h)]
  simp [h]
theorem set_natO {l : List Nat} {j x : Nat} (h : j < l.length) : setAt (.int (j : Nat)) (.d (.int (x : Nat))) (.lst (l.map fun n => .d (.int (n : Nat)))) = some (.lst ((l.set j x).map fun n => .d (.int (n : Nat))), ()) := by
  simp only [setAt]
  rw [ixN_nat (by simpa using h)]
  simp
/-- a comprehension that draws numbers -/
theorem run_nums {α : Type} {c : Cx} {s : St} {m : Bool} (l : List α) (g : α → D) (B q n : Nat) {tg : Tg} {k : Option Itk} {es : List E} {el : E} {K : O × St → Prop}
    (h : Ends (evs c es s) fun p => Ends (yields k p.1) fun xs => xs = l.map g ∧ lenOk l.length = true ∧ Dr n p.2.sto ∧
      (∀ x ∈ l, ∀ n' sto, n' ≤ n + l.length * q → Dr n' sto → Ends (bindT tg (g x) (wipe p.2.env tg.slots)) fun env => Ends (ev c false el ⟨env, sto⟩) fun r => (∃ y : Nat, r.1.toD = .int (y : Nat) ∧ y ≤ B) ∧ Dr (n' + q) r.2.sto ∧ wipe r.2.env tg.slots = wipe p.2.env tg.slots) ∧
      (∀ (ys : List Nat) sto, ys.length = l.length → NL B ys → Dr (n + l.length * q) sto → K (.lst (ys.map fun y => .d (.int (y : Nat))), ⟨putBack p.2.env p.2.env tg.slots, sto⟩))) : Ends (ev c m (.lc tg k es [] el) s) K := by
  obtain ⟨⟨ds, s1⟩, h1, xs, h2, rfl, h3, h4, h5, h6⟩ := h
  refine run_lc l g (fun done out sto => ∃ ys : List Nat, out = ys.map (fun y => .int (y : Nat)) ∧ ys.length = done.length ∧ NL B ys ∧ Dr (n + done.length * q) sto) ⟨(ds, s1), h1, _, h2, rfl, ⟨[], rfl, rfl, (fun _ h => by cases h), by simpa using h4⟩, ?_, ?_⟩
  · rintro done x rest out sto e ⟨ys, rfl, e1, e2, e3⟩
    have hle : done.length ≤ l.length := by rw [e]; simp
    obtain ⟨env, f1, r, f2, ⟨y, f3, f4⟩, f5, f6⟩ := h5 x (by rw [e]; simp) _ sto (Nat.add_le_add_left (Nat.mul_le_mul_right q hle) n) e3
    refine ⟨env, f1, ?_⟩
    simp only [w_evT0, ends_some]
    refine ⟨fun _ => ⟨r, f2, ⟨ys ++ [y], ?_, by simp [e1], ?_, ?_⟩, f6⟩, fun h => by cases h⟩
    · rw [f3]; simp
    · intro z hz
      rcases List.mem_append.mp hz with hz | hz
      · exact e2 z hz
      · simp at hz; rw [hz]; exact f4
    · rw [List.length_append, List.length_singleton, Nat.add_mul, Nat.one_mul, ← Nat.add_assoc]
      exact f5
  · rintro out sto ⟨ys, rfl, e1, e2, e3⟩
    refine ⟨by rw [List.length_map, e1]; exact h3, ?_⟩
    have := h6 ys sto e1 e2 e3
    simpa [Function.comp_def] using this
theorem sum_pos_of {l : List Nat} {j : Nat} (h : j < l.length) : 0 < (l.set j 1).sum := by
  have : 1 ≤ (l.set j 1).sum := mem_le_sum (by rw [List.mem_iff_getElem]; exact ⟨j, by simpa using h, by simp⟩)
  omega
theorem NL_set {B : Nat} {l : List Nat} {j x : Nat} (h : NL B l) (hx : x ≤ B) : NL B (l.set j x) := by
  intro n hn
  rcases List.mem_or_eq_of_mem_set hn with hn | rfl
  · exact h n hn
  · exact hx
/-- rows that are drawn one behind another -/
def RowsUp (many : Nat) (rows : List (Nat × List Nat)) : Prop := ∀ r ∈ rows, 0 < r.1 ∧ r.1 ≤ 2 ^ 10 ∧ r.2.length = many ∧ r.2.sum = r.1
theorem RowsUp_snoc {many : Nat} {rows : List (Nat × List Nat)} {r : Nat × List Nat} (h : RowsUp many rows) (hr : 0 < r.1 ∧ r.1 ≤ 2 ^ 10 ∧ r.2.length = many ∧ r.2.sum = r.1) : RowsUp many (rows ++ [r]) := by
  intro x hx
  rcases List.mem_append.mp hx with hx | hx
  · exact h x hx
  · simp at hx; rw [hx]; exact hr
namespace K48
/-- one of some things -/
theorem w_pick {n : Nat} {sto : List O} (h : Dr n sto) (hn : n ≤ 10 ^ 8) {d : D} {xs : List D} (hd : d = .lst xs ∨ d = .tup xs) (h0 : 0 < xs.length) (h1 : xs.length ≤ 1000) {m : Nat} (hm : 3 ≤ m) : ∃ (x : D) (sto' : List O), callD loop prog m 46 [.cell 0, d] sto = some (.d x, sto') ∧ x ∈ xs ∧ Dr (n + 1) sto' := by
  obtain ⟨k, rfl⟩ : ∃ k, m = k + 3 := ⟨m - 3, by omega⟩
  obtain ⟨i, sto', e1, e2, e3⟩ := w_take (n := n) h hn h0 h1 (m := k + 2) (by omega)
  suffices hE : Ends (callD loop prog (k + 3) 46 [.cell 0, d] sto) fun b => b = (.d (xs[i]), sto') by
    exact ⟨xs[i], sto', ends_eq hE, List.getElem_mem _, e3⟩
  refine run_def (d := d_law_pick) rfl rfl ?_
  have hi : item (.d d) (.int (i : Nat)) = some (.d xs[i]) := by
    rcases hd with rfl | rfl
    · rw [q_it1, ixN_nat e2]; simp [e2]
    · rw [q_it2, ixN_nat e2]; simp [e2]
  have hl : bi .len [d] = some (.d (.int (xs.length : Nat))) := by
    rcases hd with rfl | rfl <;> rfl
  have hc : noCell (.d d) = true := by
    rcases hd with rfl | rfl <;> rfl
  simp [d_law_pick, start, O.isD, O.flat, isInst, isTy, tyNames, tyN, tyNs, anyN, O.toD, eqOk, D.plain, D.depth, D.eqv, D.flat, E.place, E.quiet, E.quiet.go, E.quietO, stEs, stE, asgT, cxK_own, cxK_cel, cxK_call, cxK_make, bindT.go, Tg.slots, Tg.slots.go, wipe, putBack, dOnly, ixN, bls_map, pures_map', pures_mapf, toDs_mapf, toDs_map', ints_map, E.keeps, isN, isL, modR, modPath, appAt, hc, hl, e1, hi]
/-- a drawn number of some -/
theorem w_pickN {n : Nat} {sto : List O} (h : Dr n sto) (hn : n ≤ 10 ^ 8) {l : List Nat} (h0 : 0 < l.length) (h1 : l.length ≤ 1000) {m : Nat} (hm : 3 ≤ m) : ∃ (x : Nat) (sto' : List O), callD loop prog m 46 [.cell 0, .lst (l.map fun n => .int (n : Nat))] sto = some (.d (.int (x : Nat)), sto') ∧ x ∈ l ∧ Dr (n + 1) sto' := by
  obtain ⟨x, sto', e1, e2, e3⟩ := w_pick h hn (.inl rfl) (xs := l.map fun n => .int (n : Nat)) (by simpa using h0) (by simpa using h1) hm
  obtain ⟨y, hy, rfl⟩ := List.mem_map.mp e2
  exact ⟨y, sto', e1, hy, e3⟩
theorem w_kept_rows {n : Nat} {sto : List O} (h : Dr n sto) (hn : n ≤ 10 ^ 7) {m : Nat} (hm : 6 ≤ m)
    (hrows : ∀ {n : Nat} {sto : List O}, Dr n sto → n ≤ 2 * 10 ^ 7 → ∀ {m : Nat}, 5 ≤ m → ∃ (rows : List (Nat × List Nat)) (sto' : List O), callD loop prog m 53 [.cell 0, .int 4] sto = some (.lst (rows.map fun r => .d (pD r)), sto') ∧ ROk rows ∧ rows.length ≤ 4 ∧ Dr (n + 100) sto') :
    ∃ (rows : List (Nat × List Nat)) (sto' : List O), callD loop prog m 61 [.cell 0, .int 4] sto = some (.lst (rows.map fun r => .d (pD r)), sto') ∧ ROk rows ∧ rows.length ≤ 4 ∧ Dr (n + 200) sto' := by
  obtain ⟨k, rfl⟩ : ∃ k, m = k + 6 := ⟨m - 6, by omega⟩
  suffices hE : Ends (callD loop prog (k + 6) 61 [.cell 0, .int 4] sto) fun b => ∃ (rows : List (Nat × List Nat)) (sto' : List O), b = (.lst (rows.map fun r => .d (pD r)), sto') ∧ ROk rows ∧ rows.length ≤ 4 ∧ Dr (n + 200) sto' by
    obtain ⟨b, e, rows, sto', rfl, h1, h2, h3⟩ := hE
    exact ⟨rows, sto', e, h1, h2, h3⟩
  obtain ⟨a1, s1, t1, t2, t3⟩ := w_take h (by omega) (a := 4) (by decide) (by decide) (m := k + 5) (by omega)
  obtain ⟨a2, s2, u1, u2, u3⟩ := w_take t3 (by omega) (a := 5) (by decide) (by decide) (m := k + 5) (by omega)
  simp at t1 u1
  refine run_def (d := d_law_kept_rows) rfl rfl ?_
  by_cases hw : a2 = 0
  · obtain ⟨rows, s3, r1, r2, r3, r4⟩ := hrows (n := n + 1 + 1) u3 (by omega) (m := k + 5) (by omega)
    subst hw
    simp [d_law_kept_rows, start, O.isD, O.flat, isInst, isTy, tyNames, tyN, tyNs, anyN, O.toD, eqOk, D.plain, D.depth, D.eqv, D.flat, E.place, E.quiet, E.quiet.go, E.quietO, stEs, stE, asgT, cxK_own, cxK_cel, cxK_call, cxK_make, bindT.go, Tg.slots, Tg.slots.go, wipe, putBack, dOnly, ixN, bls_map, pures_map', pures_mapf, toDs_mapf, toDs_map', ints_map, E.keeps, isN, isL, modR, modPath, appAt, t1, u1, r1]
    exact ⟨rows, s3, ⟨rfl, rfl⟩, r2, r3, Dr_mono r4 (by omega)⟩
  · have hw2 : ((a2 : Int) == 0) = false := by simpa using hw
    simp [d_law_kept_rows, start, O.isD, O.flat, isInst, isTy, tyNames, tyN, tyNs, anyN, O.toD, eqOk, D.plain, D.depth, D.eqv, D.flat, E.place, E.quiet, E.quiet.go, E.quietO, stEs, stE, asgT, cxK_own, cxK_cel, cxK_call, cxK_make, bindT.go, Tg.slots, Tg.slots.go, wipe, putBack, dOnly, ixN, bls_map, pures_map', pures_mapf, toDs_mapf, toDs_map', ints_map, E.keeps, isN, isL, modR, modPath, appAt, t1, u1, hw, hw2]
    have hr : itk .range [.int (1 + (a1 : Nat))] = some ((List.range (a1 + 1)).map fun (j : Nat) => .int (j : Int)) := by
      have := q_range (n := a1 + 1) (by omega)
      rw [Int.add_comm]
      simpa using this
    refine run_for (List.range (a1 + 1)) (fun j => .int (j : Nat)) (fun done s => ∃ (rows : List (Nat × List Nat)) (x5 x6 : Option O) (sto : List O), rows.length = done.length ∧ RowsUp (a1 + 1) rows ∧ Dr (n + 2 + done.length * 10) sto ∧ s = ⟨[some (.d (.cell 0)), some (.d (.int 4)), some (.d (.int (1 + (a1 : Nat)))), some (.d (.int (a2 : Nat))), some (.lst (rows.map fun r => .d (pD r))), x5, x6, none], sto⟩) ?_ ?_ ?_
    · simp [start, O.isD, O.flat, isInst, isTy, tyNames, tyN, tyNs, anyN, O.toD, eqOk, D.plain, D.depth, D.eqv, D.flat, E.place, E.quiet, E.quiet.go, E.quietO, stEs, stE, asgT, cxK_own, cxK_cel, cxK_call, cxK_make, bindT.go, Tg.slots, Tg.slots.go, wipe, putBack, dOnly, ixN, bls_map, pures_map', pures_mapf, toDs_mapf, toDs_map', ints_map, E.keeps, isN, isL, modR, modPath, appAt, hr]
      exact ⟨(fun _ h => by cases h), u3⟩
    · rintro done x rest e s ⟨rows, x5, x6, s3, q1, q2, q3, rfl⟩
      have hd : done.length < a1 + 1 := by
        have := congrArg List.length e
        simp at this; omega
      have q4 : lenOk (a1 + 1) = true := lenOk_of (by omega)
      simp [start, O.isD, O.flat, isInst, isTy, tyNames, tyN, tyNs, anyN, O.toD, eqOk, D.plain, D.depth, D.eqv, D.flat, E.place, E.quiet, E.quiet.go, E.quietO, stEs, stE, asgT, cxK_own, cxK_cel, cxK_call, cxK_make, bindT.go, Tg.slots, Tg.slots.go, wipe, putBack, dOnly, ixN, bls_map, pures_map', pures_mapf, toDs_mapf, toDs_map', ints_map, E.keeps, isN, isL, modR, modPath, appAt]
      refine run_nums (List.range (a1 + 1)) (fun j => .int (j : Nat)) 5 1 (n + 2 + done.length * 10) ?_
      simp [start, O.isD, O.flat, isInst, isTy, tyNames, tyN, tyNs, anyN, O.toD, eqOk, D.plain, D.depth, D.eqv, D.flat, E.place, E.quiet, E.quiet.go, E.quietO, stEs, stE, asgT, cxK_own, cxK_cel, cxK_call, cxK_make, bindT.go, Tg.slots, Tg.slots.go, wipe, putBack, dOnly, ixN, bls_map, pures_map', pures_mapf, toDs_mapf, toDs_map', ints_map, E.keeps, isN, isL, modR, modPath, appAt, hr, q4]
      refine ⟨q3, fun spot hs n' s4 hn' h4 => ?_, fun ys s4 hy1 hy2 h4 => ?_⟩
      · obtain ⟨y, s5, y1, y2, y3⟩ := w_pickN h4 (by omega) (l := [0, 0, 0, 1, 1, 2, 5]) (by decide) (by decide) (m := k + 5) (by omega)
        have hy : y ≤ 5 := by simp at y2; omega
        simp at y1
        have h7 : lenOk 7 = true := lenOk_of (by decide)
        have D0 : Dr (n' + 1) s4 := Dr_mono h4 (by omega)
        by_cases hc : (a2 : Int) < 4
        · have hc2 : ¬ ((4 : Int) ≤ (a2 : Int)) := by omega
          simp [start, O.isD, O.flat, isInst, isTy, tyNames, tyN, tyNs, anyN, O.toD, eqOk, D.plain, D.depth, D.eqv, D.flat, E.place, E.quiet, E.quiet.go, E.quietO, stEs, stE, asgT, cxK_own, cxK_cel, cxK_call, cxK_make, bindT.go, Tg.slots, Tg.slots.go, wipe, putBack, dOnly, ixN, bls_map, pures_map', pures_mapf, toDs_mapf, toDs_map', ints_map, E.keeps, isN, isL, modR, modPath, appAt, hc, hc2, y1, O.toDs]
          exact ⟨⟨y, rfl, hy⟩, y3⟩
        · have hc2 : (4 : Int) ≤ (a2 : Int) := by omega
          by_cases hx : spot = x
          · subst hx
            simp [start, O.isD, O.flat, isInst, isTy, tyNames, tyN, tyNs, anyN, O.toD, eqOk, D.plain, D.depth, D.eqv, D.flat, E.place, E.quiet, E.quiet.go, E.quietO, stEs, stE, asgT, cxK_own, cxK_cel, cxK_call, cxK_make, bindT.go, Tg.slots, Tg.slots.go, wipe, putBack, dOnly, ixN, bls_map, pures_map', pures_mapf, toDs_mapf, toDs_map', ints_map, E.keeps, isN, isL, modR, modPath, appAt, hc, hc2, O.toDs]
            exact ⟨⟨0, rfl, by decide⟩, D0⟩
          · have h3 : ((spot : Int) == (x : Int)) = false := by
              simp only [beq_eq_false_iff_ne]; omega
            have h4 : ¬ ((spot : Int) = (x : Int)) := by omega
            simp [start, O.isD, O.flat, isInst, isTy, tyNames, tyN, tyNs, anyN, O.toD, eqOk, D.plain, D.depth, D.eqv, D.flat, E.place, E.quiet, E.quiet.go, E.quietO, stEs, stE, asgT, cxK_own, cxK_cel, cxK_call, cxK_make, bindT.go, Tg.slots, Tg.slots.go, wipe, putBack, dOnly, ixN, bls_map, pures_map', pures_mapf, toDs_mapf, toDs_map', ints_map, E.keeps, isN, isL, modR, modPath, appAt, hc, hc2, h3, h4, y1, O.toDs]
            exact ⟨⟨y, rfl, hy⟩, y3⟩
      · have hlen : ys.length = a1 + 1 := by simpa using hy1
        have q5 : lenOk (rows.length + 1) = true := lenOk_of (by omega)
        simp [start, O.isD, O.flat, isInst, isTy, tyNames, tyN, tyNs, anyN, O.toD, eqOk, D.plain, D.depth, D.eqv, D.flat, E.place, E.quiet, E.quiet.go, E.quietO, stEs, stE, asgT, cxK_own, cxK_cel, cxK_call, cxK_make, bindT.go, Tg.slots, Tg.slots.go, wipe, putBack, dOnly, ixN, bls_map, pures_map', pures_mapf, toDs_mapf, toDs_map', ints_map, E.keeps, isN, isL, modR, modPath, appAt, ints_nat, sum_cast]
        refine ⟨fun h0 => ?_, fun h0 => ?_⟩
        · obtain ⟨i, s5, v1, v2, v3⟩ := w_take h4 (by simp; omega) (a := a1 + 1) (by omega) (by omega) (m := k + 5) (by omega)
          have v1' : callD loop prog (k + 5) 45 [.cell 0, .int (1 + (a1 : Int))] s4 = some (.d (.int (i : Nat)), s5) := by
            rw [Int.add_comm]; simpa using v1
          have set1 : setAt (.int (i : Nat)) (.d (.int 1)) (.lst (ys.map fun n => .d (.int (n : Nat)))) = some (.lst ((ys.set i 1).map fun n => .d (.int (n : Nat))), ()) := by simpa [-List.map_set] using set_natO (l := ys) (j := i) (x := 1) (by omega)
          simp [-List.map_set, start, O.isD, O.flat, isInst, isTy, tyNames, tyN, tyNs, anyN, O.toD, eqOk, D.plain, D.depth, D.eqv, D.flat, E.place, E.quiet, E.quiet.go, E.quietO, stEs, stE, asgT, cxK_own, cxK_cel, cxK_call, cxK_make, bindT.go, Tg.slots, Tg.slots.go, wipe, putBack, dOnly, ixN, bls_map, pures_map', pures_mapf, toDs_mapf, toDs_map', ints_map, E.keeps, isN, isL, modR, modPath, appAt, v1', set1, ints_nat, sum_cast, q5]
          refine ⟨rows ++ [((ys.set i 1).sum, ys.set i 1)], by simp [q1], RowsUp_snoc q2 ⟨sum_pos_of (by omega), ?_, by simpa using hlen, rfl⟩, Dr_mono v3 (by omega), by simp [-List.map_set, pD]⟩
          have := NL_sum (NL_set (j := i) hy2 (by decide : 1 ≤ 5))
          rw [List.length_set, hlen] at this
          refine Nat.le_trans this ?_
          have : (a1 + 1) * 5 ≤ 4 * 5 := Nat.mul_le_mul_right _ (by omega)
          omega
        · simp [start, O.isD, O.flat, isInst, isTy, tyNames, tyN, tyNs, anyN, O.toD, eqOk, D.plain, D.depth, D.eqv, D.flat, E.place, E.quiet, E.quiet.go, E.quietO, stEs, stE, asgT, cxK_own, cxK_cel, cxK_call, cxK_make, bindT.go, Tg.slots, Tg.slots.go, wipe, putBack, dOnly, ixN, bls_map, pures_map', pures_mapf, toDs_mapf, toDs_map', ints_map, E.keeps, isN, isL, modR, modPath, appAt, ints_nat, sum_cast, q5]
          refine ⟨rows ++ [(ys.sum, ys)], by simp [q1], RowsUp_snoc q2 ⟨by omega, ?_, by simpa using hlen, rfl⟩, Dr_mono h4 (by omega), by simp [pD]⟩
          have := NL_sum hy2
          rw [hlen] at this
          refine Nat.le_trans this ?_
          have : (a1 + 1) * 5 ≤ 4 * 5 := Nat.mul_le_mul_right _ (by omega)
          omega
    · rintro s ⟨rows, x5, x6, s3, q1, q2, q3, rfl⟩
      simp at q1 q3
      simp [start, O.isD, O.flat, isInst, isTy, tyNames, tyN, tyNs, anyN, O.toD, eqOk, D.plain, D.depth, D.eqv, D.flat, E.place, E.quiet, E.quiet.go, E.quietO, stEs, stE, asgT, cxK_own, cxK_cel, cxK_call, cxK_make, bindT.go, Tg.slots, Tg.slots.go, wipe, putBack, dOnly, ixN, bls_map, pures_map', pures_mapf, toDs_mapf, toDs_map', ints_map, E.keeps, isN, isL, modR, modPath, appAt]
      exact ⟨rows, s3, ⟨rfl, rfl⟩, ⟨by omega, by rw [q1]; exact q2⟩, by omega, Dr_mono q3 (by omega)⟩
end K48
end Py
end

section
set_option linter.all false
set_option Elab.async false
/-! LF: drawn rows of whole walks. -/
namespace Py
theorem set_sum_pos {l : List Nat} {j x : Nat} (h : j < l.length) (hx : 0 < x) : 0 < (l.set j x).sum := by
  have : x ≤ (l.set j x).sum := mem_le_sum (by rw [List.mem_iff_getElem]; exact ⟨j, by simpa using h, by simp⟩)
  omega
theorem fmod_natc (a b : Nat) : Int.fmod ((a : Nat) : Int) ((b : Nat) : Int) = ((a % b : Nat) : Int) := fmod_nat a b
namespace K48
theorem w_rows {n : Nat} {sto : List O} (h : Dr n sto) (hn : n ≤ 2 * 10 ^ 7) {m : Nat} (hm : 5 ≤ m) :
    ∃ (rows : List (Nat × List Nat)) (sto' : List O), callD loop prog m 53 [.cell 0, .int 4] sto = some (.lst (rows.map fun r => .d (pD r)), sto') ∧ ROk rows ∧ rows.length ≤ 4 ∧ Dr (n + 100) sto' := by
  obtain ⟨k, rfl⟩ : ∃ k, m = k + 5 := ⟨m - 5, by omega⟩
  suffices hE : Ends (callD loop prog (k + 5) 53 [.cell 0, .int 4] sto) fun b => ∃ (rows : List (Nat × List Nat)) (sto' : List O), b = (.lst (rows.map fun r => .d (pD r)), sto') ∧ ROk rows ∧ rows.length ≤ 4 ∧ Dr (n + 100) sto' by
    obtain ⟨b, e, rows, sto', rfl, h1, h2, h3⟩ := hE
    exact ⟨rows, sto', e, h1, h2, h3⟩
  obtain ⟨a1, s1, t1, t2, t3⟩ := w_take h (by omega) (a := 4) (by decide) (by decide) (m := k + 4) (by omega)
  obtain ⟨a2, s2, u1, u2, u3⟩ := w_take t3 (by omega) (a := 6) (by decide) (by decide) (m := k + 4) (by omega)
  simp at t1 u1
  have hr : itk .range [.int (1 + (a1 : Nat))] = some ((List.range (a1 + 1)).map fun (j : Nat) => .int (j : Int)) := by
    have := q_range (n := a1 + 1) (by omega)
    rw [Int.add_comm]
    simpa using this
  refine run_def (d := d_law_rows) rfl rfl ?_
  simp [d_law_rows, start, O.isD, O.flat, isInst, isTy, tyNames, tyN, tyNs, anyN, O.toD, eqOk, D.plain, D.depth, D.eqv, D.flat, E.place, E.quiet, E.quiet.go, E.quietO, stEs, stE, asgT, cxK_own, cxK_cel, cxK_call, cxK_make, bindT.go, Tg.slots, Tg.slots.go, wipe, putBack, dOnly, ixN, bls_map, pures_map', pures_mapf, toDs_mapf, toDs_map', ints_map, E.keeps, isN, isL, modR, modPath, appAt, t1, u1]
  refine run_for (List.range (a1 + 1)) (fun j => .int (j : Nat)) (fun done s => ∃ (rows : List (Nat × List Nat)) (x5 x6 : Option O) (sto : List O), rows.length = done.length ∧ RowsUp (a1 + 1) rows ∧ Dr (n + 2 + done.length * 12) sto ∧ s = ⟨[some (.d (.cell 0)), some (.d (.int 4)), some (.d (.int (1 + (a1 : Nat)))), some (.d (.int (a2 : Nat))), some (.lst (rows.map fun r => .d (pD r))), x5, x6, none], sto⟩) ?_ ?_ ?_
  · simp [start, O.isD, O.flat, isInst, isTy, tyNames, tyN, tyNs, anyN, O.toD, eqOk, D.plain, D.depth, D.eqv, D.flat, E.place, E.quiet, E.quiet.go, E.quietO, stEs, stE, asgT, cxK_own, cxK_cel, cxK_call, cxK_make, bindT.go, Tg.slots, Tg.slots.go, wipe, putBack, dOnly, ixN, bls_map, pures_map', pures_mapf, toDs_mapf, toDs_map', ints_map, E.keeps, isN, isL, modR, modPath, appAt, hr]
    exact ⟨(fun _ h => by cases h), u3⟩
  · rintro done x rest e s ⟨rows, x5, x6, s3, q1, q2, q3, rfl⟩
    have hd : done.length < a1 + 1 := by
      have := congrArg List.length e
      simp at this; omega
    have hxr : x < a1 + 1 := by
      have : x ∈ List.range (a1 + 1) := by rw [e]; simp
      exact List.mem_range.mp this
    have q4 : lenOk (a1 + 1) = true := lenOk_of (by omega)
    have q5 : lenOk (rows.length + 1) = true := lenOk_of (by omega)
    -- what stands behind the numbers are drawn
    have tail : ∀ (ys : List Nat) (s4 : List O), ys.length = a1 + 1 → NL 9 ys → Dr (n + 2 + done.length * 12 + 8) s4 → ∀ K : Out × St → Prop, (∀ (zs : List Nat) (s5 : List O) , zs.length = a1 + 1 → 0 < zs.sum → zs.sum ≤ 2 ^ 10 → Dr (n + 2 + done.length * 12 + 12) s5 → K (.nx, ⟨[some (.d (.cell 0)), some (.d (.int 4)), some (.d (.int (1 + (a1 : Nat)))), some (.d (.int (a2 : Nat))), some (.lst ((rows ++ [(zs.sum, zs)]).map fun r => .d (pD r))), some (.d (.int (x : Nat))), some (.lst (zs.map fun z => .d (.int (z : Nat)))), none], s5⟩)) →
        Ends (exs (cxK loop prog (k + 4) [4, 6] []) [.set (.var 6) (.bin .mod (.bin .add (.var 5) (.con (.int 1))) (.var 2)) (.bin .add (.bin .add (.idx (.var 6) (.bin .mod (.bin .add (.var 5) (.con (.int 1))) (.var 2))) (.con (.int 1))) (.call 45 [.var 0, .con (.int 2)])),
          .ite (.cmp .eq (.var 3) (.con (.int 2))) [.set (.var 6) (.var 5) (.bin .add (.bi .sum [.var 6]) (.call 45 [.var 0, .con (.int 3)]))] [],
          .app (.var 4) (.tup [.bi .sum [.var 6], .bi .tuple [.var 6]])]
          ⟨[some (.d (.cell 0)), some (.d (.int 4)), some (.d (.int (1 + (a1 : Nat)))), some (.d (.int (a2 : Nat))), some (.lst (rows.map fun r => .d (pD r))), some (.d (.int (x : Nat))), some (.lst (ys.map fun z => .d (.int (z : Nat)))), none], s4⟩) K := by
      intro ys s4 hl hN hD K hK
      obtain ⟨i, s5, v1, v2, v3⟩ := w_take hD (by omega) (a := 2) (by decide) (by decide) (m := k + 4) (by omega)
      simp at v1
      have hj : (x + 1) % (a1 + 1) < ys.length := by rw [hl]; exact Nat.mod_lt _ (by omega)
      have f1 : Int.fmod ((x : Int) + 1) (1 + (a1 : Int)) = (((x + 1) % (a1 + 1) : Nat) : Int) := by
        rw [← fmod_natc]; push_cast; rw [Int.add_comm 1]
      have f0 : ¬ (1 + (a1 : Int) = 0) := by omega
      have g1 := item_natO (l := ys) hj
      have g2 := set_natO (l := ys) (x := ys[(x + 1) % (a1 + 1)]?.getD 0 + 1 + i) hj
      have hy9 : ys[(x + 1) % (a1 + 1)]?.getD 0 ≤ 9 := by
        rw [List.getElem?_eq_getElem hj]; exact hN _ (List.getElem_mem hj)
      have w1 : NL 11 (ys.set ((x + 1) % (a1 + 1)) (ys[(x + 1) % (a1 + 1)]?.getD 0 + 1 + i)) := NL_set (fun n hn => Nat.le_trans (hN n hn) (by decide)) (by omega)
      have w2 := set_sum_pos (l := ys) (x := ys[(x + 1) % (a1 + 1)]?.getD 0 + 1 + i) hj (by omega)
      have w3 : (ys.set ((x + 1) % (a1 + 1)) (ys[(x + 1) % (a1 + 1)]?.getD 0 + 1 + i)).length = a1 + 1 := by simpa using hl
      generalize hzs : ys.set ((x + 1) % (a1 + 1)) (ys[(x + 1) % (a1 + 1)]?.getD 0 + 1 + i) = zs at *
      have w4 := NL_sum w1
      rw [w3] at w4
      have w5 : (a1 + 1) * 11 ≤ 44 := by omega
      push_cast at g1 g2 f1
      simp [-List.map_set, start, O.isD, O.flat, isInst, isTy, tyNames, tyN, tyNs, anyN, O.toD, eqOk, D.plain, D.depth, D.eqv, D.flat, E.place, E.quiet, E.quiet.go, E.quietO, stEs, stE, asgT, cxK_own, cxK_cel, cxK_call, cxK_make, bindT.go, Tg.slots, Tg.slots.go, wipe, putBack, dOnly, ixN, bls_map, pures_map', pures_mapf, toDs_mapf, toDs_map', ints_map, E.keeps, isN, isL, modR, modPath, appAt, f0, f1, g1, g2, v1]
      refine ⟨fun h2 => ?_, fun h2 => ?_⟩
      · obtain ⟨i2, s6, y1, y2, y3⟩ := w_take v3 (by omega) (a := 3) (by decide) (by decide) (m := k + 4) (by omega)
        simp at y1
        have g3 := set_natO (l := zs) (j := x) (x := zs.sum + i2) (by omega)
        have z1 := set_sum_pos (l := zs) (j := x) (x := zs.sum + i2) (by omega) (by omega)
        have z2 : (zs.set x (zs.sum + i2)).length = a1 + 1 := by simpa using w3
        have z3 : (zs.set x (zs.sum + i2)).sum ≤ 2 ^ 10 := by
          have := NL_sum (NL_set (j := x) (x := zs.sum + i2) (B := 50) (fun n hn => Nat.le_trans (w1 n hn) (by decide)) (by omega))
          rw [z2] at this
          have : (a1 + 1) * 50 ≤ 4 * 50 := Nat.mul_le_mul_right _ (by omega)
          omega
        generalize hus : zs.set x (zs.sum + i2) = us at *
        push_cast at g3
        simp [-List.map_set, start, O.isD, O.flat, isInst, isTy, tyNames, tyN, tyNs, anyN, O.toD, eqOk, D.plain, D.depth, D.eqv, D.flat, E.place, E.quiet, E.quiet.go, E.quietO, stEs, stE, asgT, cxK_own, cxK_cel, cxK_call, cxK_make, bindT.go, Tg.slots, Tg.slots.go, wipe, putBack, dOnly, ixN, bls_map, pures_map', pures_mapf, toDs_mapf, toDs_map', ints_map, E.keeps, isN, isL, modR, modPath, appAt, y1, sum_cast, g3, ints_nat, q5]
        have := hK us s6 z2 z1 z3 (Dr_mono y3 (by omega))
        simpa [pD] using this
      · rw [sum_cast]
        refine ⟨q5, ?_⟩
        have := hK zs s5 w3 w2 (by omega) (Dr_mono v3 (by omega))
        simpa [pD] using this
    simp [start, O.isD, O.flat, isInst, isTy, tyNames, tyN, tyNs, anyN, O.toD, eqOk, D.plain, D.depth, D.eqv, D.flat, E.place, E.quiet, E.quiet.go, E.quietO, stEs, stE, asgT, cxK_own, cxK_cel, cxK_call, cxK_make, bindT.go, Tg.slots, Tg.slots.go, wipe, putBack, dOnly, ixN, bls_map, pures_map', pures_mapf, toDs_mapf, toDs_map', ints_map, E.keeps, isN, isL, modR, modPath, appAt]
    refine run_nums (List.range (a1 + 1)) (fun j => .int (j : Nat)) 9 1 (n + 2 + done.length * 12) ?_
    simp [-w_exs1, start, O.isD, O.flat, isInst, isTy, tyNames, tyN, tyNs, anyN, O.toD, eqOk, D.plain, D.depth, D.eqv, D.flat, E.place, E.quiet, E.quiet.go, E.quietO, stEs, stE, asgT, cxK_own, cxK_cel, cxK_call, cxK_make, bindT.go, Tg.slots, Tg.slots.go, wipe, putBack, dOnly, ixN, bls_map, pures_map', pures_mapf, toDs_mapf, toDs_map', ints_map, E.keeps, isN, isL, modR, modPath, appAt, hr, q4]
    refine ⟨q3, fun spot hs n' s4 hn' h4 => ?_, fun ys s4 hy1 hy2 h4 => ?_⟩
    · obtain ⟨y, s5, y1, y2, y3⟩ := w_pickN h4 (by omega) (l := [0, 0, 1, 2, 3, 9]) (by decide) (by decide) (m := k + 4) (by omega)
      have hy : y ≤ 9 := by simp at y2; omega
      simp at y1
      refine ⟨fun c1 c2 => ?_, fun c1 => ⟨⟨0, rfl, by decide⟩, Dr_mono h4 (by omega)⟩⟩
      simp [O.toDs, O.toD, y1]
      exact ⟨⟨y, rfl, hy⟩, y3⟩
    · have hl : ys.length = a1 + 1 := by simpa using hy1
      rw [w_exs1]
      simp [-w_exs1, start, O.isD, O.flat, isInst, isTy, tyNames, tyN, tyNs, anyN, O.toD, eqOk, D.plain, D.depth, D.eqv, D.flat, E.place, E.quiet, E.quiet.go, E.quietO, stEs, stE, asgT, cxK_own, cxK_cel, cxK_call, cxK_make, bindT.go, Tg.slots, Tg.slots.go, wipe, putBack, dOnly, ixN, bls_map, pures_map', pures_mapf, toDs_mapf, toDs_map', ints_map, E.keeps, isN, isL, modR, modPath, appAt]
      have f0 : ¬ (1 + (a1 : Int) = 0) := by omega
      refine ⟨fun c1 => ?_, fun c1 => ?_⟩
      · rw [w_exs1]
        simp [-w_exs1, start, O.isD, O.flat, isInst, isTy, tyNames, tyN, tyNs, anyN, O.toD, eqOk, D.plain, D.depth, D.eqv, D.flat, E.place, E.quiet, E.quiet.go, E.quietO, stEs, stE, asgT, cxK_own, cxK_cel, cxK_call, cxK_make, bindT.go, Tg.slots, Tg.slots.go, wipe, putBack, dOnly, ixN, bls_map, pures_map', pures_mapf, toDs_mapf, toDs_map', ints_map, E.keeps, isN, isL, modR, modPath, appAt]
        refine ⟨fun c2 => ?_, fun c2 => ?_⟩
        · refine run_nums (List.range (a1 + 1)) (fun j => .int (j : Nat)) 2 1 (n + 2 + done.length * 12 + (a1 + 1)) ?_
          simp [-w_exs1, start, O.isD, O.flat, isInst, isTy, tyNames, tyN, tyNs, anyN, O.toD, eqOk, D.plain, D.depth, D.eqv, D.flat, E.place, E.quiet, E.quiet.go, E.quietO, stEs, stE, asgT, cxK_own, cxK_cel, cxK_call, cxK_make, bindT.go, Tg.slots, Tg.slots.go, wipe, putBack, dOnly, ixN, bls_map, pures_map', pures_mapf, toDs_mapf, toDs_map', ints_map, E.keeps, isN, isL, modR, modPath, appAt, hr, q4]
          refine ⟨h4, fun spot hs n' s4 hn' h4 => ?_, fun ys s4 hy1 hy2 h4 => ?_⟩
          · obtain ⟨y, s5, y1, y2, y3⟩ := w_pickN h4 (by omega) (l := [0, 1, 2]) (by decide) (by decide) (m := k + 4) (by omega)
            have hy : y ≤ 2 := by simp at y2; omega
            simp at y1
            refine ⟨fun c3 => ?_, fun c3 => ⟨⟨0, rfl, by decide⟩, Dr_mono h4 (by omega)⟩⟩
            simp [O.toDs, O.toD, y1]
            exact ⟨⟨y, rfl, hy⟩, y3⟩
          · have hl : ys.length = a1 + 1 := by simpa using hy1
            refine tail ys s4 hl (fun n hn => Nat.le_trans (hy2 n hn) (by decide)) (Dr_mono h4 (by omega)) _ ?_
            rintro zs s5 z1 z2 z3 z4
            exact ⟨rows ++ [(zs.sum, zs)], _, _, _, by simp [q1], RowsUp_snoc q2 ⟨z2, z3, z1, rfl⟩, Dr_mono z4 (by simp; omega), rfl⟩
        · refine tail ys s4 hl hy2 (Dr_mono h4 (by omega)) _ ?_
          rintro zs s5 z1 z2 z3 z4
          exact ⟨rows ++ [(zs.sum, zs)], _, _, _, by simp [q1], RowsUp_snoc q2 ⟨z2, z3, z1, rfl⟩, Dr_mono z4 (by simp; omega), rfl⟩
      · refine tail ys s4 hl hy2 (Dr_mono h4 (by omega)) _ ?_
        rintro zs s5 z1 z2 z3 z4
        exact ⟨rows ++ [(zs.sum, zs)], _, _, _, by simp [q1], RowsUp_snoc q2 ⟨z2, z3, z1, rfl⟩, Dr_mono z4 (by simp; omega), rfl⟩
  · rintro s ⟨rows, x5, x6, s3, q1, q2, q3, rfl⟩
    simp at q1 q3
    simp [start, O.isD, O.flat, isInst, isTy, tyNames, tyN, tyNs, anyN, O.toD, eqOk, D.plain, D.depth, D.eqv, D.flat, E.place, E.quiet, E.quiet.go, E.quietO, stEs, stE, asgT, cxK_own, cxK_cel, cxK_call, cxK_make, bindT.go, Tg.slots, Tg.slots.go, wipe, putBack, dOnly, ixN, bls_map, pures_map', pures_mapf, toDs_mapf, toDs_map', ints_map, E.keeps, isN, isL, modR, modPath, appAt]
    exact ⟨rows, s3, ⟨rfl, rfl⟩, ⟨by omega, by rw [q1]; exact q2⟩, by omega, Dr_mono q3 (by omega)⟩
end K48
end Py
end

section
set_option linter.all false
set_option Elab.async false
/-! LG: drawn shares. -/
namespace Py
theorem gcdL_mul (g : Nat) : ∀ (ns : List Nat) (s : Nat), gcdL (g * s) (ns.map (g * ·)) = g * gcdL s ns
  | [], s => rfl
  | x :: ns, s => by
    simp only [gcdL, List.map_cons, List.foldl_cons]
    rw [Nat.gcd_mul_left]
    exact gcdL_mul g ns _
theorem gcdL_least {s : Nat} {ns : List Nat} (hs : 0 < s) : gcdL (least s ns).1 (least s ns).2 = 1 := by
  have hg := gcdL_pos (ns := ns) hs
  have hd := gcdL_dvd (ns := ns) (s := s)
  have e := gcdL_mul (gcdL s ns) (least s ns).2 (least s ns).1
  have e1 : gcdL s ns * (least s ns).1 = s := Nat.mul_div_cancel' hd.1
  have e2 : (least s ns).2.map (gcdL s ns * ·) = ns := by
    simp only [least, List.map_map]
    conv => rhs; rw [← List.map_id ns]
    exact List.map_congr_left fun n hn => Nat.mul_div_cancel' (hd.2 n hn)
  rw [e1, e2] at e
  have : gcdL s ns * 1 = gcdL s ns * gcdL (least s ns).1 (least s ns).2 := by rw [Nat.mul_one]; exact e
  exact (Nat.eq_of_mul_eq_mul_left hg this).symm
theorem share_least {s b : Nat} {ns : List Nat} (hs : 0 < s) (hb : s ≤ 2 ^ b) (hsum : ns.sum = s) : Share ns.length b (least s ns) ∧ ∀ n ∈ (least s ns).2, n ≤ (least s ns).1 := by
  have hg := gcdL_pos (ns := ns) hs
  have hd := gcdL_dvd (ns := ns) (s := s)
  have hn : ∀ n ∈ ns, n ≤ s := fun n hn => by rw [← hsum]; exact mem_le_sum hn
  refine ⟨⟨pok_least hs hb fun n h => Nat.le_trans (hn n h) hb, by simp [least], gcdL_least hs, ?_⟩, ?_⟩
  · simp only [least]
    rw [(sum_div hg hd.2).1, hsum]
  · intro n h
    simp only [least, List.mem_map] at h ⊢
    obtain ⟨m, hm, rfl⟩ := h
    exact Nat.div_le_div_right (hn m hm)
def numN (q : Rat) : Nat := q.num.toNat
theorem enc_nat {q : Rat} (h : 0 ≤ q) : enc q = .tup [.int (numN q : Nat), .int (q.den : Nat)] := by
  have := Rat.num_nonneg.mpr h
  simp only [enc, numN, Int.toNat_of_nonneg this]
theorem numN_eq {q : Rat} (h : 0 ≤ q) : (numN q : Rat) = q * (q.den : Rat) := by
  have h1 := Rat.num_nonneg.mpr h
  rw [← num_eq]
  have : ((numN q : Nat) : Int) = q.num := Int.toNat_of_nonneg h1
  exact_mod_cast congrArg (fun i : Int => (i : Rat)) this
/-- the numbers of ratios over a whole -/
def overW (W : Nat) (qs : List Rat) : List Nat := qs.map fun q => numN q * (W / q.den)
theorem overW_sum {W : Nat} (hW : 0 < W) {qs : List Rat} (h0 : ∀ q ∈ qs, 0 ≤ q) (hd : ∀ q ∈ qs, q.den ∣ W) (h1 : totalR qs = 1) : (overW W qs).sum = W := by
  have e := tot_scale (g := fun q : Rat => q) (f := fun q => numN q * (W / q.den)) (c := (W : Rat)) qs fun q hq => by
    obtain ⟨c, hc⟩ := hd q hq
    have hp : 0 < q.den := q.den_pos
    have : W / q.den = c := by rw [hc]; exact Nat.mul_div_cancel_left _ hp
    rw [this]
    push_cast
    rw [numN_eq (h0 q hq), hc]
    push_cast
    grind
  rw [List.map_id', h1, Rat.one_mul] at e
  have : ((W : Nat) : Rat) = (((overW W qs).sum : Nat) : Rat) := e
  have h2 : W = (overW W qs).sum := by exact_mod_cast this
  exact h2.symm
namespace K48
variable {sto : List O}
theorem w_pair_of {qs : List Rat} {d : D} (hds : seqOf d = some (qs.map enc)) (h0 : ∀ q ∈ qs, 0 ≤ q) (hden : ∀ q ∈ qs, q.den ≤ 2 ^ 10) (hnum : ∀ q ∈ qs, numN q ≤ 2 ^ 10) (hl : qs.length ≤ 4) (h1 : totalR qs = 1) {m : Nat} (hm : 2 ≤ m) :
    ∃ p, callD loop prog m 58 [d] sto = some (.d (pD p), sto) ∧ Share qs.length 40 p ∧ ∀ n ∈ p.2, n ≤ p.1 := by
  obtain ⟨k, rfl⟩ : ∃ k, m = k + 2 := ⟨m - 2, by omega⟩
  have hn : noCell (.d d) = true := by cases d <;> first | rfl | cases hds
  have s1 := lcmL_spec (qs.map (·.den)) [] 1 (by decide) (by intro n hn; obtain ⟨q, _, rfl⟩ := List.mem_map.mp hn; exact q.den_pos) (by simp)
  have s2 := lcmL_le (qs.map (·.den)) 1 (by intro n hn; obtain ⟨q, hq, rfl⟩ := List.mem_map.mp hn; exact hden q hq)
  have hW0 : 0 < lcmL (qs.map (·.den)) := s1.1
  have hWd : ∀ q ∈ qs, q.den ∣ lcmL (qs.map (·.den)) := fun q hq => s1.2 _ (by simp; exact ⟨q, hq, rfl⟩)
  have hWb : lcmL (qs.map (·.den)) ≤ 2 ^ 40 := by
    refine Nat.le_trans s2 ?_
    rw [Nat.one_mul, List.length_map]
    exact le_two_pow (by omega)
  have hsum := overW_sum hW0 h0 hWd h1
  have hsh := share_least hW0 hWb hsum
  have hlen : (overW (lcmL (qs.map (·.den))) qs).length = qs.length := by simp [overW]
  rw [hlen] at hsh
  refine ⟨_, ?_, hsh⟩
  generalize hWe : lcmL (qs.map (·.den)) = W at *
  have hone : ∀ q ∈ qs, numN q * (W / q.den) ≤ 2 ^ 40 := fun q hq => by
    have := mem_le_sum (l := overW W qs) (n := numN q * (W / q.den)) (List.mem_map.mpr ⟨q, hq, rfl⟩)
    rw [hsum] at this
    exact Nat.le_trans this hWb
  have hgp := gcdL_pos (ns := overW W qs) hW0
  have hgl := gcdL_le (ns := overW W qs) hW0
  have q4 : lenOk qs.length = true := lenOk_of (by omega)
  have hdg : divOk (gcdL W (overW W qs) : Int) = true := sm_div (by omega) (sm_of (Nat.le_trans hgl hWb) (by decide))
  refine ends_eq (run_def (d := d_law_pair_of) rfl rfl ?_)
  simp [d_law_pair_of, start, O.isD, O.flat, isInst, isTy, tyNames, tyN, tyNs, anyN, O.toD, eqOk, D.plain, D.depth, D.eqv, D.flat, E.place, E.quiet, E.quiet.go, E.quietO, stEs, stE, asgT, cxK_own, cxK_cel, cxK_call, cxK_make, bindT.go, Tg.slots, Tg.slots.go, wipe, putBack, dOnly, ixN, bls_map, pures_map', pures_mapf, toDs_mapf, toDs_map', ints_map, E.keeps, isN, isL, modR, modPath, appAt]
  refine run_for qs enc (fun done s => ∃ x2 x3 x4 x5, s = ⟨[some (.d d), some (.d (.int (lcmL (done.map (·.den)) : Nat))), x2, x3, x4, x5], sto⟩) ?_ ?_ ?_
  · simp [start, O.isD, O.flat, isInst, isTy, tyNames, tyN, tyNs, anyN, O.toD, eqOk, D.plain, D.depth, D.eqv, D.flat, E.place, E.quiet, E.quiet.go, E.quietO, stEs, stE, asgT, cxK_own, cxK_cel, cxK_call, cxK_make, bindT.go, Tg.slots, Tg.slots.go, wipe, putBack, dOnly, ixN, bls_map, pures_map', pures_mapf, toDs_mapf, toDs_map', ints_map, E.keeps, isN, isL, modR, modPath, appAt, hn, hds, lcmL]
  · rintro done x rest e s ⟨x2, x3, x4, x5, rfl⟩
    have hx : x ∈ qs := by rw [e]; simp
    have b1 := lcmL_spec (done.map (·.den)) [] 1 (by decide) (by intro n hn; obtain ⟨q, _, rfl⟩ := List.mem_map.mp hn; exact q.den_pos) (by simp)
    have b2 := lcmL_le (done.map (·.den)) 1 (by intro n hn; obtain ⟨q, hq, rfl⟩ := List.mem_map.mp hn; exact hden q (by rw [e]; simp [hq]))
    have hdl : done.length ≤ 4 := by rw [e] at hl; simp at hl; omega
    have b3 : lcmL (done.map (·.den)) ≤ 2 ^ 40 := by
      refine Nat.le_trans b2 ?_
      rw [Nat.one_mul, List.length_map]
      exact le_two_pow (by omega)
    have hg := Nat.gcd_pos_of_pos_right (lcmL (done.map (·.den))) x.den_pos
    have hg2 : Nat.gcd (lcmL (done.map (·.den))) x.den ≤ x.den := Nat.gcd_le_right _ x.den_pos
    have g1 : divOk (Nat.gcd (lcmL (done.map (·.den))) x.den : Int) = true := sm_div (by omega) (sm_of (b := 10) (Nat.le_trans hg2 (hden x hx)) (by decide))
    have g2 : mulOk ((lcmL (done.map (·.den)) : Int) / (Nat.gcd (lcmL (done.map (·.den))) x.den : Nat)) (x.den : Nat) = true := by
      simpa using sm_mul (i := (lcmL (done.map (·.den)) / Nat.gcd (lcmL (done.map (·.den))) x.den : Nat)) (j := (x.den : Nat)) (sm_of (b := 40) (Nat.le_trans (Nat.div_le_self _ _) b3) (by decide)) (sm_of (hden x hx) (by decide))
    have hap : lcmL (done.map (·.den) ++ [x.den]) = lcmL (done.map (·.den)) / Nat.gcd (lcmL (done.map (·.den))) x.den * x.den := by simp [lcmL]
    simp [start, O.isD, O.flat, isInst, isTy, tyNames, tyN, tyNs, anyN, O.toD, eqOk, D.plain, D.depth, D.eqv, D.flat, E.place, E.quiet, E.quiet.go, E.quietO, stEs, stE, asgT, cxK_own, cxK_cel, cxK_call, cxK_make, bindT.go, Tg.slots, Tg.slots.go, wipe, putBack, dOnly, ixN, bls_map, pures_map', pures_mapf, toDs_mapf, toDs_map', ints_map, E.keeps, isN, isL, modR, modPath, appAt, w_common, g1, nat_fdiv, g2, hap]
  · rintro s ⟨x2, x3, x4, x5, rfl⟩
    rw [hWe]
    simp [start, O.isD, O.flat, isInst, isTy, tyNames, tyN, tyNs, anyN, O.toD, eqOk, D.plain, D.depth, D.eqv, D.flat, E.place, E.quiet, E.quiet.go, E.quietO, stEs, stE, asgT, cxK_own, cxK_cel, cxK_call, cxK_make, bindT.go, Tg.slots, Tg.slots.go, wipe, putBack, dOnly, ixN, bls_map, pures_map', pures_mapf, toDs_mapf, toDs_map', ints_map, E.keeps, isN, isL, modR, modPath, appAt]
    refine run_map qs enc (fun q => .int (numN q * (W / q.den) : Nat)) ?_
    simp [start, O.isD, O.flat, isInst, isTy, tyNames, tyN, tyNs, anyN, O.toD, eqOk, D.plain, D.depth, D.eqv, D.flat, E.place, E.quiet, E.quiet.go, E.quietO, stEs, stE, asgT, cxK_own, cxK_cel, cxK_call, cxK_make, bindT.go, Tg.slots, Tg.slots.go, wipe, putBack, dOnly, ixN, bls_map, pures_map', pures_mapf, toDs_mapf, toDs_map', ints_map, E.keeps, isN, isL, modR, modPath, appAt, hn, hds, q4]
    refine ⟨fun q hq => ?_, ?_⟩
    · have g1 : divOk (q.den : Int) = true := sm_div (by have := q.den_pos; omega) (sm_of (hden q hq) (by decide))
      have hp : 0 < q.den := q.den_pos
      have hnn : q.num = (numN q : Nat) := (Int.toNat_of_nonneg (Rat.num_nonneg.mpr (h0 q hq))).symm
      have g2 : mulOk (numN q : Int) ((W : Int) / (q.den : Int)) = true := by
        simpa using sm_mul (sm_of (n := numN q) (hnum q hq) (by decide)) (sm_of (n := W / q.den) (Nat.le_trans (Nat.div_le_self _ _) hWb) (by decide))
      simp [start, O.isD, O.flat, isInst, isTy, tyNames, tyN, tyNs, anyN, O.toD, eqOk, D.plain, D.depth, D.eqv, D.flat, E.place, E.quiet, E.quiet.go, E.quietO, stEs, stE, asgT, cxK_own, cxK_cel, cxK_call, cxK_make, bindT.go, Tg.slots, Tg.slots.go, wipe, putBack, dOnly, ixN, bls_map, pures_map', pures_mapf, toDs_mapf, toDs_map', ints_map, E.keeps, isN, isL, modR, modPath, appAt, g1, nat_fdiv, hnn, g2]
    · refine run_for (overW W qs) (fun n => .int (n : Nat)) (fun done s => ∃ x2 x5, s = ⟨[some (.d d), some (.d (.int (W : Nat))), x2, some (.d (.lst ((overW W qs).map fun n => .int (n : Nat)))), some (.d (.int (gcdL W done : Nat))), x5], sto⟩) ?_ ?_ ?_
      · simp [start, O.isD, O.flat, isInst, isTy, tyNames, tyN, tyNs, anyN, O.toD, eqOk, D.plain, D.depth, D.eqv, D.flat, E.place, E.quiet, E.quiet.go, E.quietO, stEs, stE, asgT, cxK_own, cxK_cel, cxK_call, cxK_make, bindT.go, Tg.slots, Tg.slots.go, wipe, putBack, dOnly, ixN, bls_map, pures_map', pures_mapf, toDs_mapf, toDs_map', ints_map, E.keeps, isN, isL, modR, modPath, appAt, overW, gcdL, Function.comp_def]
      · rintro done x rest e s ⟨x2, x5, rfl⟩
        simp [start, O.isD, O.flat, isInst, isTy, tyNames, tyN, tyNs, anyN, O.toD, eqOk, D.plain, D.depth, D.eqv, D.flat, E.place, E.quiet, E.quiet.go, E.quietO, stEs, stE, asgT, cxK_own, cxK_cel, cxK_call, cxK_make, bindT.go, Tg.slots, Tg.slots.go, wipe, putBack, dOnly, ixN, bls_map, pures_map', pures_mapf, toDs_mapf, toDs_map', ints_map, E.keeps, isN, isL, modR, modPath, appAt, w_common, gcdL]
      · rintro s ⟨x2, x5, rfl⟩
        simp [start, O.isD, O.flat, isInst, isTy, tyNames, tyN, tyNs, anyN, O.toD, eqOk, D.plain, D.depth, D.eqv, D.flat, E.place, E.quiet, E.quiet.go, E.quietO, stEs, stE, asgT, cxK_own, cxK_cel, cxK_call, cxK_make, bindT.go, Tg.slots, Tg.slots.go, wipe, putBack, dOnly, ixN, bls_map, pures_map', pures_mapf, toDs_mapf, toDs_map', ints_map, E.keeps, isN, isL, modR, modPath, appAt, hdg]
        refine run_map (overW W qs) (fun n => .int (n : Nat)) (fun n => .int (n / gcdL W (overW W qs) : Nat)) ?_
        simp [start, O.isD, O.flat, isInst, isTy, tyNames, tyN, tyNs, anyN, O.toD, eqOk, D.plain, D.depth, D.eqv, D.flat, E.place, E.quiet, E.quiet.go, E.quietO, stEs, stE, asgT, cxK_own, cxK_cel, cxK_call, cxK_make, bindT.go, Tg.slots, Tg.slots.go, wipe, putBack, dOnly, ixN, bls_map, pures_map', pures_mapf, toDs_mapf, toDs_map', ints_map, E.keeps, isN, isL, modR, modPath, appAt, hdg, nat_fdiv, hlen, q4]
        simp [pD, least]
end K48
end Py
end

section
set_option linter.all false
set_option Elab.async false
/-! LH: drawn shares. -/
namespace Py
theorem frac_den {n s : Nat} (hs : 0 < s) (h : n ≤ s) : 0 ≤ mkRat (n : Int) s ∧ (mkRat (n : Int) s).den ≤ s ∧ numN (mkRat (n : Int) s) ≤ s := by
  have h0 := mkRat_nonneg n s
  have h1 := mkRat_le_one hs h
  have hd : (mkRat (n : Int) s).den ∣ s := G_den (B := 1) ⟨⟨n, mkRat_frac hs⟩, by push_cast; grind, by push_cast; grind⟩
  have hle := Nat.le_of_dvd hs hd
  refine ⟨h0, hle, Nat.le_trans ?_ hle⟩
  have e := numN_eq h0
  have h2 : (0 : Rat) ≤ ((mkRat (n : Int) s).den : Rat) := by exact_mod_cast Nat.zero_le _
  have h3 := Rat.mul_le_mul_of_nonneg_right h1 h2
  rw [← e, Rat.one_mul] at h3
  exact_mod_cast h3
namespace K48
theorem w_drawn_share {n many : Nat} {sto : List O} (h : Dr n sto) (hn : n ≤ 10 ^ 7) (h0 : 0 < many) (h4 : many ≤ 4) {m : Nat} (hm : 6 ≤ m) :
    ∃ (p : Nat × List Nat) (sto' : List O), callD loop prog m 60 [.cell 0, .int (many : Nat)] sto = some (.d (pD p), sto') ∧ Share many 40 p ∧ (∀ n ∈ p.2, n ≤ p.1) ∧ Dr (n + 20) sto' := by
  obtain ⟨k, rfl⟩ : ∃ k, m = k + 6 := ⟨m - 6, by omega⟩
  suffices hE : Ends (callD loop prog (k + 6) 60 [.cell 0, .int (many : Nat)] sto) fun b => ∃ (p : Nat × List Nat) (sto' : List O), b = (.d (pD p), sto') ∧ Share many 40 p ∧ (∀ n ∈ p.2, n ≤ p.1) ∧ Dr (n + 20) sto' by
    obtain ⟨b, e, rows, sto', rfl, h1, h2, h3⟩ := hE
    exact ⟨rows, sto', e, h1, h2, h3⟩
  have hr : itk .range [.int (many : Nat)] = some ((List.range many).map fun (j : Nat) => .int (j : Int)) := q_range (by omega)
  have q4 : lenOk many = true := lenOk_of (by omega)
  have tail : ∀ (ys : List Nat) (s4 : List O) , ys.length = many → NL 3 ys → 0 < ys.sum → Dr (n + 20) s4 → ∀ K : Out × St → Prop, (∀ (p : Nat × List Nat) (st : St), Share many 40 p → (∀ n ∈ p.2, n ≤ p.1) → Dr (n + 20) st.sto → K (.ret (.d (pD p)), st)) →
      Ends (exs (cxK loop prog (k + 5) [2] []) [.ret (.call 58 [.lc (.nm 4) none [.var 2] [] (.call 48 [.var 4, .bi .sum [.var 2]])])] ⟨[some (.d (.cell 0)), some (.d (.int (many : Nat))), some (.lst (ys.map fun z => .d (.int (z : Nat)))), none, none], s4⟩) K := by
    intro ys s4 hl hN hs hD K hK
    have hsum := NL_sum hN
    have hs2 : ys.sum ≤ 12 := by
      have : ys.length * 3 ≤ 4 * 3 := Nat.mul_le_mul_right _ (by omega)
      omega
    have hle : ∀ n ∈ ys, n ≤ ys.sum := fun n hn => mem_le_sum hn
    have hb : ys.sum < bigB := by
      have := pow_bigA (b := 10) (by decide)
      have := bigAB
      omega
    have hone : totalR (ys.map fun n : Nat => mkRat (n : Int) ys.sum) = 1 := val_one (p := (ys.sum, ys)) hs rfl
    obtain ⟨p, e1, e2, e3⟩ := w_pair_of (sto := s4) (qs := ys.map fun n : Nat => mkRat (n : Int) ys.sum) (d := .lst ((ys.map fun n : Nat => mkRat (n : Int) ys.sum).map enc)) rfl
      (by intro q hq; obtain ⟨n, hn, rfl⟩ := List.mem_map.mp hq; exact (frac_den hs (hle n hn)).1)
      (by intro q hq; obtain ⟨n, hn, rfl⟩ := List.mem_map.mp hq; exact Nat.le_trans (frac_den hs (hle n hn)).2.1 (by omega))
      (by intro q hq; obtain ⟨n, hn, rfl⟩ := List.mem_map.mp hq; exact Nat.le_trans (frac_den hs (hle n hn)).2.2 (by omega))
      (by simp; omega) hone (m := k + 5) (by omega)
    simp [hl] at e2
    have q5 : lenOk ys.length = true := lenOk_of (by omega)
    simp [start, O.isD, O.flat, isInst, isTy, tyNames, tyN, tyNs, anyN, O.toD, eqOk, D.plain, D.depth, D.eqv, D.flat, E.place, E.quiet, E.quiet.go, E.quietO, stEs, stE, asgT, cxK_own, cxK_cel, cxK_call, cxK_make, bindT.go, Tg.slots, Tg.slots.go, wipe, putBack, dOnly, ixN, bls_map, pures_map', pures_mapf, toDs_mapf, toDs_map', ints_map, E.keeps, isN, isL, modR, modPath, appAt]
    refine run_map ys (fun n => .int (n : Nat)) (fun n => enc (mkRat (n : Int) ys.sum)) ?_
    simp [start, O.isD, O.flat, isInst, isTy, tyNames, tyN, tyNs, anyN, O.toD, eqOk, D.plain, D.depth, D.eqv, D.flat, E.place, E.quiet, E.quiet.go, E.quietO, stEs, stE, asgT, cxK_own, cxK_cel, cxK_call, cxK_make, bindT.go, Tg.slots, Tg.slots.go, wipe, putBack, dOnly, ixN, bls_map, pures_map', pures_mapf, toDs_mapf, toDs_map', ints_map, E.keeps, isN, isL, modR, modPath, appAt, q5, ints_nat, sum_cast]
    refine ⟨fun y hy => ?_, ?_⟩
    · have := w_ratio (sto := s4) (m := k + 5) (a := (y : Int)) (b := (ys.sum : Nat)) (by omega) (by simpa using hb) (by omega)
      simp at this
      simp [this, start, O.isD, O.flat, isInst, isTy, tyNames, tyN, tyNs, anyN, O.toD, eqOk, D.plain, D.depth, D.eqv, D.flat, E.place, E.quiet, E.quiet.go, E.quietO, stEs, stE, asgT, cxK_own, cxK_cel, cxK_call, cxK_make, bindT.go, Tg.slots, Tg.slots.go, wipe, putBack, dOnly, ixN, bls_map, pures_map', pures_mapf, toDs_mapf, toDs_map', ints_map, E.keeps, isN, isL, modR, modPath, appAt]
    · simp [Function.comp_def] at e1
      simp [e1]
      exact hK p _ e2 e3 hD
  refine run_def (d := d_law_drawn_share) rfl rfl ?_
  simp [-w_exs1, d_law_drawn_share, start, O.isD, O.flat, isInst, isTy, tyNames, tyN, tyNs, anyN, O.toD, eqOk, D.plain, D.depth, D.eqv, D.flat, E.place, E.quiet, E.quiet.go, E.quietO, stEs, stE, asgT, cxK_own, cxK_cel, cxK_call, cxK_make, bindT.go, Tg.slots, Tg.slots.go, wipe, putBack, dOnly, ixN, bls_map, pures_map', pures_mapf, toDs_mapf, toDs_map', ints_map, E.keeps, isN, isL, modR, modPath, appAt]
  rw [w_exs1]
  simp [-w_exs1, start, O.isD, O.flat, isInst, isTy, tyNames, tyN, tyNs, anyN, O.toD, eqOk, D.plain, D.depth, D.eqv, D.flat, E.place, E.quiet, E.quiet.go, E.quietO, stEs, stE, asgT, cxK_own, cxK_cel, cxK_call, cxK_make, bindT.go, Tg.slots, Tg.slots.go, wipe, putBack, dOnly, ixN, bls_map, pures_map', pures_mapf, toDs_mapf, toDs_map', ints_map, E.keeps, isN, isL, modR, modPath, appAt]
  refine run_nums (List.range many) (fun j => .int (j : Nat)) 3 2 n ?_
  simp [-w_exs1, start, O.isD, O.flat, isInst, isTy, tyNames, tyN, tyNs, anyN, O.toD, eqOk, D.plain, D.depth, D.eqv, D.flat, E.place, E.quiet, E.quiet.go, E.quietO, stEs, stE, asgT, cxK_own, cxK_cel, cxK_call, cxK_make, bindT.go, Tg.slots, Tg.slots.go, wipe, putBack, dOnly, ixN, bls_map, pures_map', pures_mapf, toDs_mapf, toDs_map', ints_map, E.keeps, isN, isL, modR, modPath, appAt, hr, q4]
  refine ⟨h, fun spot hs n' s4 hn' h5 => ?_, fun ys s4 hy1 hy2 h5 => ?_⟩
  · obtain ⟨i, s6, t1, t2, t3⟩ := w_take h5 (by omega) (a := 4) (by decide) (by decide) (m := k + 5) (by omega)
    obtain ⟨y, s5, y1, y2, y3⟩ := w_pickN t3 (by omega) (l := [0, 1, 1, 2, 3]) (by decide) (by decide) (m := k + 5) (by omega)
    have hy : y ≤ 3 := by simp at y2; omega
    simp at y1 t1
    simp [start, O.isD, O.flat, isInst, isTy, tyNames, tyN, tyNs, anyN, O.toD, eqOk, D.plain, D.depth, D.eqv, D.flat, E.place, E.quiet, E.quiet.go, E.quietO, stEs, stE, asgT, cxK_own, cxK_cel, cxK_call, cxK_make, bindT.go, Tg.slots, Tg.slots.go, wipe, putBack, dOnly, ixN, bls_map, pures_map', pures_mapf, toDs_mapf, toDs_map', ints_map, E.keeps, isN, isL, modR, modPath, appAt, t1]
    refine ⟨fun c1 => ?_, fun c1 => ⟨⟨0, rfl, by decide⟩, Dr_mono t3 (by omega)⟩⟩
    simp [O.toDs, O.toD, y1]
    exact ⟨⟨y, rfl, hy⟩, y3⟩
  · rw [w_exs1]
    simp [-w_exs1, start, O.isD, O.flat, isInst, isTy, tyNames, tyN, tyNs, anyN, O.toD, eqOk, D.plain, D.depth, D.eqv, D.flat, E.place, E.quiet, E.quiet.go, E.quietO, stEs, stE, asgT, cxK_own, cxK_cel, cxK_call, cxK_make, bindT.go, Tg.slots, Tg.slots.go, wipe, putBack, dOnly, ixN, bls_map, pures_map', pures_mapf, toDs_mapf, toDs_map', ints_map, E.keeps, isN, isL, modR, modPath, appAt, ints_nat, sum_cast]
    refine ⟨fun c1 => ?_, fun c1 => ?_⟩
    · obtain ⟨i, s6, t1, t2, t3⟩ := w_take h5 (by omega) (a := many) h0 (by omega) (m := k + 5) (by omega)
      have set1 : setAt (.int (i : Nat)) (.d (.int 1)) (.lst (ys.map fun n => .d (.int (n : Nat)))) = some (.lst ((ys.set i 1).map fun n => .d (.int (n : Nat))), ()) := by simpa [-List.map_set] using set_natO (l := ys) (j := i) (x := 1) (by omega)
      rw [w_exs1]
      simp [-List.map_set, -w_exs1, start, O.isD, O.flat, isInst, isTy, tyNames, tyN, tyNs, anyN, O.toD, eqOk, D.plain, D.depth, D.eqv, D.flat, E.place, E.quiet, E.quiet.go, E.quietO, stEs, stE, asgT, cxK_own, cxK_cel, cxK_call, cxK_make, bindT.go, Tg.slots, Tg.slots.go, wipe, putBack, dOnly, ixN, bls_map, pures_map', pures_mapf, toDs_mapf, toDs_map', ints_map, E.keeps, isN, isL, modR, modPath, appAt, t1, set1]
      refine tail (ys.set i 1) s6 (by simpa using hy1) (NL_set hy2 (by decide)) (sum_pos_of (by omega)) (Dr_mono t3 (by omega)) _ ?_
      intro p st g1 g2 g3
      exact ⟨p, _, rfl, g1, g2, g3⟩
    · refine tail ys s4 hy1 hy2 (by omega) (Dr_mono h5 (by omega)) _ ?_
      intro p st g1 g2 g3
      exact ⟨p, _, rfl, g1, g2, g3⟩
end K48
end Py
end

section
set_option linter.all false
set_option Elab.async false
/-! LI: values near to a timetable. -/
namespace Py
def IT (N : Nat) (x : D) : Prop := okD x = true ∧ ∀ q, x = enc q → G N 4 q
def RT (N : Nat) (d : D) : Prop := okD d = true ∧ ∀ s, d = rowD s → GL N 4 s
def TT (N : Nat) (d : D) : Prop := okD d = true ∧ ∀ xs, seqOf d = some xs → ∀ x ∈ xs, RT N x
theorem IT_enc {N : Nat} {q : Rat} (h : G N 4 q) : IT N (enc q) := ⟨okD_enc, fun p e => by rw [← enc_inj e]; exact h⟩
theorem IT_no {N : Nat} {x : D} (h : okD x = true) (h2 : isRat x = false) : IT N x := ⟨h, fun q e => by rw [e, enc_isRat] at h2; cases h2⟩
theorem RT_tup {N : Nat} {l : List D} (hl : l.length ≤ 1000) (h : ∀ x ∈ l, IT N x) : RT N (.tup l) := by
  refine ⟨?_, ?_⟩
  · simp only [okD, Bool.and_eq_true]
    exact ⟨lenOk_of (by omega), okDs_of fun x hx => (h x hx).1⟩
  · intro s e q hq
    simp only [rowD, D.tup.injEq] at e
    exact (h (enc q) (by rw [e]; exact List.mem_map_of_mem hq)).2 q rfl
theorem RT_no {N : Nat} {x : D} (h : okD x = true) (h2 : isTup x = false) : RT N x := ⟨h, fun q e => by rw [e] at h2; cases h2⟩
theorem TT_seq {N : Nat} {d : D} {l : List D} (hd : d = .lst l ∨ d = .tup l) (hl : l.length ≤ 1000) (h : ∀ x ∈ l, RT N x) : TT N d := by
  have h1 : okDs l = true := okDs_of fun x hx => (h x hx).1
  have h2 : lenOk l.length = true := lenOk_of (by omega)
  rcases hd with rfl | rfl
  · refine ⟨by simp [okD, h1, h2], fun xs e => ?_⟩
    simp only [q_seq1, Option.some.injEq] at e
    rw [← e]; exact h
  · refine ⟨by simp [okD, h1, h2], fun xs e => ?_⟩
    simp only [q_seq2, Option.some.injEq] at e
    rw [← e]; exact h
theorem TT_no {N : Nat} {d : D} (h : okD d = true) (h2 : seqOf d = none) : TT N d := ⟨h, fun xs e => by rw [h2] at e; cases e⟩
theorem cut_mem {α : Type} {xs : List α} {lo hi : Option Int} {x : α} (h : x ∈ cut xs lo hi) : x ∈ xs := List.mem_of_mem_drop (List.mem_of_mem_take h)
theorem cut_len {α : Type} (xs : List α) (lo hi : Option Int) : (cut xs lo hi).length ≤ xs.length := by
  simp only [cut, List.length_take, List.length_drop]
  omega
theorem G_small {N : Nat} {q : Rat} (h : q.num.natAbs ≤ 2) (hd : q.den ∣ N) : G N 4 q := by
  have e := num_eq q
  have h1 : (1 : Rat) ≤ (q.den : Rat) := by exact_mod_cast q.den_pos
  obtain ⟨c, hc⟩ := hd
  have hn1 : (q.num : Rat) ≤ 2 := by
    have : q.num ≤ 2 := by omega
    exact_mod_cast this
  have hn2 : (-2 : Rat) ≤ (q.num : Rat) := by
    have : (-2 : Int) ≤ q.num := by omega
    have h5 : (((-2 : Int) : Int) : Rat) ≤ (q.num : Rat) := Rat.intCast_le_intCast.mpr this
    have h6 : ((-2 : Int) : Rat) = -2 := by decide +kernel
    rw [h6] at h5
    exact h5
  refine ⟨⟨q.num * c, ?_⟩, ?_, ?_⟩
  · rw [hc]; push_cast; rw [e]; grind
  · by_cases h0 : 0 ≤ q
    · push_cast; grind
    · have h2 : 0 ≤ -q := by grind
      have := Rat.mul_le_mul_of_nonneg_left h1 h2
      push_cast; grind
  · by_cases h0 : 0 ≤ q
    · have := Rat.mul_le_mul_of_nonneg_left h1 h0
      push_cast; grind
    · push_cast; grind
theorem IT_odd {N : Nat} (hN : 2 ∣ N) {x : D} (h : x ∈ [D.non, .int 0, .tup [.int 0, .int 2], .tup [.int (-1), .int 2], .tup [.bl true, .int 1], .str [48], .tup [.int 1, .int 0], .lst [.int 0, .int 1]]) : IT N x := by
  have key : ∀ a b : Int, a.natAbs ≤ 2 → (b = 0 ∨ b = 2) → IT N (.tup [.int a, .int b]) := by
    intro a b ha hb
    refine ⟨by simp [okD, okDs], fun q e => ?_⟩
    simp only [enc, D.tup.injEq, List.cons.injEq, D.int.injEq, and_true] at e
    obtain ⟨rfl, rfl⟩ := e
    have := q.den_pos
    refine G_small ha ?_
    have : q.den = 2 := by omega
    rw [this]; exact hN
  simp only [List.mem_cons, List.not_mem_nil, or_false] at h
  rcases h with rfl | rfl | rfl | rfl | rfl | rfl | rfl | rfl
  · exact IT_no rfl rfl
  · exact IT_no (by simp) rfl
  · exact key _ _ (by decide) (.inr rfl)
  · exact key _ _ (by decide) (.inr rfl)
  · exact IT_no (by simp [okD, okDs]) rfl
  · exact IT_no (by simp) rfl
  · exact key _ _ (by decide) (.inl rfl)
  · exact IT_no (by simp [okD, okDs]) rfl
theorem add_lst {a b : List D} (h : a.length + b.length ≤ 1000000) : bop .add (.lst a) (.lst b) = some (.lst ((a ++ b).map .d)) := by
  rw [show bop .add (D.lst a) (.lst b) = if lenOk (a.length + b.length) then some (.lst ((a ++ b).map .d)) else none from rfl, lenOk_of h]
  rfl
theorem add_tup {a b : List D} (h : a.length + b.length ≤ 1000000) : bop .add (.tup a) (.tup b) = some (.d (.tup (a ++ b))) := by
  rw [show bop .add (D.tup a) (.tup b) = if lenOk (a.length + b.length) then some (.d (.tup (a ++ b))) else none from rfl, lenOk_of h]
  rfl
theorem toDs_app : ∀ a b : List O, O.toDs (a ++ b) = O.toDs a ++ O.toDs b
  | [], b => rfl
  | x :: a, b => by rw [List.cons_append, O.toDs, O.toDs, toDs_app a b]; rfl
theorem pures_app : ∀ (a b : List D), O.pures (a.map .d ++ b.map .d) = some (a ++ b) := fun a b => by
  rw [← List.map_append, pures_map']
theorem pures_app1 (a : List D) (y : D) : O.pures (a.map .d ++ [.d y]) = some (a ++ [y]) := pures_app a [y]
theorem pures_app2 (a : List D) (y z : D) : O.pures (a.map .d ++ [.d y, .d z]) = some (a ++ [y, z]) := pures_app a [y, z]
theorem toDs_mid (a b : List D) : O.toDs (a.map .d ++ b.map .d) = a ++ b := by rw [← List.map_append, toDs_map']
theorem TT_mid {N : Nat} {a b : List D} {x : D} (ha : a.length ≤ 41) (hb : b.length ≤ 41) (h1 : ∀ z ∈ a, RT N z) (h2 : ∀ z ∈ b, RT N z) (hx : RT N x) : TT N (.lst (a ++ x :: b)) := by
  refine TT_seq (.inl rfl) (by simp; omega) fun z hz => ?_
  rcases List.mem_append.mp hz with hz | hz
  · exact h1 z hz
  · rcases List.mem_cons.mp hz with rfl | hz
    · exact hx
    · exact h2 z hz
theorem TT_mid2 {N : Nat} {a b : List D} {x y : D} (ha : a.length ≤ 41) (hb : b.length ≤ 41) (h1 : ∀ z ∈ a, RT N z) (h2 : ∀ z ∈ b, RT N z) (hx : RT N x) (hy : RT N y) : TT N (.lst (a ++ x :: y :: b)) := by
  refine TT_seq (.inl rfl) (by simp; omega) fun z hz => ?_
  rcases List.mem_append.mp hz with hz | hz
  · exact h1 z hz
  · rcases List.mem_cons.mp hz with rfl | hz
    · exact hx
    · rcases List.mem_cons.mp hz with rfl | hz
      · exact hy
      · exact h2 z hz
theorem RT_mid {N : Nat} {a b : List D} {x : D} (ha : a.length ≤ 100) (hb : b.length ≤ 100) (h1 : ∀ z ∈ a, IT N z) (h2 : ∀ z ∈ b, IT N z) (hx : IT N x) : RT N (.tup (a ++ x :: b)) := by
  refine RT_tup (by simp; omega) fun z hz => ?_
  rcases List.mem_append.mp hz with hz | hz
  · exact h1 z hz
  · rcases List.mem_cons.mp hz with rfl | hz
    · exact hx
    · exact h2 z hz
theorem flat_rep (k : Nat) (x : D) : (List.replicate k [x]).flatten = List.replicate k x := List.flatten_replicate_singleton
theorem G_two {N M B : Nat} {q : Rat} (h : G N B q) : G (N * M) B q := G_scale h
theorem half_G : ∀ f : Rat, f ∈ [mkRat 1 2, 1, mkRat 1 3] → (∃ z : Int, f * ((18 : Nat) : Rat) = (z : Rat)) ∧ 0 ≤ f ∧ f ≤ 1 := by
  intro f hf
  simp only [List.mem_cons, List.not_mem_nil, or_false] at hf
  rcases hf with rfl | rfl | rfl
  · exact ⟨⟨9, by decide +kernel⟩, by decide +kernel, by decide +kernel⟩
  · exact ⟨⟨18, by decide +kernel⟩, by decide +kernel, by decide +kernel⟩
  · exact ⟨⟨6, by decide +kernel⟩, by decide +kernel, by decide +kernel⟩
theorem ninth_G (N : Nat) : G (N * 18) 1 (mkRat 1 9) := by
  refine ⟨⟨2 * (N : Int), ?_⟩, by decide +kernel, by decide +kernel⟩
  have h : mkRat 1 9 * 18 = 2 := by decide +kernel
  push_cast
  grind
namespace K48
theorem w_near {N n t many : Nat} {sto : List O} (h : Dr n sto) (hn : n ≤ 10 ^ 7) {T : List (List Rat)} (hT : ∀ s ∈ T, GL N 1 s ∧ s.length = many) (hl : T.length = t + 1) (ht : t ≤ 40) (h0 : 0 < many) (h8 : many ≤ 8) (hR : Room (N * 18) 8) {m : Nat} (hm : 5 ≤ m) :
    ∃ (o : O) (sto' : List O), callD loop prog m 67 [.cell 0, .lst (T.map rowD)] sto = some (o, sto') ∧ TT (N * 18) o.toD ∧ Dr (n + 10) sto' := by
  obtain ⟨k, rfl⟩ : ∃ k, m = k + 5 := ⟨m - 5, by omega⟩
  suffices hE : Ends (callD loop prog (k + 5) 67 [.cell 0, .lst (T.map rowD)] sto) fun b => TT (N * 18) b.1.toD ∧ Dr (n + 10) b.2 by
    obtain ⟨⟨o, s⟩, e, h1, h2⟩ := hE
    exact ⟨o, s, e, h1, h2⟩
  obtain ⟨at', s1, t1, t2, t3⟩ := w_take h (by omega) (a := T.length) (by omega) (by omega) (m := k + 4) (by omega)
  obtain ⟨place, s2, u1, u2, u3⟩ := w_take t3 (by omega) (a := many) h0 (by omega) (m := k + 4) (by omega)
  obtain ⟨way, s3, v1, v2, v3⟩ := w_take u3 (by omega) (a := 9) (by decide) (by decide) (m := k + 4) (by omega)
  obtain ⟨spot, s4, w1, w2, w3⟩ := w_take v3 (by omega) (a := many) h0 (by omega) (m := k + 4) (by omega)
  simp at v1
  have hN18 : 2 ∣ N * 18 := ⟨N * 9, by omega⟩
  -- the rows that stand there
  have hrow : ∀ j, j < T.length → (T[j]?.getD []) ∈ T := fun j hj => by rw [List.getElem?_eq_getElem hj]; exact List.getElem_mem hj
  have i0 : item (.d (.lst (T.map rowD))) (.int 0) = some (.d (rowD (T[0]?.getD []))) := by
    simpa using item_lst rowD T [] (j := 0) (by omega)
  have i1 := item_lst rowD T [] t2
  have l0 := (hT _ (hrow 0 (by omega))).2
  have lr := (hT _ (hrow at' t2)).2
  have gr := (hT _ (hrow at' t2)).1
  simp only [rowD] at i0 i1
  generalize hr0 : T[0]?.getD [] = r0 at *
  generalize hr1 : T[at']?.getD [] = r at *
  have hTT : ∀ x ∈ T.map rowD, RT (N * 18) x := by
    intro x hx
    obtain ⟨s, hs, rfl⟩ := List.mem_map.mp hx
    exact RT_tup (by simp; have := (hT s hs).2; omega) fun y hy => by
      obtain ⟨q, hq, rfl⟩ := List.mem_map.mp hy
      exact IT_enc (G_mono (G_scale ((hT s hs).1 q hq)) (by decide))
  have hrI : ∀ x ∈ r.map enc, IT (N * 18) x := by
    intro x hx
    obtain ⟨q, hq, rfl⟩ := List.mem_map.mp hx
    exact IT_enc (G_mono (G_scale (gr q hq)) (by decide))
  refine run_def (d := d_law_near) rfl rfl ?_
  simp [-w_exs1, d_law_near, start, O.isD, O.flat, isInst, isTy, tyNames, tyN, tyNs, anyN, O.toD, eqOk, D.plain, D.depth, D.eqv, D.flat, E.place, E.quiet, E.quiet.go, E.quietO, stEs, stE, asgT, cxK_own, cxK_cel, cxK_call, cxK_make, bindT.go, Tg.slots, Tg.slots.go, wipe, putBack, dOnly, ixN, bls_map, pures_map', pures_mapf, toDs_mapf, toDs_map', ints_map, E.keeps, isN, isL, modR, modPath, appAt]
  rw [w_exs1]
  simp [-w_exs1, start, O.isD, O.flat, isInst, isTy, tyNames, tyN, tyNs, anyN, O.toD, eqOk, D.plain, D.depth, D.eqv, D.flat, E.place, E.quiet, E.quiet.go, E.quietO, stEs, stE, asgT, cxK_own, cxK_cel, cxK_call, cxK_make, bindT.go, Tg.slots, Tg.slots.go, wipe, putBack, dOnly, ixN, bls_map, pures_map', pures_mapf, toDs_mapf, toDs_map', ints_map, E.keeps, isN, isL, modR, modPath, appAt, t1, i0, l0, u1, v1]
  rw [w_exs1]
  simp [-w_exs1, start, O.isD, O.flat, isInst, isTy, tyNames, tyN, tyNs, anyN, O.toD, eqOk, D.plain, D.depth, D.eqv, D.flat, E.place, E.quiet, E.quiet.go, E.quietO, stEs, stE, asgT, cxK_own, cxK_cel, cxK_call, cxK_make, bindT.go, Tg.slots, Tg.slots.go, wipe, putBack, dOnly, ixN, bls_map, pures_map', pures_mapf, toDs_mapf, toDs_map', ints_map, E.keeps, isN, isL, modR, modPath, appAt, i0, i1, l0, w1]
  rw [w_exs1]
  simp [-w_exs1, start, O.isD, O.flat, isInst, isTy, tyNames, tyN, tyNs, anyN, O.toD, eqOk, D.plain, D.depth, D.eqv, D.flat, E.place, E.quiet, E.quiet.go, E.quietO, stEs, stE, asgT, cxK_own, cxK_cel, cxK_call, cxK_make, bindT.go, Tg.slots, Tg.slots.go, wipe, putBack, dOnly, ixN, bls_map, pures_map', pures_mapf, toDs_mapf, toDs_map', ints_map, E.keeps, isN, isL, modR, modPath, appAt]
  have cl : ∀ lo hi, (cut (T.map rowD) lo hi).length ≤ 41 := fun lo hi => by
    have := cut_len (T.map rowD) lo hi
    simp at this; omega
  have cr : ∀ lo hi, (cut (r.map enc) lo hi).length ≤ 8 := fun lo hi => by
    have := cut_len (r.map enc) lo hi
    simp at this; omega
  refine ⟨fun c0 => ?_, fun c0 => ?_⟩
  · rw [w_exs1]
    have a1 : lenOk (T.length + (cut (T.map rowD) (some (-1)) none).length) = true := lenOk_of (by have := cl (some (-1)) none; omega)
    have q1 : lenOk T.length = true := lenOk_of (by omega)
    simp [-w_exs1, start, O.isD, O.flat, isInst, isTy, tyNames, tyN, tyNs, anyN, O.toD, eqOk, D.plain, D.depth, D.eqv, D.flat, E.place, E.quiet, E.quiet.go, E.quietO, stEs, stE, asgT, cxK_own, cxK_cel, cxK_call, cxK_make, bindT.go, Tg.slots, Tg.slots.go, wipe, putBack, dOnly, ixN, bls_map, pures_map', pures_mapf, toDs_mapf, toDs_map', ints_map, E.keeps, isN, isL, modR, modPath, appAt, a1, E.quietO, keysOk]
    refine run_map T rowD (fun s => .lst (s.map enc)) ?_
    simp [Function.comp_def, -w_exs1, start, O.isD, O.flat, isInst, isTy, tyNames, tyN, tyNs, anyN, O.toD, eqOk, D.plain, D.depth, D.eqv, D.flat, E.place, E.quiet, E.quiet.go, E.quietO, stEs, stE, asgT, cxK_own, cxK_cel, cxK_call, cxK_make, bindT.go, Tg.slots, Tg.slots.go, wipe, putBack, dOnly, ixN, bls_map, pures_map', pures_mapf, toDs_mapf, toDs_map', ints_map, E.keeps, isN, isL, modR, modPath, appAt, q1, toDs_app, O.toDs, O.toKs, rowD, flat_rep, toDs_rep]
    obtain ⟨x, s5, y1, y2, y3⟩ := w_pick w3 (by omega) (.inl rfl) (xs := [D.non, D.lst [], D.tup [], D.lst (cut (T.map rowD) none (some (-1))), D.lst (T.map (fun x => D.tup (x.map enc)) ++ cut (T.map rowD) (some (-1)) none),
            D.tup (T.map rowD), D.int 5, D.dic [], D.lst (T.map (fun x => D.lst (x.map enc))), D.lst (List.replicate T.length (D.tup (cut (r.map enc) none (some (-1)))))]) (by simp) (by simp) (m := k + 4) (by omega)
    simp only [y1, ends_some]
    refine ⟨?_, Dr_mono y3 (by omega)⟩
    have e0 : (T.map fun x => D.tup (x.map enc)) = T.map rowD := rfl
    rw [e0] at y2
    simp only [List.mem_cons, List.not_mem_nil, or_false] at y2
    rcases y2 with rfl | rfl | rfl | rfl | rfl | rfl | rfl | rfl | rfl | rfl
    · exact TT_no (by simp [O.toD]) rfl
    · exact TT_seq (.inl rfl) (by simp) (by simp)
    · exact TT_seq (.inr rfl) (by simp) (by simp)
    · exact TT_seq (.inl rfl) (Nat.le_trans (cl _ _) (by decide)) fun z hz => hTT z (cut_mem hz)
    · refine TT_seq (.inl rfl) (by have := cl (some (-1)) none; simp; omega) fun z hz => ?_
      rcases List.mem_append.mp hz with hz | hz
      · exact hTT z hz
      · exact hTT z (cut_mem hz)
    · exact TT_seq (.inr rfl) (by simp; omega) hTT
    · exact TT_no (by simp [O.toD]) rfl
    · exact TT_no (by simp [O.toD]) rfl
    · refine TT_seq (.inl rfl) (by simp; omega) fun z hz => ?_
      obtain ⟨s, hs, rfl⟩ := List.mem_map.mp hz
      refine RT_no ?_ rfl
      have := (hT s hs).2
      simp only [okD, Bool.and_eq_true]
      exact ⟨lenOk_of (by simp; omega), okDs_of fun y hy => by obtain ⟨q, _, rfl⟩ := List.mem_map.mp hy; exact okD_enc⟩
    · refine TT_seq (.inl rfl) (by simp; omega) fun z hz => ?_
      rw [List.eq_of_mem_replicate hz]
      exact RT_tup (Nat.le_trans (cr _ _) (by decide)) fun y hy => hrI y (cut_mem hy)
  · rw [w_exs1]
    simp [-w_exs1, start, O.isD, O.flat, isInst, isTy, tyNames, tyN, tyNs, anyN, O.toD, eqOk, D.plain, D.depth, D.eqv, D.flat, E.place, E.quiet, E.quiet.go, E.quietO, stEs, stE, asgT, cxK_own, cxK_cel, cxK_call, cxK_make, bindT.go, Tg.slots, Tg.slots.go, wipe, putBack, dOnly, ixN, bls_map, pures_map', pures_mapf, toDs_mapf, toDs_map', ints_map, E.keeps, isN, isL, modR, modPath, appAt]
    have c1 := cl none (some (at' : Int))
    have c2 := cl (some ((at' : Int) + 1)) none
    have c3 := cr none (some (place : Int))
    have c4 := cr (some ((place : Int) + 1)) none
    refine ⟨fun c5 => ?_, fun c5 => ?_⟩
    · obtain ⟨x, s5, y1, y2, y3⟩ := w_pick w3 (by omega) (.inl rfl) (xs := [D.non, .int 0, .tup [.int 0, .int 2], .tup [.int (-1), .int 2], .tup [.bl true, .int 1], .str [48], .tup [.int 1, .int 0], .lst [.int 0, .int 1]]) (by simp) (by simp) (m := k + 4) (by omega)
      rw [w_exs1]
      simp [Function.comp_def, -w_exs1, start, O.isD, O.flat, isInst, isTy, tyNames, tyN, tyNs, anyN, O.toD, eqOk, D.plain, D.depth, D.eqv, D.flat, E.place, E.quiet, E.quiet.go, E.quietO, stEs, stE, asgT, cxK_own, cxK_cel, cxK_call, cxK_make, bindT.go, Tg.slots, Tg.slots.go, wipe, putBack, dOnly, ixN, bls_map, pures_map', pures_mapf, toDs_mapf, toDs_map', ints_map, E.keeps, isN, isL, modR, modPath, appAt, toDs_app, O.toDs, O.toKs, E.quietO, y1, pures_app1]
      refine ⟨lenOk_of (by omega), lenOk_of (by omega), lenOk_of (by omega), lenOk_of (by omega), ?_, Dr_mono y3 (by omega)⟩
      exact TT_mid c1 c2 (fun z hz => hTT z (cut_mem hz)) (fun z hz => hTT z (cut_mem hz)) (RT_mid (by omega) (by omega) (fun z hz => hrI z (cut_mem hz)) (fun z hz => hrI z (cut_mem hz)) (IT_odd hN18 y2))
    · rw [w_exs1]
      obtain ⟨x, s5, y1, y2, y3⟩ := w_pick w3 (by omega) (.inl rfl) (xs := [D.tup [.int 1, .int 2], .tup [.int 1, .int 1], .tup [.int 1, .int 3]]) (by simp) (by simp) (m := k + 4) (by omega)
      obtain ⟨f, hf, rfl⟩ : ∃ f : Rat, f ∈ [mkRat 1 2, 1, mkRat 1 3] ∧ x = enc f := by
        simp only [List.mem_cons, List.not_mem_nil, or_false] at y2
        rcases y2 with rfl | rfl | rfl
        · exact ⟨mkRat 1 2, by simp, enc_eq (by decide +kernel) (by decide +kernel)⟩
        · exact ⟨1, by simp, enc_eq (by decide +kernel) (by decide +kernel)⟩
        · exact ⟨mkRat 1 3, by simp, enc_eq (by decide +kernel) (by decide +kernel)⟩
      obtain ⟨hz, f0, f1⟩ := half_G f hf
      have hpl : place < r.length := by omega
      have gq : G N 1 (r[place]?.getD 0) := by rw [List.getElem?_eq_getElem hpl]; exact gr _ (List.getElem_mem hpl)
      have ip := item_tup enc r 0 hpl
      generalize hqe : r[place]?.getD 0 = q at *
      have gp : G (N * 18) 1 (q * f) := G_mul gq hz f0 f1
      have gls : G (N * 18) 2 (q - q * f) := G_sub (B := 1) (B' := 1) (G_scale gq) gp
      have sf : SmR f := smR_of (N := 18) (B := 1) ⟨hz, by push_cast; grind, by push_cast; grind⟩ (by decide) (by have := pow_bigA (b := 10) (by decide); omega) (by have := pow_bigA (b := 10) (by decide); omega)
      have sq : SmR q := (hR.le (by decide)).sm (G_scale (M := 18) gq)
      have sp : SmR (q * f) := (hR.le (by decide)).sm gp
      have n1 := w_times (sto := s5) (m := k + 4) sq sf (by omega)
      have n2 := w_minus (sto := s5) (m := k + 4) sq sp (by omega)
      simp [Function.comp_def, -w_exs1, start, O.isD, O.flat, isInst, isTy, tyNames, tyN, tyNs, anyN, O.toD, eqOk, D.plain, D.depth, D.eqv, D.flat, E.place, E.quiet, E.quiet.go, E.quietO, stEs, stE, asgT, cxK_own, cxK_cel, cxK_call, cxK_make, bindT.go, Tg.slots, Tg.slots.go, wipe, putBack, dOnly, ixN, bls_map, pures_map', pures_mapf, toDs_mapf, toDs_map', ints_map, E.keeps, isN, isL, modR, modPath, appAt, O.toDs, ip, y1, n1]
      rw [w_exs1]
      simp [Function.comp_def, -w_exs1, start, O.isD, O.flat, isInst, isTy, tyNames, tyN, tyNs, anyN, O.toD, eqOk, D.plain, D.depth, D.eqv, D.flat, E.place, E.quiet, E.quiet.go, E.quietO, stEs, stE, asgT, cxK_own, cxK_cel, cxK_call, cxK_make, bindT.go, Tg.slots, Tg.slots.go, wipe, putBack, dOnly, ixN, bls_map, pures_map', pures_mapf, toDs_mapf, toDs_map', ints_map, E.keeps, isN, isL, modR, modPath, appAt, O.toDs, ip, n2, E.quietO]
      refine ⟨lenOk_of (by omega), lenOk_of (by omega), ?_⟩
      have hrow9 : RT (N * 18) (.tup (cut (r.map enc) none (some (place : Int)) ++ enc (q - q * f) :: cut (r.map enc) (some ((place : Int) + 1)) none)) := RT_mid (by omega) (by omega) (fun z hz => hrI z (cut_mem hz)) (fun z hz => hrI z (cut_mem hz)) (IT_enc (G_mono gls (by decide)))
      have hle9 : (cut (r.map enc) none (some (place : Int)) ++ enc (q - q * f) :: cut (r.map enc) (some ((place : Int) + 1)) none).length ≤ 20 := by simp; omega
      -- less, as a row
      have hr9 : cut (r.map enc) none (some (place : Int)) ++ enc (q - q * f) :: cut (r.map enc) (some ((place : Int) + 1)) none = (cut r none (some (place : Int)) ++ (q - q * f) :: cut r (some ((place : Int) + 1)) none).map enc := by simp [cut, List.map_drop, List.map_take]
      have hl9 : (cut r none (some (place : Int)) ++ (q - q * f) :: cut r (some ((place : Int) + 1)) none).length = many := by
        simp only [cut, sIx, List.length_append, List.length_cons, List.length_take, List.length_drop]
        have h1 : ¬ ((place : Int) < 0) := by omega
        have h2 : ¬ (((place : Int) + 1) < 0) := by omega
        simp only [h1, h2, if_false]
        omega
      have hg9 : GL (N * 18) 2 (cut r none (some (place : Int)) ++ (q - q * f) :: cut r (some ((place : Int) + 1)) none) := by
        intro z hz
        rcases List.mem_append.mp hz with hz | hz
        · exact G_mono (G_scale (gr z (cut_mem hz))) (by decide)
        · rcases List.mem_cons.mp hz with rfl | hz
          · exact gls
          · exact G_mono (G_scale (gr z (cut_mem hz))) (by decide)
      rw [hr9] at hrow9 ⊢
      generalize cut r none (some (place : Int)) ++ (q - q * f) :: cut r (some ((place : Int) + 1)) none = r9 at *
      have hr9I : ∀ x ∈ r9.map enc, IT (N * 18) x := by
        intro x hx
        obtain ⟨z, hz, rfl⟩ := List.mem_map.mp hx
        exact IT_enc (G_mono (hg9 z hz) (by decide))
      have cr9 : ∀ lo hi, (cut (r9.map enc) lo hi).length ≤ 8 := fun lo hi => by
        have := cut_len (r9.map enc) lo hi
        simp at this; omega
      have d3 := cr9 none (some (spot : Int))
      have d4 := cr9 (some ((spot : Int) + 1)) none
      rw [w_exs1]
      simp [Function.comp_def, -w_exs1, start, O.isD, O.flat, isInst, isTy, tyNames, tyN, tyNs, anyN, O.toD, eqOk, D.plain, D.depth, D.eqv, D.flat, E.place, E.quiet, E.quiet.go, E.quietO, stEs, stE, asgT, cxK_own, cxK_cel, cxK_call, cxK_make, bindT.go, Tg.slots, Tg.slots.go, wipe, putBack, dOnly, ixN, bls_map, pures_map', pures_mapf, toDs_mapf, toDs_map', ints_map, E.keeps, isN, isL, modR, modPath, appAt]
      refine ⟨fun e1 => ?_, fun e1 => ?_⟩
      · have hsp : spot < r9.length := by omega
        have ip9 := item_tup enc r9 0 hsp
        have gq9 : G (N * 18) 2 (r9[spot]?.getD 0) := by rw [List.getElem?_eq_getElem hsp]; exact hg9 _ (List.getElem_mem hsp)
        generalize r9[spot]?.getD 0 = q9 at *
        have n3 := w_plus (sto := s5) (m := k + 4) ((hR.le (by decide)).sm gq9) sp (by omega)
        rw [w_exs1]
        simp [Function.comp_def, -w_exs1, start, O.isD, O.flat, isInst, isTy, tyNames, tyN, tyNs, anyN, O.toD, eqOk, D.plain, D.depth, D.eqv, D.flat, E.place, E.quiet, E.quiet.go, E.quietO, stEs, stE, asgT, cxK_own, cxK_cel, cxK_call, cxK_make, bindT.go, Tg.slots, Tg.slots.go, wipe, putBack, dOnly, ixN, bls_map, pures_map', pures_mapf, toDs_mapf, toDs_map', ints_map, E.keeps, isN, isL, modR, modPath, appAt, O.toDs, ip9, n3, E.quietO, pures_app1, toDs_app]
        refine ⟨lenOk_of (by omega), lenOk_of (by omega), lenOk_of (by omega), lenOk_of (by omega), ?_, Dr_mono y3 (by omega)⟩
        exact TT_mid c1 c2 (fun z hz => hTT z (cut_mem hz)) (fun z hz => hTT z (cut_mem hz)) (RT_mid (by omega) (by omega) (fun z hz => hr9I z (cut_mem hz)) (fun z hz => hr9I z (cut_mem hz)) (IT_enc (G_mono (G_add gq9 gp) (by decide))))
      · rw [w_exs1]
        simp [Function.comp_def, -w_exs1, start, O.isD, O.flat, isInst, isTy, tyNames, tyN, tyNs, anyN, O.toD, eqOk, D.plain, D.depth, D.eqv, D.flat, E.place, E.quiet, E.quiet.go, E.quietO, stEs, stE, asgT, cxK_own, cxK_cel, cxK_call, cxK_make, bindT.go, Tg.slots, Tg.slots.go, wipe, putBack, dOnly, ixN, bls_map, pures_map', pures_mapf, toDs_mapf, toDs_map', ints_map, E.keeps, isN, isL, modR, modPath, appAt]
        refine ⟨fun e2 => ?_, fun e2 => ⟨fun e3 => ?_, fun e3 => ?_⟩⟩
        · rw [w_exs1]
          simp [Function.comp_def, -w_exs1, start, O.isD, O.flat, isInst, isTy, tyNames, tyN, tyNs, anyN, O.toD, eqOk, D.plain, D.depth, D.eqv, D.flat, E.place, E.quiet, E.quiet.go, E.quietO, stEs, stE, asgT, cxK_own, cxK_cel, cxK_call, cxK_make, bindT.go, Tg.slots, Tg.slots.go, wipe, putBack, dOnly, ixN, bls_map, pures_map', pures_mapf, toDs_mapf, toDs_map', ints_map, E.keeps, isN, isL, modR, modPath, appAt]
          refine ⟨fun e6 => ?_, fun e6 => ?_⟩
          · rw [w_exs1]
            simp [Function.comp_def, -w_exs1, start, O.isD, O.flat, isInst, isTy, tyNames, tyN, tyNs, anyN, O.toD, eqOk, D.plain, D.depth, D.eqv, D.flat, E.place, E.quiet, E.quiet.go, E.quietO, stEs, stE, asgT, cxK_own, cxK_cel, cxK_call, cxK_make, bindT.go, Tg.slots, Tg.slots.go, wipe, putBack, dOnly, ixN, bls_map, pures_map', pures_mapf, toDs_mapf, toDs_map', ints_map, E.keeps, isN, isL, modR, modPath, appAt, O.toDs, E.quietO, pures_app1, toDs_app]
            refine ⟨lenOk_of (by omega), lenOk_of (by omega), ?_, Dr_mono y3 (by omega)⟩
            exact TT_mid c1 c2 (fun z hz => hTT z (cut_mem hz)) (fun z hz => hTT z (cut_mem hz)) hrow9
          · rw [w_exs1]
            have h19 : D.tup [.int 1, .int 9] = enc (mkRat 1 9) := enc_eq (by decide +kernel) (by decide +kernel)
            have s19 : SmR (mkRat 1 9) := (hR.le (by decide)).sm (ninth_G N)
            have n4 := w_plus (sto := s5) (m := k + 4) sq s19 (by omega)
            simp [Function.comp_def, -w_exs1, start, O.isD, O.flat, isInst, isTy, tyNames, tyN, tyNs, anyN, O.toD, eqOk, D.plain, D.depth, D.eqv, D.flat, E.place, E.quiet, E.quiet.go, E.quietO, stEs, stE, asgT, cxK_own, cxK_cel, cxK_call, cxK_make, bindT.go, Tg.slots, Tg.slots.go, wipe, putBack, dOnly, ixN, bls_map, pures_map', pures_mapf, toDs_mapf, toDs_map', ints_map, E.keeps, isN, isL, modR, modPath, appAt, O.toDs, E.quietO, pures_app1, toDs_app, ip, h19, n4]
            refine ⟨fun e7 => ?_, fun e7 => ⟨TT_seq (.inl rfl) (by simp; omega) hTT, Dr_mono y3 (by omega)⟩⟩
            refine ⟨lenOk_of (by omega), lenOk_of (by omega), lenOk_of (by omega), lenOk_of (by omega), ?_, Dr_mono y3 (by omega)⟩
            exact TT_mid c1 c2 (fun z hz => hTT z (cut_mem hz)) (fun z hz => hTT z (cut_mem hz)) (RT_mid (by omega) (by omega) (fun z hz => hrI z (cut_mem hz)) (fun z hz => hrI z (cut_mem hz)) (IT_enc (G_mono (G_add (G_scale (M := 18) gq) (ninth_G N)) (by decide))))
        · have hat : at' + 1 < T.length := by omega
          have i2 := item_lst rowD T [] hat
          have lr2 := (hT _ (hrow (at' + 1) hat)).2
          have gr2 := (hT _ (hrow (at' + 1) hat)).1
          generalize T[at' + 1]?.getD [] = r2 at *
          simp only [rowD] at i2
          push_cast at i2
          have hr2I : ∀ x ∈ r2.map enc, IT (N * 18) x := by
            intro x hx
            obtain ⟨z, hz, rfl⟩ := List.mem_map.mp hx
            exact IT_enc (G_mono (G_scale (gr2 z hz)) (by decide))
          have cr2 : ∀ lo hi, (cut (r2.map enc) lo hi).length ≤ 8 := fun lo hi => by
            have := cut_len (r2.map enc) lo hi
            simp at this; omega
          have b3 := cr2 none (some (spot : Int))
          have b4 := cr2 (some ((spot : Int) + 1)) none
          have b5 := cl (some ((at' : Int) + 2)) none
          have hsp : spot < r2.length := by omega
          have ip2 := item_tup enc r2 0 hsp
          have gq2 : G N 1 (r2[spot]?.getD 0) := by rw [List.getElem?_eq_getElem hsp]; exact gr2 _ (List.getElem_mem hsp)
          generalize r2[spot]?.getD 0 = q2 at *
          have n3 := w_plus (sto := s5) (m := k + 4) ((hR.le (by decide)).sm (G_scale (M := 18) gq2)) sp (by omega)
          rw [w_exs1]
          simp [Function.comp_def, -w_exs1, start, O.isD, O.flat, isInst, isTy, tyNames, tyN, tyNs, anyN, O.toD, eqOk, D.plain, D.depth, D.eqv, D.flat, E.place, E.quiet, E.quiet.go, E.quietO, stEs, stE, asgT, cxK_own, cxK_cel, cxK_call, cxK_make, bindT.go, Tg.slots, Tg.slots.go, wipe, putBack, dOnly, ixN, bls_map, pures_map', pures_mapf, toDs_mapf, toDs_map', ints_map, E.keeps, isN, isL, modR, modPath, appAt, i2]
          rw [w_exs1]
          simp [Function.comp_def, -w_exs1, start, O.isD, O.flat, isInst, isTy, tyNames, tyN, tyNs, anyN, O.toD, eqOk, D.plain, D.depth, D.eqv, D.flat, E.place, E.quiet, E.quiet.go, E.quietO, stEs, stE, asgT, cxK_own, cxK_cel, cxK_call, cxK_make, bindT.go, Tg.slots, Tg.slots.go, wipe, putBack, dOnly, ixN, bls_map, pures_map', pures_mapf, toDs_mapf, toDs_map', ints_map, E.keeps, isN, isL, modR, modPath, appAt, O.toDs, ip2, n3, E.quietO, pures_app2, toDs_app]
          refine ⟨lenOk_of (by omega), lenOk_of (by omega), lenOk_of (by omega), lenOk_of (by omega), ?_, Dr_mono y3 (by omega)⟩
          exact TT_mid2 c1 b5 (fun z hz => hTT z (cut_mem hz)) (fun z hz => hTT z (cut_mem hz)) hrow9 (RT_mid (by omega) (by omega) (fun z hz => hr2I z (cut_mem hz)) (fun z hz => hr2I z (cut_mem hz)) (IT_enc (G_mono (G_add (G_scale (M := 18) gq2) gp) (by decide))))
        · rw [w_exs1]
          simp [Function.comp_def, -w_exs1, start, O.isD, O.flat, isInst, isTy, tyNames, tyN, tyNs, anyN, O.toD, eqOk, D.plain, D.depth, D.eqv, D.flat, E.place, E.quiet, E.quiet.go, E.quietO, stEs, stE, asgT, cxK_own, cxK_cel, cxK_call, cxK_make, bindT.go, Tg.slots, Tg.slots.go, wipe, putBack, dOnly, ixN, bls_map, pures_map', pures_mapf, toDs_mapf, toDs_map', ints_map, E.keeps, isN, isL, modR, modPath, appAt]
          refine ⟨fun e6 => ?_, fun e6 => ?_⟩
          · rw [w_exs1]
            simp [Function.comp_def, -w_exs1, start, O.isD, O.flat, isInst, isTy, tyNames, tyN, tyNs, anyN, O.toD, eqOk, D.plain, D.depth, D.eqv, D.flat, E.place, E.quiet, E.quiet.go, E.quietO, stEs, stE, asgT, cxK_own, cxK_cel, cxK_call, cxK_make, bindT.go, Tg.slots, Tg.slots.go, wipe, putBack, dOnly, ixN, bls_map, pures_map', pures_mapf, toDs_mapf, toDs_map', ints_map, E.keeps, isN, isL, modR, modPath, appAt, O.toDs, E.quietO, pures_app1, toDs_app]
            refine ⟨lenOk_of (by omega), lenOk_of (by omega), ?_, Dr_mono y3 (by omega)⟩
            exact TT_mid c1 c2 (fun z hz => hTT z (cut_mem hz)) (fun z hz => hTT z (cut_mem hz)) hrow9
          · rw [w_exs1]
            have h19 : D.tup [.int 1, .int 9] = enc (mkRat 1 9) := enc_eq (by decide +kernel) (by decide +kernel)
            have s19 : SmR (mkRat 1 9) := (hR.le (by decide)).sm (ninth_G N)
            have n4 := w_plus (sto := s5) (m := k + 4) sq s19 (by omega)
            simp [Function.comp_def, -w_exs1, start, O.isD, O.flat, isInst, isTy, tyNames, tyN, tyNs, anyN, O.toD, eqOk, D.plain, D.depth, D.eqv, D.flat, E.place, E.quiet, E.quiet.go, E.quietO, stEs, stE, asgT, cxK_own, cxK_cel, cxK_call, cxK_make, bindT.go, Tg.slots, Tg.slots.go, wipe, putBack, dOnly, ixN, bls_map, pures_map', pures_mapf, toDs_mapf, toDs_map', ints_map, E.keeps, isN, isL, modR, modPath, appAt, O.toDs, E.quietO, pures_app1, toDs_app, ip, h19, n4]
            refine ⟨fun e7 => ?_, fun e7 => ⟨TT_seq (.inl rfl) (by simp; omega) hTT, Dr_mono y3 (by omega)⟩⟩
            refine ⟨lenOk_of (by omega), lenOk_of (by omega), lenOk_of (by omega), lenOk_of (by omega), ?_, Dr_mono y3 (by omega)⟩
            exact TT_mid c1 c2 (fun z hz => hTT z (cut_mem hz)) (fun z hz => hTT z (cut_mem hz)) (RT_mid (by omega) (by omega) (fun z hz => hrI z (cut_mem hz)) (fun z hz => hrI z (cut_mem hz)) (IT_enc (G_mono (G_add (G_scale (M := 18) gq) (ninth_G N)) (by decide))))
end K48
end Py
end

section
set_option linter.all false
set_option Elab.async false
/-! LJ: what is told, judged. -/
namespace Py
theorem ROk_least {rows : List (Nat × List Nat)} (h : ROk rows) : ROk (rows.map fun r => least r.1 r.2) := by
  refine ⟨by simpa using h.many, ?_⟩
  intro r hr
  obtain ⟨x, hx, rfl⟩ := List.mem_map.mp hr
  have hx := h.row x hx
  have hg := gcdL_pos (ns := x.2) hx.1
  have hd := gcdL_dvd (ns := x.2) (s := x.1)
  refine ⟨Nat.div_pos (gcdL_le hx.1) hg, Nat.le_trans (Nat.div_le_self _ _) hx.2.1, by simp [least, hx.2.2.1], ?_⟩
  simp only [least]
  rw [(sum_div hg hd.2).1, hx.2.2.2]
theorem chance_least {rows : List (Nat × List Nat)} (h : ROk rows) (i j : Nat) : chance (rows.map fun r => least r.1 r.2) i j = chance rows i j := by
  by_cases hi : i < rows.length
  · have hx := h.row _ (List.getElem_mem hi)
    have hg := gcdL_pos (ns := (rows[i]).2) hx.1
    have hd := gcdL_dvd (ns := (rows[i]).2) (s := (rows[i]).1)
    simp only [chance, List.getElem?_map, List.getElem?_eq_getElem hi, Option.map_some, Option.getD_some, least]
    cases hj : (rows[i]).2[j]? with
    | none => simp
    | some n => exact mkRat_div hg (hd.2 n (List.mem_of_getElem? hj)) hd.1 hx.1
  · simp only [chance, List.getElem?_map, List.getElem?_eq_none (by omega : rows.length ≤ i), Option.map_none]
theorem step_least {rows : List (Nat × List Nat)} (h : ROk rows) (v : List Rat) : stepV (rows.map fun r => least r.1 r.2) v = stepV rows v := by
  simp only [stepV, List.length_map]
  refine List.map_congr_left fun j _ => ?_
  exact Sg_congr fun i _ => by rw [chance_least h]
section
variable {r1 r2 : List (Nat × List Nat)} (he : ∀ v, stepV r1 v = stepV r2 v)
include he
theorem goL_same : ∀ (l : List (List Rat)) (h : List Rat), goL r1 l h = goL r2 l h
  | [], _ => rfl
  | s :: l, h => by rw [goL, goL, he, goL_same l]
theorem posB_same (l : List (List Rat)) (h : List Rat) : posB r1 l h = posB r2 l h := by rw [posB, posB, goL_same he]
theorem stepN_same (v : List Rat) : ∀ t, stepN r1 v t = stepN r2 v t
  | 0 => rfl
  | t + 1 => by rw [stepN, stepN, stepN_same v t, he]
theorem metL_same (v w : List Rat) (t : Nat) : metL r1 v w t = metL r2 v w t := by
  unfold metL
  exact List.map_congr_left fun u _ => by rw [stepN_same he, stepN_same he]
end
theorem last_total : ∀ T : List (List Rat), totalR (T.map totalR) = lastC T := by
  intro T
  induction T using snoc_ind with
  | h0 => simp [totalR, lastC, cumV]
  | h1 T r ih => rw [List.map_append, List.map_singleton, totalR_snoc, ih, (lastC_snoc T r).1]
section
variable {rows : List (Nat × List Nat)} (h : ROk rows) {v w : List Rat} (hv : v.length = rows.length) (hw : w.length = rows.length) (hv0 : ∀ i, 0 ≤ at' v i) (hw0 : ∀ i, 0 ≤ at' w i) (h1 : totalR v = 1) {N : Nat} (gv : GL N 1 v) (gw : GL N 1 w)
include h hv hw hv0 hw0 h1 gv gw
theorem stepN_nonneg (t : Nat) : ∀ i, 0 ≤ at' (stepN rows v t) i := by
  induction t with
  | zero => exact hv0
  | succ t ih =>
    intro i
    by_cases hi : i < rows.length
    · rw [stepN, at_step hi]
      exact Sg_nonneg fun j _ => Rat.mul_nonneg (ih j) (chance_nonneg rows j i)
    · have : (stepN rows v (t + 1))[i]? = none := List.getElem?_eq_none (by rw [stepN_len hv]; omega)
      simp only [at', this]
      exact Rat.le_refl
theorem Sg_one_le {n : Nat} {f : Nat → Rat} (h0 : ∀ i, i < n → 0 ≤ f i) {i : Nat} (hi : i < n) : f i ≤ Sg n f := by
  clear h hv hw hv0 hw0 h1 gv gw
  induction n with
  | zero => omega
  | succ n ih =>
    rw [Sg]
    have hn := h0 n (by omega)
    by_cases hin : i = n
    · subst hin
      have := Sg_nonneg (n := i) (f := f) fun j hj => h0 j (by omega)
      grind
    · have := ih (fun j hj => h0 j (by omega)) (by omega)
      grind
theorem stepN_le (t : Nat) {i : Nat} (hi : i < rows.length) : at' (stepN rows v t) i ≤ 1 := by
  have e : Sg rows.length (at' (stepN rows v t)) = 1 := by
    rw [← tot_at (stepN_len hv t)]
    clear hi
    induction t with
    | zero => exact h1
    | succ t ih => rw [stepN, tot_step h (stepN_len hv t), ih]
  rw [← e]
  exact Sg_one_le h hv hw hv0 hw0 h1 gv gw (fun j _ => stepN_nonneg h hv hw hv0 hw0 h1 gv gw t j) hi
theorem minT_frac (t : Nat) : GL (N * totR rows ^ t) (8 ^ t) (minT rows v w t) := by
  intro q hq
  obtain ⟨z, hz, rfl⟩ := List.mem_map.mp hq
  have hm := List.of_mem_zip (a := z.1) (b := z.2) hz
  unfold minR
  split
  · exact stepN_G h gv t _ hm.1
  · exact stepN_G h gw t _ hm.2
theorem mtT_frac (t : Nat) (ht : t ≤ 5) : GL (N * totR rows ^ 5) 1 (mtT rows v w t) := by
  have key : ∃ B, GL (N * totR rows ^ t) B (mtT rows v w t) := by
    cases t with
    | zero =>
      refine ⟨8 ^ 0 + 0, GL_sub (minT_frac h hv hw hv0 hw0 h1 gv gw 0) ?_⟩
      intro q hq
      simp only [ahT, List.mem_replicate] at hq
      rw [hq.2]; exact G_zero
    | succ t =>
      have a1 := minT_frac h hv hw hv0 hw0 h1 gv gw (t + 1)
      have a2 := GL_step h (minT_frac h hv hw hv0 hw0 h1 gv gw t)
      rw [Nat.mul_assoc, ← Nat.pow_succ] at a2
      exact ⟨_, GL_sub a1 a2⟩
  obtain ⟨B, hB⟩ := key
  intro q hq
  have hB2 := GL_scale (M := totR rows ^ (5 - t)) hB q hq
  rw [Nat.mul_assoc, ← Nat.pow_add, Nat.add_sub_cancel' ht] at hB2
  have hn := mt_nonneg hv hw hv0 hw0 t q hq
  refine ⟨hB2.1, by push_cast; grind, ?_⟩
  obtain ⟨i, hi, rfl⟩ := List.getElem_of_mem hq
  have hi2 : i < rows.length := by rw [mtT_len hv hw] at hi; exact hi
  have e3 : at' (mtT rows v w t) i = (mtT rows v w t)[i] := by
    simp only [at']; rw [List.getElem?_eq_getElem hi]; rfl
  rw [← e3, mtT, at_sub (minT_len hv hw t) (ahT_len hv hw t) hi2]
  have b1 : at' (minT rows v w t) i ≤ at' (stepN rows v t) i := by
    rw [minT, at_min (stepN_len hv t) (stepN_len hw t) hi2]
    unfold minR
    split <;> grind
  have b2 := stepN_le h hv hw hv0 hw0 h1 gv gw t hi2
  have b3 : 0 ≤ at' (ahT rows v w t) i := by
    cases t with
    | zero =>
      have : at' (ahT rows v w 0) i = 0 := by simp [ahT, at', hi2]
      rw [this]; exact Rat.le_refl
    | succ t =>
      simp only [ahT]
      rw [at_step hi2]
      refine Sg_nonneg fun j hj => Rat.mul_nonneg ?_ (chance_nonneg rows j i)
      have c1 := stepN_nonneg h hv hw hv0 hw0 h1 gv gw t j
      rw [minT, at_min (stepN_len hv t) (stepN_len hw t) hj]
      have c2 : ∀ t, ∀ i, 0 ≤ at' (stepN rows w t) i := by
        intro t
        induction t with
        | zero => exact hw0
        | succ t ih =>
          intro i
          by_cases hi : i < rows.length
          · rw [stepN, at_step hi]
            exact Sg_nonneg fun j _ => Rat.mul_nonneg (ih j) (chance_nonneg rows j i)
          · have : (stepN rows w (t + 1))[i]? = none := List.getElem?_eq_none (by rw [stepN_len hw]; omega)
            simp only [at', this]
            exact Rat.le_refl
      exact minR_ge c1 (c2 t j)
  push_cast
  grind
end
namespace K48
variable {sto : List O}
theorem w_same2 {b : Bool} {m : Nat} (hm : 2 ≤ m) : callD loop prog m 57 [.lst [.bl b, .bl b], .lst [.bl b, .bl b]] sto = some (.d (.bl true), sto) := by
  obtain ⟨k, rfl⟩ : ∃ k, m = k + 2 := ⟨m - 2, by omega⟩
  have e1 : callD loop prog (k + 1) 57 [.bl b, .bl b] sto = some (.d (.bl true), sto) := by
    refine ends_eq (run_def (d := d_law_same) rfl rfl ?_)
    simp [d_law_same, start, O.isD, O.flat, isInst, isTy, tyNames, tyN, tyNs, anyN, O.toD, eqOk, D.plain, D.depth, D.eqv, D.flat, E.place, E.quiet, E.quiet.go, E.quietO, stEs, stE, asgT, cxK_own, cxK_cel, cxK_call, cxK_make, bindT.go, Tg.slots, Tg.slots.go, wipe, putBack, dOnly, ixN, bls_map, pures_map', pures_mapf, toDs_mapf, toDs_map', ints_map, E.keeps, isN, isL, modR, modPath, appAt]
  refine ends_eq (run_def (d := d_law_same) rfl rfl ?_)
  have q4 : lenOk 2 = true := lenOk_of (by decide)
  simp [d_law_same, start, O.isD, O.flat, isInst, isTy, tyNames, tyN, tyNs, anyN, O.toD, eqOk, D.plain, D.depth, D.eqv, D.flat, E.place, E.quiet, E.quiet.go, E.quietO, stEs, stE, asgT, cxK_own, cxK_cel, cxK_call, cxK_make, bindT.go, Tg.slots, Tg.slots.go, wipe, putBack, dOnly, ixN, bls_map, pures_map', pures_mapf, toDs_mapf, toDs_map', ints_map, E.keeps, isN, isL, modR, modPath, appAt]
  refine run_filt [(b, b), (b, b)] (fun z => .tup [.bl z.1, .bl z.2]) (fun _ => .int 1) (fun _ => false) ?_
  simp [start, O.isD, O.flat, isInst, isTy, tyNames, tyN, tyNs, anyN, O.toD, eqOk, D.plain, D.depth, D.eqv, D.flat, E.place, E.quiet, E.quiet.go, E.quietO, stEs, stE, asgT, cxK_own, cxK_cel, cxK_call, cxK_make, bindT.go, Tg.slots, Tg.slots.go, wipe, putBack, dOnly, ixN, bls_map, pures_map', pures_mapf, toDs_mapf, toDs_map', ints_map, E.keeps, isN, isL, modR, modPath, appAt, q4, e1, D.plains, D.depths, D.eqvs, O.toDs]
theorem w_begun {ns : List Int} (hl : ns.length ≤ 63) {m : Nat} (hm : 1 ≤ m) : ∃ L C, callD loop prog m 43 [.scr (ns.map .int)] sto = some (dr L 0 C 0, sto) := by
  obtain ⟨k, rfl⟩ : ∃ k, m = k + 1 := ⟨m - 1, by omega⟩
  refine ⟨(ns.filter fun i => decide ((1000000000000000000 : Int) ≤ (i.natAbs : Int))).map fun i => (i.natAbs : Int) - 1000000000000000000, ns.map fun i => (i.natAbs : Int), ?_⟩
  have q4 : lenOk ns.length = true := lenOk_of (by omega)
  refine ends_eq (run_def (d := d_law_begun) rfl rfl ?_)
  simp [d_law_begun, start, O.isD, O.flat, isInst, isTy, tyNames, tyN, tyNs, anyN, O.toD, eqOk, D.plain, D.depth, D.eqv, D.flat, E.place, E.quiet, E.quiet.go, E.quietO, stEs, stE, asgT, cxK_own, cxK_cel, cxK_call, cxK_make, bindT.go, Tg.slots, Tg.slots.go, wipe, putBack, dOnly, ixN, bls_map, pures_map', pures_mapf, toDs_mapf, toDs_map', ints_map, E.keeps, isN, isL, modR, modPath, appAt]
  refine run_filt ns .int (fun i => .int ((i.natAbs : Int) - 1000000000000000000)) (fun i => decide ((1000000000000000000 : Int) ≤ (i.natAbs : Int))) ?_
  simp [start, O.isD, O.flat, isInst, isTy, tyNames, tyN, tyNs, anyN, O.toD, eqOk, D.plain, D.depth, D.eqv, D.flat, E.place, E.quiet, E.quiet.go, E.quietO, stEs, stE, asgT, cxK_own, cxK_cel, cxK_call, cxK_make, bindT.go, Tg.slots, Tg.slots.go, wipe, putBack, dOnly, ixN, bls_map, pures_map', pures_mapf, toDs_mapf, toDs_map', ints_map, E.keeps, isN, isL, modR, modPath, appAt, q4]
  refine run_map ns .int (fun i => .int (i.natAbs : Int)) ?_
  simp [start, O.isD, O.flat, isInst, isTy, tyNames, tyN, tyNs, anyN, O.toD, eqOk, D.plain, D.depth, D.eqv, D.flat, E.place, E.quiet, E.quiet.go, E.quietO, stEs, stE, asgT, cxK_own, cxK_cel, cxK_call, cxK_make, bindT.go, Tg.slots, Tg.slots.go, wipe, putBack, dOnly, ixN, bls_map, pures_map', pures_mapf, toDs_mapf, toDs_map', ints_map, E.keeps, isN, isL, modR, modPath, appAt, q4]
  refine ⟨rfl, ?_⟩
  simp [dr, kL, kR, kC, kT, Function.comp_def]
end K48
end Py
end

section
set_option linter.all false
set_option Elab.async false
/-! LK: both judges agree. -/
namespace Py
/-- the numbers that all is over -/
def NN (P : List (Nat × List Nat)) (p q : Nat × List Nat) : Nat := p.1 * q.1 * totR P ^ 5 * 18
theorem pow_le_of {x a k : Nat} (h : x ≤ 2 ^ a) : x ^ k ≤ 2 ^ (a * k) := by
  rw [Nat.pow_mul]
  exact Nat.pow_le_pow_left h k
theorem NN_le {P : List (Nat × List Nat)} (hP : ROk P) {p q : Nat × List Nat} (hp : POk 40 p) (hq : POk 40 q) : NN P p q ≤ 2 ^ 485 ∧ 0 < NN P p q := by
  have ht := totR_spec hP
  refine ⟨?_, Nat.mul_pos (Nat.mul_pos (Nat.mul_pos hp.pos hq.pos) (Nat.pow_pos ht.1)) (by decide)⟩
  unfold NN
  exact mul_le_pow (a := 480) (b := 5) (mul_le_pow (a := 80) (b := 400) (mul_le_pow hp.le hq.le (Nat.le_refl _)) (pow_le_of ht.2.1) (by decide)) (by decide) (by decide)
theorem NN_room {P Q : List (Nat × List Nat)} (hP : ROk P) (hQ : ROk Q) {p q : Nat × List Nat} (hp : POk 40 p) (hq : POk 40 q) {k : Nat} (hk : k ≤ 6) : Room (NN P p q * totR Q ^ k) (2 ^ (6 * k + 6)) := by
  obtain ⟨h1, h2⟩ := NN_le hP hp hq
  have ht := totR_spec hQ
  have h3 : NN P p q * totR Q ^ k ≤ 2 ^ 965 := mul_le_pow h1 (pow_le_of ht.2.1) (by omega)
  refine ⟨Nat.mul_pos h2 (Nat.pow_pos ht.1), Nat.lt_of_le_of_lt h3 (pow_bigA (by decide)), ?_⟩
  refine Nat.lt_of_le_of_lt (mul_le_pow (c := 1100) (Nat.le_refl _) h3 (by omega)) (pow_bigA (by decide))
theorem NN_room' {P : List (Nat × List Nat)} (hP : ROk P) {p q : Nat × List Nat} (hp : POk 40 p) (hq : POk 40 q) : Room (NN P p q) 4000 := by
  obtain ⟨h1, h2⟩ := NN_le hP hp hq
  refine ⟨h2, Nat.lt_of_le_of_lt h1 (pow_bigA (by decide)), ?_⟩
  exact Nat.lt_of_le_of_lt (mul_le_pow (a := 12) (b := 485) (c := 500) (by decide) h1 (by decide)) (pow_bigA (by decide))
theorem NN_val {P : List (Nat × List Nat)} {p q : Nat × List Nat} (hp : 0 < p.1) (hpn : ∀ n ∈ p.2, n ≤ p.1) (hq : 0 < q.1) (hqn : ∀ n ∈ q.2, n ≤ q.1) : GL (p.1 * q.1) 1 (valP p) ∧ GL (p.1 * q.1) 1 (valP q) := by
  refine ⟨val_G hp hpn, ?_⟩
  rw [Nat.mul_comm]
  exact val_G hq hqn
theorem isTab_of {n : Nat} {d : D} {xs : List D} (hi : isLis d = true) (hs : seqOf d = some xs) (h1 : 1 ≤ xs.length) (h2 : xs.length ≤ 41) (h3 : xs.all (isChance n) = true) : isTab n d = true := by
  unfold isTab
  rw [hi, hs]
  simp only [h1, h2, h3, decide_true, Bool.and_self]
namespace K48
theorem judge {R : List (Nat × List Nat)} (hR : ROk R) {p q : Nat × List Nat} (hp : Share R.length 40 p) (hq : Share R.length 40 q) (hpn : ∀ n ∈ p.2, n ≤ p.1) (hqn : ∀ n ∈ q.2, n ≤ q.1) {t : Nat} (ht : t ≤ 5) {d : D} (hd : TT (NN (R.map fun r => least r.1 r.2) p q) d) :
    ∃ b : Bool, (∀ sto m, 9 ≤ m → callD loop prog m 42 [walkD (R.map fun r => least r.1 r.2), pD p, pD q, .int (t : Nat), d] sto = some (.d (.bl b), sto)) ∧
      (∀ sto m, 7 ≤ m → callD loop prog m 66 [.lst (R.map pD), .lst ((valP p).map enc), .lst ((valP q).map enc), .int (t : Nat), d] sto = some (.d (.bl b), sto)) ∧
      (b = true → isLis d = true ∧ seqOf d = some (((List.range (t + 1)).map (meetV (R.map fun r => least r.1 r.2) p q)).map rowD)) ∧
      (seqOf d = some (((List.range (t + 1)).map (meetV (R.map fun r => least r.1 r.2) p q)).map rowD) → isLis d = true → b = true) := by
  have hP := ROk_least hR
  have he := step_least hR
  have hlen : (R.map fun r => least r.1 r.2).length = R.length := by simp
  generalize hPe : (R.map fun r => least r.1 r.2) = P at *
  have hp' : Share P.length 40 p := by rw [hlen]; exact hp
  have hq' : Share P.length 40 q := by rw [hlen]; exact hq
  obtain ⟨g1, g2⟩ := NN_val (P := P) hp.pos hpn hq.pos hqn
  have gv : GL (NN P p q) 1 (valP p) := GL_scale (GL_scale g1)
  have gw : GL (NN P p q) 1 (valP q) := GL_scale (GL_scale g2)
  have lv : (valP p).length = P.length := by rw [val_len, hp'.len]
  have lw : (valP q).length = P.length := by rw [val_len, hq'.len]
  have hone : totalR (valP p) = 1 := val_one hp.pos hp.sum
  have hmt : (List.range (t + 1)).map (meetV P p q) = (List.range (t + 1)).map (mtT P (valP p) (valP q)) := List.map_congr_left fun u _ => meet_eq hP hp.toPOk hq.toPOk u
  by_cases hA : isTab P.length d = true ∧ ∃ xs, seqOf d = some xs ∧ xs.length = t + 1
  · obtain ⟨hT, xs, hxs, hxl⟩ := hA
    obtain ⟨S, hs, hi, _, _, hS⟩ := isTab_rows hT
    have hSl : S.length = t + 1 := by
      rw [hs] at hxs
      have := Option.some.inj hxs
      rw [← this] at hxl
      simpa using hxl
    have hSG : ∀ s ∈ S, GL (NN P p q) 4 s ∧ s.length = P.length := fun s hsS => ⟨(hd.2 _ hs (rowD s) (List.mem_map_of_mem hsS)).2 s rfl, (hS s hsS).1⟩
    have m1 := fun sto m (hm : 9 ≤ m) => v_is_meeting (sto := sto) hP (t := t) hp' hq' (by omega) (by omega) hd.1 hT hs hSl hSG gv gw (by rw [hSl]; exact NN_room hP hP hp.toPOk hq.toPOk (by omega)) (NN_room' hP hp.toPOk hq.toPOk) hm
    have m2 := fun sto m (hm : 7 ≤ m) => w_is_right (sto := sto) hR (t := t) (v := valP p) (w := valP q) (d1 := .lst (R.map pD)) rfl (by simp) (by rw [lv, hlen]) (by rw [lw, hlen]) gv gw hd.1 hi hs hSl (by omega) (fun s hsS => ⟨(hSG s hsS).1, by rw [(hSG s hsS).2, hlen]⟩) (fun s hsS => (hS s hsS).2) (by rw [hSl]; exact NN_room hP hR hp.toPOk hq.toPOk (by omega)) (NN_room' hP hp.toPOk hq.toPOk) hm
    rw [met_eq hP hp.toPOk hq.toPOk] at m1
    rw [← posB_same he, ← posB_same he, ← metL_same he] at m2
    refine ⟨_, m1, m2, fun hb => ⟨hi, ?_⟩, fun hse _ => ?_⟩
    · simp only [Bool.and_eq_true, decide_eq_true_eq] at hb
      have := only_mt lv lw hP hone (t := t + 1) (S := S) (fun s hsS => (hS s hsS).1) hSl hb.1.1 hb.1.2 hb.2
      rw [hs, this, hmt]
    · rw [hs] at hse
      have e1 := Option.some.inj hse
      have e2 : S = (List.range (t + 1)).map (meetV P p q) := by
        refine List.map_inj_right ?_ |>.mp e1
        intro a b hab
        simp only [rowD, D.tup.injEq] at hab
        exact List.map_inj_right (fun x y hxy => enc_inj hxy) |>.mp hab
      rw [hmt] at e2
      obtain ⟨p1, p2⟩ := pos_mt lv lw (t + 1)
      have p3 := cum_mt lv lw hP hone (t + 1)
      rw [← e2] at p1 p2 p3
      simp only [Bool.and_eq_true, decide_eq_true_eq]
      exact ⟨⟨p1, p2⟩, p3⟩
  · refine ⟨false, fun sto m hm => ?_, fun sto m hm => ?_, fun hb => (by cases hb), fun hse hi => ?_⟩
    · exact v_is_meeting_no hP hp' hq' (by omega) hd.1 (fun h1 xs h2 h3 => hA ⟨h1, xs, h2, h3⟩) (by omega)
    · refine w_is_right_no (rows := R) (by simp) (by simp) hd.1 (fun hi xs h2 h3 h4 => hA ⟨?_, xs, h2, h4⟩) hm
      rw [hlen]
      exact isTab_of hi h2 (by omega) (by omega) h3
    · exfalso
      refine hA ⟨isTab_of hi hse (by simp) (by simp; omega) ?_, _, hse, by simp⟩
      simp only [List.all_eq_true, List.mem_map]
      rintro x ⟨s, ⟨u, hu, rfl⟩, rfl⟩
      rw [meet_eq hP hp.toPOk hq.toPOk]
      exact rowD_isChance (mtT_len lv lw u) (mt_nonneg lv lw (val_at_nonneg p) (val_at_nonneg q) u)
end K48
end Py
end

section
set_option linter.all false
set_option Elab.async false
/-! LL: the law. -/
namespace Py
theorem walk_fold {rows : List (Nat × List Nat)} : D.ins 7 [(0, .tup (rowsD (rows.map fun r => least r.1 r.2))), (1, .int (rows.length : Nat))] = walkD (rows.map fun r => least r.1 r.2) := by
  simp [walkD]
/-- a for over what is found on the way -/
theorem run_for_any {c : Cx} {s : St} {tg : Tg} {k : Option Itk} {es : List E} {b : List S} {K : Out × St → Prop}
    (h : Ends (evs c es s) fun p => Ends (yields k p.1) fun xs => ∃ I : List D → St → Prop, I [] p.2 ∧
      (∀ done x rest, xs = done ++ x :: rest → ∀ s, I done s → Ends (bindT tg x s.env) fun env => Ends (exs c b { s with env := env }) fun q => (match q.1 with
      | .nx => I (done ++ [x]) q.2
      | .cont => I (done ++ [x]) q.2
      | .brk => K (.nx, q.2)
      | .ret o => K (.ret o, q.2))) ∧ (∀ s, I xs s → K (.nx, s))) : Ends (ex c (.for_ tg k es b) s) K := by
  obtain ⟨p, h1, xs, h2, I, h3, h4, h5⟩ := h
  exact run_for xs id I ⟨p, h1, xs, h2, by simp, h3⟩ h4 h5
namespace K48
theorem w_right {n : Nat} {sto : List O} (h : Dr n sto) (hn : n ≤ 10 ^ 6) {m : Nat} (hm : 20 ≤ m) : ∃ sto', callD loop prog m 68 [.cell 0] sto = some (.d (.bl true), sto') ∧ Dr (n + 1000) sto' := by
  obtain ⟨k, rfl⟩ : ∃ k, m = k + 20 := ⟨m - 20, by omega⟩
  suffices hE : Ends (callD loop prog (k + 20) 68 [.cell 0] sto) fun b => b.1 = .d (.bl true) ∧ Dr (n + 1000) b.2 by
    obtain ⟨⟨o, s⟩, e, h1, h2⟩ := hE
    simp only at h1
    subst h1
    exact ⟨s, e, h2⟩
  obtain ⟨R, s1, r1, hR, hR4, d1⟩ := w_kept_rows h (by omega) (m := k + 19) (by omega) (fun {n sto} h1 h2 {m} h3 => w_rows h1 h2 h3)
  obtain ⟨t, s2, t1, t2, d2⟩ := w_take d1 (by omega) (a := 6) (by decide) (by decide) (m := k + 19) (by omega)
  obtain ⟨p, s3, p1, hp, hpn, d3⟩ := w_drawn_share d2 (by omega) hR.many.1 hR4 (m := k + 19) (by omega)
  obtain ⟨q, s4, q1, hq, hqn, d4⟩ := w_drawn_share d3 (by omega) hR.many.1 hR4 (m := k + 19) (by omega)
  have wk := fun sto => v_Walk (sto := sto) (rows := R) (d := .lst (R.map pD)) hR rfl rfl (m := k + 19) (by omega)
  have hP := ROk_least hR
  have hlen : (R.map fun r => least r.1 r.2).length = R.length := by simp
  have he := step_least hR
  have t5 : t ≤ 5 := by omega
  have jd := @judge R hR p q hp hq hpn hqn t t5
  have wf := walk_fold (rows := R)
  have hch := ROk_least hR
  simp at t1
  generalize hPe : (R.map fun r => least r.1 r.2) = P at *
  have hp' : Share P.length 40 p := by rw [hlen]; exact hp
  have hq' : Share P.length 40 q := by rw [hlen]; exact hq
  obtain ⟨g1, g2⟩ := NN_val (P := P) hp.pos hpn hq.pos hqn
  have gv : GL (NN P p q) 1 (valP p) := GL_scale (GL_scale g1)
  have gw : GL (NN P p q) 1 (valP q) := GL_scale (GL_scale g2)
  have lv : (valP p).length = P.length := by rw [val_len, hp'.len]
  have lw : (valP q).length = P.length := by rw [val_len, hq'.len]
  have hone : totalR (valP p) = 1 := val_one hp.pos hp.sum
  have hmt : ∀ u, meetV P p q u = mtT P (valP p) (valP q) u := fun u => meet_eq hP hp.toPOk hq.toPOk u
  have mt1 := v_meeting_table (sto := s4) hP (t := t) hp' hq' (by omega) (by omega) (m := k + 19) (by omega)
  have pa1 := v_parted_at (sto := s4) hP (t := t) hp' hq' (by omega) (by omega) (m := k + 19) (by omega)
  -- the table that is told
  obtain ⟨T, hTe⟩ : ∃ T : List (List Rat), T = (List.range (t + 1)).map (meetV P p q) := ⟨_, rfl⟩
  have hTl : T.length = t + 1 := by rw [hTe]; simp
  have hTg : ∀ s ∈ T, GL (p.1 * q.1 * totR P ^ 5) 1 s ∧ s.length = P.length := by
    intro s hs
    rw [hTe] at hs
    obtain ⟨u, hu, rfl⟩ := List.mem_map.mp hs
    have hu : u < t + 1 := List.mem_range.mp hu
    rw [hmt]
    exact ⟨mtT_frac hP lv lw (val_at_nonneg p) (val_at_nonneg q) hone g1 g2 u (by omega), mtT_len lv lw u⟩
  have hTt : lastC T = 1 - partR (goneN P p t) (goneN P q t) := by
    rw [hTe, List.map_congr_left fun u _ => hmt u, last_mt lv lw hP t, tot_minT lv lw hP hone, part_eq (pok_goneN hP hp.toPOk t).pos (pok_goneN hP hq.toPOk t).pos, val_goneN hP hp.toPOk, val_goneN hP hq.toPOk]
  have hRoom := NN_room' hP hp.toPOk hq.toPOk
  have hTg2 : ∀ s ∈ T, GL (NN P p q) 1 s := fun s hs => GL_scale (hTg s hs).1
  have many8 : P.length ≤ 8 := by omega
  have hTT : ∀ d, (d = .lst (T.map rowD) ∨ d = .tup (T.map rowD)) → TT (NN P p q) d := by
    intro d hd
    refine TT_seq hd (by simp; omega) fun x hx => ?_
    obtain ⟨s, hs, rfl⟩ := List.mem_map.mp hx
    refine RT_tup (by simp; have := (hTg s hs).2; omega) fun y hy => ?_
    obtain ⟨z, hz, rfl⟩ := List.mem_map.mp hy
    exact IT_enc (G_mono (hTg2 s hs z hz) (by decide))
  have mt2 : callD loop prog (k + 19) 41 [walkD P, pD p, pD q, .int (t : Nat)] s4 = some (.lst ((T.map rowD).map .d), s4) := by
    rw [mt1, hTe]; simp [Function.comp_def]
  have qT : lenOk T.length = true := lenOk_of (by omega)
  refine run_def (d := d_law_right) rfl rfl ?_
  simp [-w_exs1, d_law_right, start, O.isD, O.flat, isInst, isTy, tyNames, tyN, tyNs, anyN, O.toD, eqOk, D.plain, D.depth, D.eqv, D.flat, E.place, E.quiet, E.quiet.go, E.quietO, stEs, stE, asgT, cxK_own, cxK_cel, cxK_call, cxK_make, bindT.go, Tg.slots, Tg.slots.go, wipe, putBack, dOnly, ixN, bls_map, pures_map', pures_mapf, toDs_mapf, toDs_map', ints_map, E.keeps, isN, isL, modR, modPath, appAt]
  rw [w_exs1]
  simp [-w_exs1, Function.comp_def, start, O.isD, O.flat, isInst, isTy, tyNames, tyN, tyNs, anyN, O.toD, eqOk, D.plain, D.depth, D.eqv, D.flat, E.place, E.quiet, E.quiet.go, E.quietO, stEs, stE, asgT, cxK_own, cxK_cel, cxK_call, cxK_make, bindT.go, Tg.slots, Tg.slots.go, wipe, putBack, dOnly, ixN, bls_map, pures_map', pures_mapf, toDs_mapf, toDs_map', ints_map, E.keeps, isN, isL, modR, modPath, appAt, r1]
  rw [w_exs1]
  simp [-w_exs1, Function.comp_def, start, O.isD, O.flat, isInst, isTy, tyNames, tyN, tyNs, anyN, O.toD, eqOk, D.plain, D.depth, D.eqv, D.flat, E.place, E.quiet, E.quiet.go, E.quietO, stEs, stE, asgT, cxK_own, cxK_cel, cxK_call, cxK_make, bindT.go, Tg.slots, Tg.slots.go, wipe, putBack, dOnly, ixN, bls_map, pures_map', pures_mapf, toDs_mapf, toDs_map', ints_map, E.keeps, isN, isL, modR, modPath, appAt, wk, t1, hPe, wf, rowsD]
  have wf2 : D.ins 7 [(0, .tup (P.map pD)), (1, .int (R.length : Nat))] = walkD P := wf
  rw [wf2, w_exs1]
  simp [-w_exs1, Function.comp_def, start, O.isD, O.flat, isInst, isTy, tyNames, tyN, tyNs, anyN, O.toD, eqOk, D.plain, D.depth, D.eqv, D.flat, E.place, E.quiet, E.quiet.go, E.quietO, stEs, stE, asgT, cxK_own, cxK_cel, cxK_call, cxK_make, bindT.go, Tg.slots, Tg.slots.go, wipe, putBack, dOnly, ixN, bls_map, pures_map', pures_mapf, toDs_mapf, toDs_map', ints_map, E.keeps, isN, isL, modR, modPath, appAt, p1, q1]
  rw [w_exs1]
  simp [-w_exs1, Function.comp_def, start, O.isD, O.flat, isInst, isTy, tyNames, tyN, tyNs, anyN, O.toD, eqOk, D.plain, D.depth, D.eqv, D.flat, E.place, E.quiet, E.quiet.go, E.quietO, stEs, stE, asgT, cxK_own, cxK_cel, cxK_call, cxK_make, bindT.go, Tg.slots, Tg.slots.go, wipe, putBack, dOnly, ixN, bls_map, pures_map', pures_mapf, toDs_mapf, toDs_map', ints_map, E.keeps, isN, isL, modR, modPath, appAt, mt2]
  rw [w_exs1]
  simp [-w_exs1, Function.comp_def, start, O.isD, O.flat, isInst, isTy, tyNames, tyN, tyNs, anyN, O.toD, eqOk, D.plain, D.depth, D.eqv, D.flat, E.place, E.quiet, E.quiet.go, E.quietO, stEs, stE, asgT, cxK_own, cxK_cel, cxK_call, cxK_make, bindT.go, Tg.slots, Tg.slots.go, wipe, putBack, dOnly, ixN, bls_map, pures_map', pures_mapf, toDs_mapf, toDs_map', ints_map, E.keeps, isN, isL, modR, modPath, appAt]
  refine run_map T rowD (fun s => enc (totalR s)) ?_
  have Rm : Room (NN P p q) 8 := hRoom.le (by decide)
  have c1 : ∀ s ∈ T, ∀ sto, callD loop prog (k + 19) 51 [.lst (s.map enc)] sto = some (.d (enc (totalR s)), sto) := fun s hs sto =>
    w_total (l := s) (N := NN P p q) (B := 1) rfl (Rm.le (by have := (hTg s hs).2; omega)) (Rm.le (by decide)) (hTg2 s hs) (by omega)
  have c2 : ∀ sto, callD loop prog (k + 19) 51 [.lst ((T.map totalR).map enc)] sto = some (.d (enc (totalR (T.map totalR))), sto) := fun sto => by
    refine w_total (l := T.map totalR) (N := NN P p q) (B := 8) rfl (hRoom.le (by simp; omega)) Rm ?_ (by omega)
    intro x hx
    obtain ⟨s, hs, rfl⟩ := List.mem_map.mp hx
    have := G_total (N := NN P p q) (B := 1) (C := 0) (x := 0) (l := s) G_zero (hTg2 s hs)
    exact G_mono this (by have := (hTg s hs).2; omega)
  have c3 := partR_G (pok_goneN hP hp.toPOk t) (pok_goneN hP hq.toPOk t) (by omega) (by rw [len_goneN hp'.len]; exact many8) (by rw [len_goneN hp'.len, len_goneN hq'.len])
  have c4 := w_minus (sto := s4) (m := k + 19) smR_one c3 (by omega)
  rw [last_total, hTt] at c2
  simp [Function.comp_def] at c2
  simp [-w_exs1, Function.comp_def, start, O.isD, O.flat, isInst, isTy, tyNames, tyN, tyNs, anyN, O.toD, eqOk, D.plain, D.depth, D.eqv, D.flat, E.place, E.quiet, E.quiet.go, E.quietO, stEs, stE, asgT, cxK_own, cxK_cel, cxK_call, cxK_make, bindT.go, Tg.slots, Tg.slots.go, wipe, putBack, dOnly, ixN, bls_map, pures_map', pures_mapf, toDs_mapf, toDs_map', ints_map, E.keeps, isN, isL, modR, modPath, appAt, qT]
  refine ⟨fun s hs => by simp [Function.comp_def, start, O.isD, O.flat, isInst, isTy, tyNames, tyN, tyNs, anyN, O.toD, eqOk, D.plain, D.depth, D.eqv, D.flat, E.place, E.quiet, E.quiet.go, E.quietO, stEs, stE, asgT, cxK_own, cxK_cel, cxK_call, cxK_make, bindT.go, Tg.slots, Tg.slots.go, wipe, putBack, dOnly, ixN, bls_map, pures_map', pures_mapf, toDs_mapf, toDs_map', ints_map, E.keeps, isN, isL, modR, modPath, appAt, rowD, c1 s hs], ?_⟩
  simp [-w_exs1, Function.comp_def, start, O.isD, O.flat, isInst, isTy, tyNames, tyN, tyNs, anyN, O.toD, eqOk, D.plain, D.depth, D.eqv, D.flat, E.place, E.quiet, E.quiet.go, E.quietO, stEs, stE, asgT, cxK_own, cxK_cel, cxK_call, cxK_make, bindT.go, Tg.slots, Tg.slots.go, wipe, putBack, dOnly, ixN, bls_map, pures_map', pures_mapf, toDs_mapf, toDs_map', ints_map, E.keeps, isN, isL, modR, modPath, appAt, c2, pa1, enc_one, c4]
  rw [w_exs1]
  obtain ⟨bt, jt1, jt2, jt3, jt4⟩ := jd (hTT (.lst (T.map rowD)) (.inl rfl))
  have hbt : bt = true := jt4 (by rw [hTe]; rfl) rfl
  subst hbt
  have q2 : lenOk 2 = true := lenOk_of (by decide)
  have q8 : lenOk 8 = true := lenOk_of (by decide)
  have h8 : itk .range [.int 8] = some ((List.range 8).map fun (j : Nat) => .int (j : Int)) := q_range (n := 8) (by decide)
  refine run_for_any ?_
  simp [-w_exs1, Function.comp_def, start, O.isD, O.flat, isInst, isTy, tyNames, tyN, tyNs, anyN, O.toD, eqOk, D.plain, D.depth, D.eqv, D.flat, E.place, E.quiet, E.quiet.go, E.quietO, stEs, stE, asgT, cxK_own, cxK_cel, cxK_call, cxK_make, bindT.go, Tg.slots, Tg.slots.go, wipe, putBack, dOnly, ixN, bls_map, pures_map', pures_mapf, toDs_mapf, toDs_map', ints_map, E.keeps, isN, isL, modR, modPath, appAt, q2]
  refine run_lc (List.range 8) (fun j => .int (j : Nat)) (fun done out sto => (∀ d ∈ out, TT (NN P p q) d) ∧ out.length = done.length ∧ Dr (n + 241 + done.length * 10) sto) ?_
  simp [-w_exs1, Function.comp_def, start, O.isD, O.flat, isInst, isTy, tyNames, tyN, tyNs, anyN, O.toD, eqOk, D.plain, D.depth, D.eqv, D.flat, E.place, E.quiet, E.quiet.go, E.quietO, stEs, stE, asgT, cxK_own, cxK_cel, cxK_call, cxK_make, bindT.go, Tg.slots, Tg.slots.go, wipe, putBack, dOnly, ixN, bls_map, pures_map', pures_mapf, toDs_mapf, toDs_map', ints_map, E.keeps, isN, isL, modR, modPath, appAt, h8]
  refine ⟨Dr_mono d4 (by omega), ?_, ?_⟩
  · intro done x rest out sto e o1 o2 o3
    have hd : done.length < 8 := by
      have := congrArg List.length e
      simp at this; omega
    obtain ⟨o, s6, e1, e2, e3⟩ := w_near (N := p.1 * q.1 * totR P ^ 5) (many := P.length) o3 (by omega) hTg hTl (by omega) hP.many.1 many8 (by have := hRoom.le (by decide : 8 ≤ 4000); exact this) (m := k + 19) (by omega)
    simp [start, O.isD, O.flat, isInst, isTy, tyNames, tyN, tyNs, anyN, O.toD, eqOk, D.plain, D.depth, D.eqv, D.flat, E.place, E.quiet, E.quiet.go, E.quietO, stEs, stE, asgT, cxK_own, cxK_cel, cxK_call, cxK_make, bindT.go, Tg.slots, Tg.slots.go, wipe, putBack, dOnly, ixN, bls_map, pures_map', pures_mapf, toDs_mapf, toDs_map', ints_map, E.keeps, isN, isL, modR, modPath, appAt, e1]
    refine ⟨fun d hd => ?_, o2, Dr_mono e3 (by omega)⟩
    rcases hd with hd | rfl
    · exact o1 d hd
    · exact e2
  · intro out sto o1 o2 o3
    refine ⟨lenOk_of (by omega), lenOk_of (by omega), fun done s => ∃ x8 x9 x10 x11, s = ⟨[some (.d (.cell 0)), some (.d (.lst (R.map pD))), some (.d (.int (R.length : Nat))), some (.d (walkD P)), some (.d (.int (t : Nat))), some (.d (pD p)), some (.d (pD q)), some (.d (.lst (T.map rowD))), x8, x9, x10, x11], sto⟩, ⟨_, _, _, _, rfl⟩, ?_, ?_⟩
    · rintro done x rest e s ⟨x8, x9, x10, x11, rfl⟩
      have hx : TT (NN P p q) x := by
        have hm : x ∈ O.toDs (O.d (D.lst (T.map rowD)) :: O.d (D.tup (T.map rowD)) :: out.map O.d) := by rw [e]; simp
        simp only [O.toDs, O.toD, toDs_map', List.mem_cons] at hm
        rcases hm with rfl | rfl | hm
        · exact hTT _ (.inl rfl)
        · exact hTT _ (.inr rfl)
        · exact o1 x hm
      obtain ⟨bx, j1, j2, j3, _⟩ := jd hx
      have hcx := noCell_ok hx.1
      have ra1 := fun sto => w_ratios (sto := sto) hp.toPOk (by decide) (by rw [hp'.len]; omega) (m := k + 19) (by omega)
      have ra2 := fun sto => w_ratios (sto := sto) hq.toPOk (by decide) (by rw [hq'.len]; omega) (m := k + 19) (by omega)
      have j1' := fun sto => j1 sto (k + 19) (by omega)
      have j2' := fun sto => j2 sto (k + 19) (by omega)
      have sm := fun sto => w_same2 (sto := sto) (b := bx) (m := k + 19) (by omega)
      have pm : ∀ a b c d e : D, ([4, 3, 2, 1, 0] : List Nat).mapM (fun i => [a, b, c, d, e][i]?) = some [e, d, c, b, a] := fun _ _ _ _ _ => rfl
      rw [w_exs1]
      simp [-w_exs1, start, O.isD, O.flat, isInst, isTy, tyNames, tyN, tyNs, anyN, O.toD, eqOk, D.plain, D.depth, D.eqv, D.flat, E.place, E.quiet, E.quiet.go, E.quietO, stEs, stE, asgT, cxK_own, cxK_cel, cxK_call, cxK_make, bindT.go, Tg.slots, Tg.slots.go, wipe, putBack, dOnly, ixN, bls_map, pures_map', pures_mapf, toDs_mapf, toDs_map', ints_map, E.keeps, isN, isL, modR, modPath, appAt, ra1, ra2, j2', hcx]
      rw [w_exs1]
      cases bx with
      | false =>
        simp [-w_exs1, start, O.isD, O.flat, isInst, isTy, tyNames, tyN, tyNs, anyN, O.toD, eqOk, D.plain, D.depth, D.eqv, D.flat, E.place, E.quiet, E.quiet.go, E.quietO, stEs, stE, asgT, cxK_own, cxK_cel, cxK_call, cxK_make, bindT.go, Tg.slots, Tg.slots.go, wipe, putBack, dOnly, ixN, bls_map, pures_map', pures_mapf, toDs_mapf, toDs_map', ints_map, E.keeps, isN, isL, modR, modPath, appAt, hcx]
        rw [w_exs1]
        simp [-w_exs1, -List.mapM_cons, start, O.isD, O.flat, isInst, isTy, tyNames, tyN, tyNs, anyN, O.toD, eqOk, D.plain, D.depth, D.eqv, D.flat, E.place, E.quiet, E.quiet.go, E.quietO, stEs, stE, asgT, cxK_own, cxK_cel, cxK_call, cxK_make, bindT.go, Tg.slots, Tg.slots.go, wipe, putBack, dOnly, ixN, bls_map, pures_map', pures_mapf, toDs_mapf, toDs_map', ints_map, E.keeps, isN, isL, modR, modPath, appAt, hcx, j1', pm, sm, O.toDs, q2]
      | true =>
        obtain ⟨hi, hs⟩ := j3 rfl
        rw [← hTe] at hs
        have hli : bi .list [x] = some (.lst ((T.map rowD).map .d)) := by
          cases x <;> try cases hi
          all_goals
            simp only [q_seq1, q_seq2, Option.some.injEq] at hs
            rw [hs]; rfl
        simp [-w_exs1, Function.comp_def, start, O.isD, O.flat, isInst, isTy, tyNames, tyN, tyNs, anyN, O.toD, eqOk, D.plain, D.depth, D.eqv, D.flat, E.place, E.quiet, E.quiet.go, E.quietO, stEs, stE, asgT, cxK_own, cxK_cel, cxK_call, cxK_make, bindT.go, Tg.slots, Tg.slots.go, wipe, putBack, dOnly, ixN, bls_map, pures_map', pures_mapf, toDs_mapf, toDs_map', ints_map, E.keeps, isN, isL, modR, modPath, appAt, hcx, hli]
        rw [w_exs1]
        simp [-w_exs1, -List.mapM_cons, start, O.isD, O.flat, isInst, isTy, tyNames, tyN, tyNs, anyN, O.toD, eqOk, D.plain, D.depth, D.eqv, D.flat, E.place, E.quiet, E.quiet.go, E.quietO, stEs, stE, asgT, cxK_own, cxK_cel, cxK_call, cxK_make, bindT.go, Tg.slots, Tg.slots.go, wipe, putBack, dOnly, ixN, bls_map, pures_map', pures_mapf, toDs_mapf, toDs_map', ints_map, E.keeps, isN, isL, modR, modPath, appAt, hcx, j1', pm, sm, O.toDs, q2]
    · rintro s ⟨x8, x9, x10, x11, rfl⟩
      simp [start, O.isD, O.flat, isInst, isTy, tyNames, tyN, tyNs, anyN, O.toD, eqOk, D.plain, D.depth, D.eqv, D.flat, E.place, E.quiet, E.quiet.go, E.quietO, stEs, stE, asgT, cxK_own, cxK_cel, cxK_call, cxK_make, bindT.go, Tg.slots, Tg.slots.go, wipe, putBack, dOnly, ixN, bls_map, pures_map', pures_mapf, toDs_mapf, toDs_map', ints_map, E.keeps, isN, isL, modR, modPath, appAt, jt1 sto (k + 19) (by omega)]
      exact Dr_mono o3 (by omega)
theorem plain : ∀ ns : List Int, ns.length ≤ 63 → ∃ sto, callD loop prog 60 69 [.scr (ns.map .int)] [] = some (.d (.bl true), sto) := by
  intro ns hns
  suffices hE : Ends (callD loop prog (59 + 1) 69 [.scr (ns.map .int)] []) fun b => b.1 = .d (.bl true) by
    obtain ⟨⟨o, s⟩, e, h1⟩ := hE
    simp only at h1
    subst h1
    exact ⟨s, e⟩
  obtain ⟨L, C, b1⟩ := w_begun (sto := []) (ns := ns) hns (m := 59) (by omega)
  refine run_def (d := d_law) rfl rfl ?_
  simp [-w_exs1, d_law, start, O.isD, O.flat, isInst, isTy, tyNames, tyN, tyNs, anyN, O.toD, eqOk, D.plain, D.depth, D.eqv, D.flat, E.place, E.quiet, E.quiet.go, E.quietO, stEs, stE, asgT, cxK_own, cxK_cel, cxK_call, cxK_make, bindT.go, Tg.slots, Tg.slots.go, wipe, putBack, dOnly, ixN, bls_map, pures_map', pures_mapf, toDs_mapf, toDs_map', ints_map, E.keeps, isN, isL, modR, modPath, appAt]
  rw [w_exs1]
  have hd : (dr L 0 C 0).isD = false := rfl
  simp [-w_exs1, start, O.isD, O.flat, isInst, isTy, tyNames, tyN, tyNs, anyN, O.toD, eqOk, D.plain, D.depth, D.eqv, D.flat, E.place, E.quiet, E.quiet.go, E.quietO, stEs, stE, asgT, cxK_own, cxK_cel, cxK_call, cxK_make, bindT.go, Tg.slots, Tg.slots.go, wipe, putBack, dOnly, ixN, bls_map, pures_map', pures_mapf, toDs_mapf, toDs_map', ints_map, E.keeps, isN, isL, modR, modPath, appAt, b1]
  refine ⟨rfl, ?_⟩
  rw [w_exs1]
  have hr : itk .range [.int (3 + if (6 : Int) < (ns.length : Nat) then 6 else ((ns.length : Nat) : Int))] = some ((List.range (3 + min ns.length 6)).map fun (j : Nat) => .int (j : Int)) := by
    have e : (3 + if (6 : Int) < (ns.length : Nat) then 6 else ((ns.length : Nat) : Int)) = ((3 + min ns.length 6 : Nat) : Int) := by
      by_cases h6 : (6 : Int) < (ns.length : Nat)
      · rw [if_pos h6]; omega
      · rw [if_neg h6]; omega
    rw [e]
    exact q_range (by omega)
  refine run_for (List.range (3 + min ns.length 6)) (fun j => .int (j : Nat)) (fun done s => ∃ x2 sto, Dr (done.length * 1000) sto ∧ s = ⟨[some (.d (.scr (ns.map .int))), some (.d (.cell 0)), x2], sto⟩) ?_ ?_ ?_
  · simp [start, O.isD, O.flat, isInst, isTy, tyNames, tyN, tyNs, anyN, O.toD, eqOk, D.plain, D.depth, D.eqv, D.flat, E.place, E.quiet, E.quiet.go, E.quietO, stEs, stE, asgT, cxK_own, cxK_cel, cxK_call, cxK_make, bindT.go, Tg.slots, Tg.slots.go, wipe, putBack, dOnly, ixN, bls_map, pures_map', pures_mapf, toDs_mapf, toDs_map', ints_map, E.keeps, isN, isL, modR, modPath, appAt, hr]
    exact ⟨L, 0, C, 0, rfl, Nat.le_refl _⟩
  · rintro done x rest e s ⟨x2, sto, d1, rfl⟩
    have hd : done.length < 9 := by
      have := congrArg List.length e
      simp at this; omega
    obtain ⟨s2, r1, r2⟩ := w_right d1 (by omega) (m := 59) (by omega)
    simp [start, O.isD, O.flat, isInst, isTy, tyNames, tyN, tyNs, anyN, O.toD, eqOk, D.plain, D.depth, D.eqv, D.flat, E.place, E.quiet, E.quiet.go, E.quietO, stEs, stE, asgT, cxK_own, cxK_cel, cxK_call, cxK_make, bindT.go, Tg.slots, Tg.slots.go, wipe, putBack, dOnly, ixN, bls_map, pures_map', pures_mapf, toDs_mapf, toDs_map', ints_map, E.keeps, isN, isL, modR, modPath, appAt, r1]
    exact Dr_mono r2 (by omega)
  · rintro s ⟨x2, sto, d1, rfl⟩
    simp [start, O.isD, O.flat, isInst, isTy, tyNames, tyN, tyNs, anyN, O.toD, eqOk, D.plain, D.depth, D.eqv, D.flat, E.place, E.quiet, E.quiet.go, E.quietO, stEs, stE, asgT, cxK_own, cxK_cel, cxK_call, cxK_make, bindT.go, Tg.slots, Tg.slots.go, wipe, putBack, dOnly, ixN, bls_map, pures_map', pures_mapf, toDs_mapf, toDs_map', ints_map, E.keeps, isN, isL, modR, modPath, appAt]
end K48
end Py
end

section
set_option Elab.async false
set_option linter.all false
set_option maxRecDepth 100000
set_option maxHeartbeats 0
namespace PyS.K48
open PySem L2
theorem allC : pk.allC = true := by decide +kernel
theorem defs : ∀ f, f < pk.fn.length → pk.defC f = true := by decide +kernel
theorem bnd : BndAll pk := fun f => match f with
  | 0 => fun d e kV doc pm an cdv ct us hl => by cases e; exact match us, hl with | [_], _ => rfl
  | 1 => fun d e kV doc pm an cdv ct us hl => by cases e; exact match us, hl with | [_, _, _], _ => rfl
  | 2 => fun d e kV doc pm an cdv ct us hl => by cases e; exact match us, hl with | [_], _ => rfl
  | 3 => fun d e kV doc pm an cdv ct us hl => by cases e; exact match us, hl with | [_, _], _ => rfl
  | 4 => fun d e kV doc pm an cdv ct us hl => by cases e; exact match us, hl with | [_, _], _ => rfl
  | 5 => fun d e kV doc pm an cdv ct us hl => by cases e; exact match us, hl with | [_], _ => rfl
  | 6 => fun d e kV doc pm an cdv ct us hl => by cases e; exact match us, hl with | [_], _ => rfl
  | 7 => fun d e kV doc pm an cdv ct us hl => by cases e; exact match us, hl with | [_, _], _ => rfl
  | 8 => fun d e kV doc pm an cdv ct us hl => by cases e; exact match us, hl with | [_, _], _ => rfl
  | 9 => fun d e kV doc pm an cdv ct us hl => by cases e; exact match us, hl with | [_], _ => rfl
  | 10 => fun d e kV doc pm an cdv ct us hl => by cases e; exact match us, hl with | [_, _], _ => rfl
  | 11 => fun d e kV doc pm an cdv ct us hl => by cases e; exact match us, hl with | [_, _], _ => rfl
  | 12 => fun d e kV doc pm an cdv ct us hl => by cases e; exact match us, hl with | [_, _], _ => rfl
  | 13 => fun d e kV doc pm an cdv ct us hl => by cases e; exact match us, hl with | [_], _ => rfl
  | 14 => fun d e kV doc pm an cdv ct us hl => by cases e; exact match us, hl with | [_, _], _ => rfl
  | 15 => fun d e kV doc pm an cdv ct us hl => by cases e; exact match us, hl with | [_, _], _ => rfl
  | 16 => fun d e kV doc pm an cdv ct us hl => by cases e; exact match us, hl with | [_, _], _ => rfl
  | 17 => fun d e kV doc pm an cdv ct us hl => by cases e; exact match us, hl with | [_, _], _ => rfl
  | 18 => fun d e kV doc pm an cdv ct us hl => by cases e; exact match us, hl with | [_, _], _ => rfl
  | 19 => fun d e kV doc pm an cdv ct us hl => by cases e; exact match us, hl with | [_, _], _ => rfl
  | 20 => fun d e kV doc pm an cdv ct us hl => by cases e; exact match us, hl with | [_], _ => rfl
  | 21 => fun d e kV doc pm an cdv ct us hl => by cases e; exact match us, hl with | [_], _ => rfl
  | 22 => fun d e kV doc pm an cdv ct us hl => by cases e; exact match us, hl with | [_, _], _ => rfl
  | 23 => fun d e kV doc pm an cdv ct us hl => by cases e; exact match us, hl with | [_, _, _], _ => rfl
  | 24 => fun d e kV doc pm an cdv ct us hl => by cases e; exact match us, hl with | [_], _ => rfl
  | 25 => fun d e kV doc pm an cdv ct us hl => by cases e; exact match us, hl with | [_, _], _ => rfl
  | 26 => fun d e kV doc pm an cdv ct us hl => by cases e; exact match us, hl with | [_, _], _ => rfl
  | 27 => fun d e kV doc pm an cdv ct us hl => by cases e; exact match us, hl with | [_, _], _ => rfl
  | 28 => fun d e kV doc pm an cdv ct us hl => by cases e; exact match us, hl with | [_], _ => rfl
  | 29 => fun d e kV doc pm an cdv ct us hl => by cases e; exact match us, hl with | [_, _], _ => rfl
  | 30 => fun d e kV doc pm an cdv ct us hl => by cases e; exact match us, hl with | [_, _, _], _ => rfl
  | 31 => fun d e kV doc pm an cdv ct us hl => by cases e; exact match us, hl with | [_, _, _], _ => rfl
  | 32 => fun d e kV doc pm an cdv ct us hl => by cases e; exact match us, hl with | [_], _ => rfl
  | 33 => fun d e kV doc pm an cdv ct us hl => by cases e; exact match us, hl with | [_, _, _], _ => rfl
  | 34 => fun d e kV doc pm an cdv ct us hl => by cases e; exact match us, hl with | [_, _], _ => rfl
  | 35 => fun d e kV doc pm an cdv ct us hl => by cases e; exact match us, hl with | [_, _, _, _, _], _ => rfl
  | 36 => fun d e kV doc pm an cdv ct us hl => by cases e; exact match us, hl with | [_, _], _ => rfl
  | 37 => fun d e kV doc pm an cdv ct us hl => by cases e; exact match us, hl with | [_, _, _, _], _ => rfl
  | 38 => fun d e kV doc pm an cdv ct us hl => by cases e; exact match us, hl with | [_, _, _, _], _ => rfl
  | 39 => fun d e kV doc pm an cdv ct us hl => by cases e; exact match us, hl with | [_], _ => rfl
  | 40 => fun d e kV doc pm an cdv ct us hl => by cases e; exact match us, hl with | [_, _, _, _], _ => rfl
  | 41 => fun d e kV doc pm an cdv ct us hl => by cases e; exact match us, hl with | [_, _, _, _], _ => rfl
  | 42 => fun d e kV doc pm an cdv ct us hl => by cases e; exact match us, hl with | [_, _, _, _, _], _ => rfl
  | 43 => fun d e kV doc pm an cdv ct us hl => by cases e; exact match us, hl with | [_], _ => rfl
  | 44 => fun d e kV doc pm an cdv ct us hl => by cases e; exact match us, hl with | [_], _ => rfl
  | 45 => fun d e kV doc pm an cdv ct us hl => by cases e; exact match us, hl with | [_, _], _ => rfl
  | 46 => fun d e kV doc pm an cdv ct us hl => by cases e; exact match us, hl with | [_, _], _ => rfl
  | 47 => fun d e kV doc pm an cdv ct us hl => by cases e; exact match us, hl with | [_, _], _ => rfl
  | 48 => fun d e kV doc pm an cdv ct us hl => by cases e; exact match us, hl with | [_, _], _ => rfl
  | 49 => fun d e kV doc pm an cdv ct us hl => by cases e; exact match us, hl with | [_, _], _ => rfl
  | 50 => fun d e kV doc pm an cdv ct us hl => by cases e; exact match us, hl with | [_, _], _ => rfl
  | 51 => fun d e kV doc pm an cdv ct us hl => by cases e; exact match us, hl with | [_], _ => rfl
  | 52 => fun d e kV doc pm an cdv ct us hl => by cases e; exact match us, hl with | [_, _], _ => rfl
  | 53 => fun d e kV doc pm an cdv ct us hl => by cases e; exact match us, hl with | [_, _], _ => rfl
  | 54 => fun d e kV doc pm an cdv ct us hl => by cases e; exact match us, hl with | [_, _], _ => rfl
  | 55 => fun d e kV doc pm an cdv ct us hl => by cases e; exact match us, hl with | [_, _], _ => rfl
  | 56 => fun d e kV doc pm an cdv ct us hl => by cases e; exact match us, hl with | [_, _], _ => rfl
  | 57 => fun d e kV doc pm an cdv ct us hl => by cases e; exact match us, hl with | [_, _], _ => rfl
  | 58 => fun d e kV doc pm an cdv ct us hl => by cases e; exact match us, hl with | [_], _ => rfl
  | 59 => fun d e kV doc pm an cdv ct us hl => by cases e; exact match us, hl with | [_], _ => rfl
  | 60 => fun d e kV doc pm an cdv ct us hl => by cases e; exact match us, hl with | [_, _], _ => rfl
  | 61 => fun d e kV doc pm an cdv ct us hl => by cases e; exact match us, hl with | [_, _], _ => rfl
  | 62 => fun d e kV doc pm an cdv ct us hl => by cases e; exact match us, hl with | [_, _], _ => rfl
  | 63 => fun d e kV doc pm an cdv ct us hl => by cases e; exact match us, hl with | [_], _ => rfl
  | 64 => fun d e kV doc pm an cdv ct us hl => by cases e; exact match us, hl with | [_, _], _ => rfl
  | 65 => fun d e kV doc pm an cdv ct us hl => by cases e; exact match us, hl with | [_, _, _], _ => rfl
  | 66 => fun d e kV doc pm an cdv ct us hl => by cases e; exact match us, hl with | [_, _, _, _, _], _ => rfl
  | 67 => fun d e kV doc pm an cdv ct us hl => by cases e; exact match us, hl with | [_, _], _ => rfl
  | 68 => fun d e kV doc pm an cdv ct us hl => by cases e; exact match us, hl with | [_], _ => rfl
  | 69 => fun d e kV doc pm an cdv ct us hl => by cases e; exact match us, hl with | [_], _ => rfl
  | _ + 70 => fun d e => by cases e
theorem kwb : KwAll pk := by
  intro p hp d e
  simp only [pk, G, kws, List.mem_cons, List.not_mem_nil, or_false] at hp
  rcases hp with rfl
  · cases e
    exact ⟨rfl, fun kV doc pm an cdv ct us ws h1 h2 => match us, ws, h1, h2 with | [], [_, _, _, _, _], _, _ => rfl⟩
end PyS.K48
end

set_option Elab.async false
set_option linter.all false
set_option maxRecDepth 100000
set_option maxHeartbeats 0
open PySem PySem.W PySem.Calls PyProof.Rows
theorem PySem.Challenge.cw_bestatall_k48_whole_only_one_meeting_holds : PySem.Challenge.rw_bestatall_k48_whole_only_one_meeting.Holds := by
  w_on; o_law
  refine HandSHeadRun.head_any (r := OpenLaw.row PySem.Challenge.rw_bestatall_k48_whole_only_one_meeting) (q := view PyS.K48.R.prog [87]) (H := PyS.K48.hk) (ob := PyS.K48.ob) (M := 20000) (loose := PyS.K48.loose) (d := HandSHeadRun.topDef PyS.K48.R.prog 87) (kwd := []) PyS.K48.ob_eq
    (by kernel_rfl) (fun s => by kernel_rfl) PyS.K48.run (by kernel_rfl) (by kernel_rfl) (by kernel_rfl) (by rfl) (by first | assumption | decide +kernel) (by decide +kernel) ⟨rfl, rfl, rfl, rfl, rfl, by decide +kernel⟩ ?hw ?hc
  case hw => w_witness2
  case hc =>
    exact PyS.law_walk (l := PySem.Challenge.rw_bestatall_k48_whole_only_one_meeting) (k := PyS.K48.pk) (n := 63) (f := 69) (m := 60) rfl (by decide) (by kernel_rfl) (by decide) ⟨rfl, by decide, by decide⟩ (by kernel_rfl) PyS.K48.allC rfl PyS.K48.defs PyS.K48.bnd PyS.K48.kwb rfl rfl (by decide +kernel) rfl rfl (by decide +kernel) Py.K48.plain
