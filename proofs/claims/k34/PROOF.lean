import PyProof.Rows.All
import Wide.All
import OpenK.AllK
import Wide.FinOn
import HandS.HeadHook4
import HandS.Head2
import Lean
import KE.KStateDown
import HandS.Head0
import HandS.Head1
import HandS.HeadEnd
import PyProof.EqAt
import PyProof.EqKinds
import PyProof.TupleCall
import HandS.Base
import HandS.Call
import HandS.List
import HandS.Comp
import HandS.Ends
import HandS.Dict
import HandS.Iter
import HandS.Words
import HandS.WordsList
import HandS.Flow
import HandS.Style
import HandS.Wide
import HandS.IsInst
import HandS.Defaults
import HandS.Star
import HandS.Zip
import HandS.Conv
import HandS.TupAny
import HandS.TupMul
import HandS.Lambda
import HandS.ExcIs
import KE.KTupSum
import KE.DatumOrd
import KE.GoesZip
import KE.GoesMore
import KE.GoesEnum
import KE.KDictZip
import HandS.Small
import HandS.ExcOwn
import HandS.TryOnly
import HandS.SortInts
import HandS.HeadHook2
import HandS.HeadWalk
import PySem.Challenge.RW_bestatall_k34_whole_stacks_popped_in_any
section
/-! Core: a small Python on plain data. D data, O objects owned by one name, E expressions, S statements, ev and ex what they do. -/
namespace Py

/-- data: what never changes any more -/
inductive D where
  | non
  | bl (b : Bool)
  | int (i : Int)
  | str (s : List Nat)
  | ty (n : String)
  | tup (l : List D)
  | lst (l : List D)
  | dic (l : List (D × D))
  | ins (c : Nat) (l : List (Nat × D))
  | fn (f : Nat)
  | cls (c : Nat)
  | cell (n : Nat)
  /-- the list that the law is given -/
  | scr (l : List D)
  /-- an error of the class q, held as a value -/
  | exn (q : Nat)
  /-- a table of code objects -/
  | tab (k : Nat)

/-- an object that one name alone holds -/
inductive O where
  | d (x : D)
  | lst (l : List O)
  | dic (l : List (D × O))
  | ins (c : Nat) (l : List (Nat × O))
  | tab (k : Nat)

mutual
/-- Python's == -/
def D.eqv : D → D → Bool
  | .non, .non => true
  | .bl a, .bl b => a == b
  | .bl a, .int j => (if a then 1 else 0) == j
  | .int i, .bl b => i == (if b then 1 else 0)
  | .int i, .int j => i == j
  | .str x, .str y => x == y
  | .tup x, .tup y => D.eqvs x y
  | .lst x, .lst y => D.eqvs x y
  | _, _ => false
def D.eqvs : List D → List D → Bool
  | [], [] => true
  | x :: xs, y :: ys => D.eqv x y && D.eqvs xs ys
  | _, _ => false
end
mutual
/-- data that == may look at; texts are short -/
def D.plain : D → Bool
  | .non | .bl _ | .int _ => true
  | .str s => decide (s.length ≤ 1000) && s.all (· < 0x110000)
  | .tup l | .lst l => D.plains l
  | _ => false
def D.plains : List D → Bool
  | [] => true
  | x :: xs => D.plain x && D.plains xs
end
mutual
def D.depth : D → Nat
  | .tup l | .lst l => D.depths l + 1
  | _ => 0
def D.depths : List D → Nat
  | [] => 0
  | x :: xs => max (D.depth x) (D.depths xs)
end
mutual
/-- an owned object, as the data that it is from now on -/
def O.toD : O → D
  | .d x => x
  | .lst l => .lst (O.toDs l)
  | .dic l => .dic (O.toKs l)
  | .ins c l => .ins c (O.toFs l)
  | .tab k => .tab k
def O.toDs : List O → List D
  | [] => []
  | x :: xs => O.toD x :: O.toDs xs
def O.toKs : List (D × O) → List (D × D)
  | [] => []
  | (k, x) :: xs => (k, O.toD x) :: O.toKs xs
def O.toFs : List (Nat × O) → List (Nat × D)
  | [] => []
  | (k, x) :: xs => (k, O.toD x) :: O.toFs xs
end
/-- pure items -/
def O.pures : List O → Option (List D)
  | [] => some []
  | .d x :: xs => (O.pures xs).map (x :: ·)
  | _ :: _ => none
def O.pureKs : List (D × O) → Option (List (D × D))
  | [] => some []
  | (k, .d x) :: xs => (O.pureKs xs).map ((k, x) :: ·)
  | _ :: _ => none
/-- what is seen of an object without an owned object in it -/
def O.flat : O → Option D
  | .d x => some x
  | .lst l => (O.pures l).map .lst
  | .dic l => (O.pureKs l).map .dic
  | .ins _ _ => none
  | .tab _ => none

inductive Bop where | add | sub | mul | fdiv | mod | pow
  deriving DecidableEq
inductive Cop where | eq | ne | lt | le | gt | ge | isin | notin | is | isnot
  deriving DecidableEq
inductive Bi where
  | len | abs | int | list | tuple | sorted | sum | all | any | min | max | isinst | dict | setlist
  deriving DecidableEq
/-- iterables, and methods that change nothing -/
inductive Itk where | zip | enum | range | keys | values | items | rev
  deriving DecidableEq
inductive Bm where | index | get | count
  deriving DecidableEq
inductive Tg where
  | nm (i : Nat)
  | tup (l : List Tg)

inductive E where
  | var (i : Nat)
  | mv (i : Nat)
  | keep (e : E)
  | con (d : D)
  | tup (es : List E)
  | lst (es : List E)
  | star (e : E)
  | dict (kvs : List E)
  | bin (op : Bop) (a b : E)
  | neg (a : E)
  | not (a : E)
  | and (a b : E)
  | or (a b : E)
  | cmp (op : Cop) (a b : E)
  | chain (op op' : Cop) (a b c : E)
  | ife (c a b : E)
  | idx (a i : E)
  | slc (a : E) (lo hi : Option E)
  | attr (a : E) (f : Nat)
  | call (f : Nat) (es : List E)
  | calk (f : Nat) (pm : List Nat) (es : List E)
  | calv (i : Nat) (es : List E)
  | mk (c : Nat) (es : List E)
  | bi (b : Bi) (es : List E)
  | bm (b : Bm) (a : E) (es : List E)
  | bit (b : Bi) (k : Itk) (es : List E)
  | pop (p : E) (es : List E)
  | lc (tg : Tg) (k : Option Itk) (es : List E) (cs : List E) (el : E)
  /-- the error that a call raises, none if it raises none; n: where the def's table lies, k: which def's -/
  | caught (n k : Nat) (e : E)
  | stuck

inductive S where
  | asg (tg : Tg) (e : E)
  | par (is : List Nat) (es : List E)
  | set (p k e : E)
  | setA (i f : Nat) (e : E)
  | aug (i : Nat) (op : Bop) (e : E)
  | augS (p k : E) (op : Bop) (e : E)
  | app (p e : E)
  | ex (e : E)
  | ret (e : E)
  | ite (c : E) (a b : List S)
  | for_ (tg : Tg) (k : Option Itk) (es : List E) (b : List S)
  | whl (c : E) (b : List S)
  | cont | brk | pass | stuck
  /-- raise an error of the class q -/
  | raise (q : Nat)
  /-- a call that may raise -/
  | exX (f : Nat) (es : List E)

structure St where
  env : List (Option O)
  sto : List O

/-- where a statement ends -/
inductive Out where
  | nx | cont | brk
  | ret (o : O)
  | exc (q : Nat)

/-! ### values -/
@[irreducible] def lineA : Nat := 2 ^ 400000
@[irreducible] def lineB : Nat := 2 ^ 9000
def lineC : Nat := 2 ^ 24
def mulOk (i j : Int) : Bool := decide (i.natAbs < lineA) && decide (j.natAbs < lineA)
def divOk (j : Int) : Bool := decide (j ≠ 0) && decide (j.natAbs < lineB)
def lenOk (n : Nat) : Bool := decide (n ≤ lineC)
def bop : Bop → D → D → Option O
  | .add, .int i, .int j => some (.d (.int (i + j)))
  | .sub, .int i, .int j => some (.d (.int (i - j)))
  | .mul, .int i, .int j => if mulOk i j then some (.d (.int (i * j))) else none
  | .fdiv, .int i, .int j => if divOk j then some (.d (.int (i.fdiv j))) else none
  | .mod, .int i, .int j => if j = 0 then none else some (.d (.int (i.fmod j)))
  | .pow, .int i, .int j => if decide (0 ≤ j) && decide (j ≤ 1000) && decide (i.natAbs < 2 ^ 64) then some (.d (.int (i ^ j.toNat))) else none
  | .add, .lst a, .lst b => if lenOk (a.length + b.length) then some (.lst ((a ++ b).map .d)) else none
  | .add, .tup a, .tup b => if lenOk (a.length + b.length) then some (.d (.tup (a ++ b))) else none
  | .mul, .lst a, .int k => if decide (0 ≤ k) && lenOk k.toNat && lenOk (a.length * k.toNat) then some (.lst ((List.replicate k.toNat a).flatten.map .d)) else none
  | .mul, .tup a, .int k => if decide (1 ≤ k) && decide (k ≤ 1000) && decide (a.length ≤ 1000) && !a.isEmpty then some (.d (.tup (List.replicate k.toNat a).flatten)) else none
  | _, _, _ => none
def D.flat : D → Bool
  | .non | .bl _ | .int _ | .str _ => true
  | _ => false
def eqOk (a b : D) : Bool := a.plain && b.plain && decide (a.depth ≤ 64) && decide (b.depth ≤ 64)
def keyOf (k : D) : Bool := match k with
  | .int _ | .str _ => true
  | _ => false
def dget (k : D) : List (D × D) → Option D
  | [] => none
  | (k', x) :: r => if D.eqv k' k then some x else dget k r
def cop : Cop → D → D → Option Bool
  | .eq, a, b => if eqOk a b then some (D.eqv a b) else none
  | .ne, a, b => if eqOk a b then some (!D.eqv a b) else none
  | .lt, .int i, .int j => some (decide (i < j))
  | .le, .int i, .int j => some (decide (i ≤ j))
  | .gt, .int i, .int j => some (decide (j < i))
  | .ge, .int i, .int j => some (decide (j ≤ i))
  | .isin, x, .lst l => if x.flat && l.all D.flat then some (l.any fun y => D.eqv y x) else none
  | .isin, x, .tup l => if x.flat && l.all D.flat then some (l.any fun y => D.eqv y x) else none
  | .isin, x, .dic l => if keyOf x then some (dget x l).isSome else none
  | .notin, x, .lst l => if x.flat && l.all D.flat then some (!l.any fun y => D.eqv y x) else none
  | .notin, x, .tup l => if x.flat && l.all D.flat then some (!l.any fun y => D.eqv y x) else none
  | .notin, x, .dic l => if keyOf x then some !(dget x l).isSome else none
  | .is, .non, .non => some true
  | .is, .bl a, .bl b => some (a == b)
  | .is, _, .non => some false
  | .isnot, .non, .non => some false
  | .isnot, .bl a, .bl b => some (!(a == b))
  | .isnot, _, .non => some true
  | _, _, _ => none
/-- the place of an index -/
def ixN (n : Nat) (i : Int) : Option Nat := if 0 ≤ i then (if i < n then some i.toNat else none) else if -(n : Int) ≤ i then some (i + n).toNat else none
def sIx (n d : Nat) : Option Int → Nat
  | none => d
  | some i => if i < 0 then (i + (n : Int)).toNat else min i.toNat n
def cut {α : Type} (xs : List α) (lo hi : Option Int) : List α := (xs.drop (sIx xs.length 0 lo)).take (sIx xs.length xs.length hi - sIx xs.length 0 lo)
/-- one item, in place -/
def item : O → D → Option O
  | .d (.lst l), .int i => ((ixN l.length i).bind (l[·]?)).map .d
  | .d (.tup l), .int i => ((ixN l.length i).bind (l[·]?)).map .d
  | .d (.dic l), k => if keyOf k then (dget k l).map .d else none
  | .lst l, .int i => (ixN l.length i).bind (l[·]?)
  | .dic l, k => if keyOf k then (l.find? fun p => D.eqv p.1 k).map (·.2) else none
  | _, _ => none
/-- a built-in value's class -/
def tyN : D → Option String
  | .non => some "NoneType"
  | .bl _ => some "bool"
  | .int _ => some "int"
  | .str _ => some "str"
  | .tup _ => some "tuple"
  | .lst _ => some "list"
  | .dic _ => some "dict"
  | _ => none
def tyNames : List String := ["int", "bool", "str", "tuple", "list", "dict"]
def isTy (n : String) (d : D) : Option Bool := if n ∈ tyNames then (match d with
  | .ins _ _ => some false
  | d => match tyN d with
    | some a => some (a == n || (a == "bool" && n == "int"))
    | none => none) else none
def tyNs : List D → Option (List String)
  | [] => some []
  | .ty n :: r => (tyNs r).map (n :: ·)
  | _ :: _ => none
def anyN (x : D) : List String → Option Bool
  | [] => some false
  | n :: r => match isTy n x with
    | some true => some true
    | some false => anyN x r
    | none => none
def isInst (x : D) : D → Option Bool
  | .ty n => isTy n x
  | .cls c => match x with
    | .ins c' _ => some (c' == c)
    | .exn q => some (q == c)
    | d => (tyN d).map fun _ => false
  | .tup l => match tyNs l with
    | some (n :: ns) => anyN x (n :: ns)
    | _ => none
  | _ => none
def intsD : List D → Option (List Int)
  | [] => some []
  | .int i :: r => (intsD r).map (i :: ·)
  | _ => none
def bls : List D → Option (List Bool)
  | [] => some []
  | .bl i :: r => (bls r).map (i :: ·)
  | _ => none
def insort (x : Int) : List Int → List Int
  | [] => [x]
  | y :: r => if x ≤ y then x :: y :: r else y :: insort x r
def isort : List Int → List Int
  | [] => []
  | x :: r => insort x (isort r)
def bi : Bi → List D → Option O
  | .len, [.lst l] => some (.d (.int l.length))
  | .len, [.tup l] => some (.d (.int l.length))
  | .len, [.scr l] => some (.d (.int l.length))
  | .abs, [.int i] => some (.d (.int i.natAbs))
  | .int, [.int i] => some (.d (.int i))
  | .int, [.bl b] => some (.d (.int (if b then 1 else 0)))
  | .list, [.lst l] => some (.lst (l.map .d))
  | .list, [.tup l] => some (.lst (l.map .d))
  | .tuple, [.lst l] => some (.d (.tup l))
  | .tuple, [.tup l] => some (.d (.tup l))
  | .sorted, [.lst l] => (intsD l).bind fun ns => if ns.length < 64 then some (.lst ((isort ns).map fun i => .d (.int i))) else none
  | .sorted, [.tup l] => (intsD l).bind fun ns => if ns.length < 64 then some (.lst ((isort ns).map fun i => .d (.int i))) else none
  | .sum, [.lst l] => (intsD l).map fun ns => .d (.int ns.sum)
  | .sum, [.tup l] => (intsD l).map fun ns => .d (.int ns.sum)
  | .all, [.lst l] => (bls l).map fun bs => .d (.bl (bs.all id))
  | .any, [.lst l] => (bls l).map fun bs => .d (.bl (bs.any id))
  | .min, [.int i, .int j] => some (.d (.int (if j < i then j else i)))
  | .max, [.int i, .int j] => some (.d (.int (if i < j then j else i)))
  | .min, [.lst l] => (intsD l).bind fun ns => match ns with
    | [] => none
    | n :: r => some (.d (.int (r.foldl min n)))
  | .min, [.tup l] => (intsD l).bind fun ns => match ns with
    | [] => none
    | n :: r => some (.d (.int (r.foldl min n)))
  | .max, [.lst l] => (intsD l).bind fun ns => match ns with
    | [] => none
    | n :: r => some (.d (.int (r.foldl max n)))
  | .max, [.tup l] => (intsD l).bind fun ns => match ns with
    | [] => none
    | n :: r => some (.d (.int (r.foldl max n)))
  | .isinst, [x, t] => (isInst x t).map fun b => .d (.bl b)
  | _, _ => none
/-- what an iterable yields -/
def seqOf : D → Option (List D)
  | .lst l => some l
  | .tup l => some l
  | .scr l => some l
  | _ => none
def rangeL (a b : Int) : List D := (List.range (b - a).toNat).map fun (k : Nat) => .int (a + (k : Int))
def itk : Itk → List D → Option (List D)
  | .range, [.int n] => if decide (-(2 : Int) ^ 62 ≤ n) && decide (n < 2 ^ 62) then some (rangeL 0 n) else none
  | .range, [.int a, .int b] => if decide (-(2 : Int) ^ 62 ≤ a) && decide (a < 2 ^ 62) && decide (-(2 : Int) ^ 62 ≤ b) && decide (b < 2 ^ 62) then some (rangeL a b) else none
  | .zip, [a, b] => (seqOf a).bind fun x => (seqOf b).map fun y => (x.zip y).map fun p => .tup [p.1, p.2]
  | .enum, [a] => (seqOf a).map fun x => (x.zipIdx).map fun p => .tup [.int (p.2 : Int), p.1]
  | _, _ => none
def attrOf (f : Nat) (d : D) : Option D := match d with
  | .ins _ l => l.lookup f
  | _ => none
def Tg.slots : Tg → List Nat
  | .nm i => [i]
  | .tup l => go l
where go : List Tg → List Nat
  | [] => []
  | t :: r => t.slots ++ go r
/-- a target's names get what stands there -/
def bindT : Tg → D → List (Option O) → Option (List (Option O))
  | .nm i, x, env => some (env.set i (some (.d x)))
  | .tup l, .tup xs, env => go l xs env
  | _, _, _ => none
where go : List Tg → List D → List (Option O) → Option (List (Option O))
  | [], [], env => some env
  | t :: ts, x :: xs, env => (bindT t x env).bind (go ts xs)
  | _, _, _ => none
def wipe (env : List (Option O)) : List Nat → List (Option O)
  | [] => env
  | i :: r => (wipe env r).set i none
/-- what a name holds, if it is data -/
def dOnly (old : List (Option O)) (i : Nat) : Option O := match old[i]? with
  | some (some (.d x)) => some (.d x)
  | _ => none
def putBack (env old : List (Option O)) : List Nat → List (Option O)
  | [] => env
  | i :: r => (putBack env old r).set i (dOnly old i)

/-! ### the interpreter -/
/-- the turns of a comprehension: f the item, the state -> what is kept (none: left out), the state behind -/
def lcLoop (f : D → St → Option (Option D × St)) : List D → List D → St → Option (List D × St)
  | [], acc, s => some (acc.reverse, s)
  | x :: xs, acc, s => match f x s with
    | none => none
    | some (none, s') => lcLoop f xs acc s'
    | some (some y, s') => lcLoop f xs (y :: acc) s'
/-- the turns of a for -/
def forLoop (f : D → St → Option (Out × St)) : List D → St → Option (Out × St)
  | [], s => some (.nx, s)
  | x :: xs, s => match f x s with
    | none => none
    | some (.nx, s') => forLoop f xs s'
    | some (.cont, s') => forLoop f xs s'
    | some (.brk, s') => some (.nx, s')
    | some (.ret o, s') => some (.ret o, s')
    | some (.exc q, s') => some (.exc q, s')

/-- a name, or a part of what it holds -/
def E.place : E → Bool
  | .var _ | .idx _ _ | .attr _ _ => true
  | _ => false
/-- what stays owned in a display -/
def E.keeps : E → Bool
  | .mv _ | .keep _ => true
  | _ => false

structure Cx where
  call : Nat → List D → List O → Option (O × List O)
  make : Nat → List D → List O → Option (List (Nat × D) × List O)
  lp : (St → Option (St ⊕ (Out × St))) → St → Option (Out × St)
  own : List Nat
  cel : List Nat
  /-- a call that may raise: the error's class, none if it ends -/
  callX : Nat → List D → List O → Option (Option Nat × List O)

/-- changes nothing but by calls and freezing: what was seen stays -/
def E.quiet : E → Bool
  | .var _ | .con _ => true
  | .bin _ a b => a.quiet && b.quiet
  | .idx a b => a.quiet && b.quiet
  | .neg a => a.quiet
  | .attr a _ => a.quiet
  | .bi _ es => go es
  | .bit _ _ es => go es
  | .tup es => go es
  | .lst es => go es
  | .not a => a.quiet
  | .cmp _ a b => a.quiet && b.quiet
  | .and a b => a.quiet && b.quiet
  | .or a b => a.quiet && b.quiet
  | _ => false
where go : List E → Bool
  | [] => true
  | e :: r => e.quiet && go r
def E.quietO : Option E → Bool
  | none => true
  | some e => e.quiet
def O.isD : O → Bool
  | .d _ => true
  | _ => false

/-- what a walk over es yields: of one thing itself, of several by k -/
def yields (k : Option Itk) (ds : List D) : Option (List D) := match k, ds with
  | none, [d] => seqOf d
  | none, _ => none
  | some k, ds => itk k ds
def bit (b : Bi) (l : List D) : Option O := match b with
  | .list => if lenOk l.length then some (.lst (l.map .d)) else none
  | _ => none

/-! ### owned objects changed in place -/
def putKs (k : D) (x : O) (l : List (D × O)) : List (D × O) :=
  if (l.any fun p => D.eqv p.1 k) = true then l.map fun p => if D.eqv p.1 k = true then (p.1, x) else p else l ++ [(k, x)]
/-- the first at k -/
def replK (k : D) (x : O) : List (D × O) → List (D × O)
  | [] => []
  | (k', y) :: r => if D.eqv k' k then (k', x) :: r else (k', y) :: replK k x r
/-- the item at a key changed by f -/
def modAt {α : Type} (k : D) (f : O → Option (O × α)) : O → Option (O × α)
  | .lst l => match k with
    | .int i => match ixN l.length i with
      | some j => match l[j]? with
        | some o => (f o).map fun r => (.lst (l.set j r.1), r.2)
        | none => none
      | none => none
    | _ => none
  | .dic l => if keyOf k then match l.find? fun p => D.eqv p.1 k with
      | some (_, o) => (f o).map fun r => (.dic (replK k r.1 l), r.2)
      | none => none else none
  | _ => none
def modPath {α : Type} (f : O → Option (O × α)) : List D → O → Option (O × α)
  | [], o => f o
  | k :: ks, o => modAt k (modPath f ks) o
/-- what name i holds (a cell's content, if it is one) changed by f -/
def modR {α : Type} (i : Nat) (ks : List D) (f : O → Option (O × α)) (s : St) : Option (α × St) := match s.env[i]? with
  | some (some (.d (.cell n))) => match s.sto[n]? with
    | some o => (modPath f ks o).map fun r => (r.2, { s with sto := s.sto.set n r.1 })
    | none => none
  | some (some o) => (modPath f ks o).map fun r => (r.2, { s with env := s.env.set i (some r.1) })
  | _ => none
def popAt (ds : List D) : O → Option (O × O)
  | .lst l => match ds with
    | [] => match l[l.length - 1]? with
      | some (.d x) => some (.lst l.dropLast, .d x)
      | _ => none
    | [.int k] => match ixN l.length k with
      | some j => match l[j]? with
        | some (.d x) => if (O.pures l).isNone || !(decide (-(2 : Int) ^ 62 ≤ k) && decide (k < 2 ^ 62)) then none else some (.lst (l.eraseIdx j), .d x)
        | _ => none
      | none => none
    | _ => none
  | _ => none
def appAt (x : O) : O → Option (O × Unit)
  | .lst l => if lenOk (l.length + 1) then some (.lst (l ++ [x]), ()) else none
  | _ => none
def setAt (k : D) (x : O) : O → Option (O × Unit)
  | .lst l => match k with
    | .int i => match ixN l.length i with
      | some j => some (.lst (l.set j x), ())
      | none => none
    | _ => none
  | .dic l => if keyOf k && lenOk (l.length + 1) then some (.dic (putKs k x l), ()) else none
  | _ => none

/-- the keys of a display: texts and intsD, no two alike, few -/
def keysOk : List (D × O) → Bool
  | [] => true
  | (k, _) :: r => keyOf k && !(r.any fun p => D.eqv p.1 k) && keysOk r && decide (r.length < 15)
/-- name i holds a list of its own -/
def isL (i : Nat) (s : St) : Bool := match s.env[i]? with
  | some (some (.lst _)) => true
  | some (some (.d (.cell n))) => (match s.sto[n]? with
    | some (.lst _) => true
    | _ => false)
  | _ => false
def isN (i : Nat) (s : St) : Bool := match s.env[i]? with
  | some (some _) => true
  | _ => false
def E.isCon : E → Bool
  | .con _ => true
  | _ => false
section
variable (c : Cx)
mutual
/-- e's value; m: seen in place -/
def ev (m : Bool) : E → St → Option (O × St)
  | .var i, s => match s.env[i]? with
    | some (some o) => if m then (match o with
        | .d (.cell n) => (s.sto[n]?).map fun o => (o, s)
        | o => some (o, s)) else some (.d o.toD, { s with env := s.env.set i (some (.d o.toD)) })
    | _ => none
  | .mv i, s => match s.env[i]? with
    | some (some o) => some (o, { s with env := s.env.set i none })
    | _ => none
  | .keep e, s => ev false e s
  | .con d, s => some (.d d, s)
  | .tup es, s => match evs es s with
    | some (ds, s1) => if lenOk ds.length then some (.d (.tup ds), s1) else none
    | none => none
  | .lst es, s => match evs es s with
    | some (ds, s1) => if lenOk ds.length then some (.lst (ds.map .d), s1) else none
    | none => none
  | .dict kvs, s => match evKs kvs s with
    | some (l, s1) => if keysOk l then some (.dic l, s1) else none
    | none => none
  | .bin op a b, s => match ev true a s with
    | some (oa, s1) => if oa.isD || b.quiet || !a.place then match ev true b s1 with
      | some (ob, s2) => match oa.flat, ob.flat with
        | some x, some y => (bop op x y).map fun o => (o, s2)
        | _, _ => none
      | none => none else none
    | none => none
  | .neg a, s => match ev false a s with
    | some (.d (.int i), s1) => some (.d (.int (-i)), s1)
    | _ => none
  | .not a, s => match ev false a s with
    | some (.d (.bl b), s1) => some (.d (.bl (!b)), s1)
    | _ => none
  | .and a b, s => match ev false a s with
    | some (.d (.bl true), s1) => match ev false b s1 with
      | some (.d (.bl z), s2) => some (.d (.bl z), s2)
      | _ => none
    | some (.d (.bl false), s1) => some (.d (.bl false), s1)
    | _ => none
  | .or a b, s => match ev false a s with
    | some (.d (.bl false), s1) => match ev false b s1 with
      | some (.d (.bl z), s2) => some (.d (.bl z), s2)
      | _ => none
    | some (.d (.bl true), s1) => some (.d (.bl true), s1)
    | _ => none
  | .cmp op a b, s => match ev true a s with
    | some (oa, s1) => if oa.isD || b.quiet || !a.place then match ev true b s1 with
      | some (ob, s2) => match oa.flat, ob.flat with
        | some x, some y => (cop op x y).map fun o => (.d (.bl o), s2)
        | _, _ => none
      | none => none else none
    | none => none
  | .chain op op' a b c', s => match ev false a s with
    | some (.d x, s1) => match ev false b s1 with
      | some (.d y, s2) => match cop op x y with
        | some true => match ev false c' s2 with
          | some (.d z, s3) => (cop op' y z).map fun o => (.d (.bl o), s3)
          | _ => none
        | some false => some (.d (.bl false), s2)
        | none => none
      | _ => none
    | _ => none
  | .ife t a b, s => match ev false t s with
    | some (.d (.bl true), s1) => ev false a s1
    | some (.d (.bl false), s1) => ev false b s1
    | _ => none
  | .idx a i, s => match ev true a s with
    | some (oa, s1) => if oa.isD || i.quiet || !a.place then match ev false i s1 with
      | some (.d k, s2) => match item oa k with
        | some o => if m || o.isD then some (o, s2) else none
        | none => none
      | _ => none else none
    | none => none
  | .slc a lo hi, s => match ev true a s with
    | some (oa, s1) => if oa.isD || (E.quietO lo && E.quietO hi) || !a.place then match evo lo s1 with
      | some (l, s2) => match evo hi s2 with
        | some (h, s3) => match oa.flat with
          | some (.lst xs) => some (.lst ((cut xs l h).map .d), s3)
          | some (.tup xs) => some (.d (.tup (cut xs l h)), s3)
          | _ => none
        | none => none
      | none => none else none
    | none => none
  | .attr a f, s => match ev true a s with
    | some (.d d, s1) => (attrOf f d).map fun x => (.d x, s1)
    | some (.ins _ l, s1) => match l.lookup f with
      | some o => if m || o.isD then some (o, s1) else none
      | none => none
    | _ => none
  | .call f es, s => match evs es s with
    | some (ds, s1) => match c.call f ds s1.sto with
      | some (o, sto) => some (o, { s1 with sto := sto })
      | none => none
    | none => none
  | .calk f pm es, s => match evs es s with
    | some (ds, s1) => match pm.mapM (ds[·]?) with
      | some as => match c.call f as s1.sto with
        | some (o, sto) => some (o, { s1 with sto := sto })
        | none => none
      | none => none
    | none => none
  | .calv i es, s => match s.env[i]? with
    | some (some (.d (.fn f))) => match evs es s with
      | some (ds, s1) => match c.call f ds s1.sto with
        | some (o, sto) => some (o, { s1 with sto := sto })
        | none => none
      | none => none
    | _ => none
  | .caught n k (.call f es), s => match s.sto[n]? with
    | some (.tab k') => if k' = k then match evs es s with
      | some (ds, s1) => match c.callX f ds s1.sto with
        | some (some q, sto) => some (.d (.exn q), { s1 with sto := sto })
        | some (none, sto) => some (.d .non, { s1 with sto := sto })
        | none => none
      | none => none else none
    | _ => none
  | .mk k es, s => match evs es s with
    | some (ds, s1) => match c.make k ds s1.sto with
      | some (l, sto) => some (.d (.ins k l), { s1 with sto := sto })
      | none => none
    | none => none
  | .bi b es, s => match evVs es s with
    | some (ds, s1) => (bi b ds).map fun o => (o, s1)
    | none => none
  | .bit b k es, s => match evs es s with
    | some (ds, s1) => match itk k ds with
      | some l => (bit b l).map fun o => (o, s1)
      | none => none
    | none => none
  | .pop p es, s => match evPath p s with
    | some (i, ks, s1) => if (ks.isEmpty && isL i s1) || es.all E.isCon then match evs es s1 with
      | some (ds, s2) => modR i ks (popAt ds) s2
      | none => none else none
    | none => none
  | .lc tg k es cs el, s => match evs es s with
    | some (ds, s1) => match yields k ds with
      | some xs => match lcLoop (fun x s => match bindT tg x (wipe s.env tg.slots) with
          | some env => match evT cs { s with env := env } with
            | some (true, s2) => match ev false el s2 with
              | some (o, s3) => some (some o.toD, s3)
              | none => none
            | some (false, s2) => some (none, s2)
            | none => none
          | none => none) xs [] s1 with
        | some (ys, s2) => if lenOk ys.length then some (.lst (ys.map .d), { s2 with env := putBack s2.env s1.env tg.slots }) else none
        | none => none
      | none => none
    | none => none
  | _, _ => none
/-- where a place that is changed lies: a name, and keys from there on -/
def evPath : E → St → Option (Nat × List D × St)
  | .var i, s => if isN i s then some (i, [], s) else none
  | .idx a k, s => match evPath a s with
    | some (i, ks, s1) => match ev false k s1 with
      | some (.d kd, s2) => some (i, ks ++ [kd], s2)
      | _ => none
    | none => none
  | _, _ => none
def evs : List E → St → Option (List D × St)
  | [], s => some ([], s)
  | .star e :: r, s => match ev false e s with
    | some (o, s1) => match seqOf o.toD with
      | some l => match evs r s1 with
        | some (ds, s2) => some (l ++ ds, s2)
        | none => none
      | none => none
    | none => none
  | e :: r, s => match ev false e s with
    | some (o, s1) => match evs r s1 with
      | some (ds, s2) => some (o.toD :: ds, s2)
      | none => none
    | none => none
def evVs : List E → St → Option (List D × St)
  | [], s => some ([], s)
  | e :: r, s => match ev true e s with
    | some (o, s1) => if o.isD || E.quiet.go r || !e.place then match evVs r s1 with
      | some (ds, s2) => (o.flat).map fun d => (d :: ds, s2)
      | none => none else none
    | none => none
def evKs : List E → St → Option (List (D × O) × St)
  | [], s => some ([], s)
  | k :: v :: r, s => match ev false k s with
    | some (.d kd, s1) => match ev false v s1 with
      | some (o, s2) => match evKs r s2 with
        | some (l, s3) => some ((kd, if v.keeps then o else .d o.toD) :: l, s3)
        | none => none
      | none => none
    | _ => none
  | _, _ => none
def evT : List E → St → Option (Bool × St)
  | [], s => some (true, s)
  | e :: r, s => match ev false e s with
    | some (.d (.bl true), s1) => evT r s1
    | some (.d (.bl false), s1) => some (false, s1)
    | _ => none
def evo : Option E → St → Option (Option Int × St)
  | none, s => some (none, s)
  | some e, s => match ev false e s with
    | some (.d (.int i), s1) => some (some i, s1)
    | _ => none
end

/-- name i gets o -/
def stE (i : Nat) (o : O) (s : St) : St :=
  if i ∈ c.cel then { env := s.env.set i (some (.d (.cell s.sto.length))), sto := s.sto ++ [o] }
  else if i ∈ c.own then { s with env := s.env.set i (some o) } else { s with env := s.env.set i (some (.d o.toD)) }
def asgT (tg : Tg) (o : O) (s : St) : Option St := match tg with
  | .nm i => if i ∈ c.cel ∧ o.isD = true then none else some (stE c i o s)
  | .tup _ => match o with
    | .d x => (bindT tg x s.env).map fun env => { s with env := env }
    | _ => none
/-- each to an owned value -/
def evOs : List E → St → Option (List O × St)
  | [], s => some ([], s)
  | e :: r, s => match ev c false e s with
    | some (o, s1) => match evOs r s1 with
      | some (os, s2) => some (o :: os, s2)
      | none => none
    | none => none
def stEs : List Nat → List O → St → Option St
  | [], [], s => some s
  | i :: is, o :: os, s => if i ∈ c.cel then none else stEs is os (stE c i o s)
  | _, _, _ => none
def putF (f : Nat) (x : O) : List (Nat × O) → List (Nat × O)
  | [] => [(f, x)]
  | (g, y) :: r => if g = f then (g, x) :: r else (g, y) :: putF f x r
mutual
def ex : S → St → Option (Out × St)
  | .asg tg e, s => match ev c false e s with
    | some (o, s1) => (asgT c tg o s1).map fun s2 => (.nx, s2)
    | none => none
  | .par is es, s => match evOs c es s with
    | some (os, s1) => (stEs c is os s1).map fun s2 => (.nx, s2)
    | none => none
  | .set p k e, s => match ev c false e s with
    | some (o, s1) => match evPath c p s1 with
      | some (i, ks, s2) => match ev c false k s2 with
        | some (.d kd, s3) => (modR i ks (setAt kd (.d o.toD)) s3).map fun r => (.nx, r.2)
        | _ => none
      | none => none
    | none => none
  | .setA i f e, s => match ev c false e s with
    | some (o, s1) => match s1.env[i]? with
      | some (some (.ins k l)) => if l.length < 100 then some (.nx, { s1 with env := s1.env.set i (some (.ins k (putF f (.d o.toD) l))) }) else none
      | _ => none
    | none => none
  | .aug i op e, s => match s.env[i]? with
    | some (some (.d x)) => match ev c false e s with
      | some (.d y, s1) => match bop op x y with
        | some (.d z) => some (.nx, { s1 with env := s1.env.set i (some (.d z)) })
        | _ => none
      | _ => none
    | _ => none
  | .augS p k op e, s => match evPath c p s with
    | some (i, ks, s1) => match ev c false k s1 with
      | some (.d kd, s2) => if e.quiet then match ev c false e s2 with
        | some (.d y, s3) => (modR i ks (modAt kd fun o => match o with
          | .d x => match bop op x y with
            | some (.d z) => some (.d z, ())
            | _ => none
          | _ => none) s3).map fun r => (.nx, r.2)
        | _ => none else none
      | _ => none
    | none => none
  | .app p e, s => match evPath c p s with
    | some (i, ks, s1) => if ks.isEmpty && isL i s1 then match ev c false e s1 with
      | some (o, s2) => (modR i ks (appAt (.d o.toD)) s2).map fun r => (.nx, r.2)
      | none => none else none
    | none => none
  | .ex e, s => match ev c false e s with
    | some (_, s1) => some (.nx, s1)
    | none => none
  | .ret e, s => match ev c false e s with
    | some (o, s1) => some (.ret o, s1)
    | none => none
  | .ite t a b, s => match ev c false t s with
    | some (.d (.bl true), s1) => exs a s1
    | some (.d (.bl false), s1) => exs b s1
    | _ => none
  | .for_ tg k es b, s => match evs c es s with
    | some (ds, s1) => match yields k ds with
      | some xs => forLoop (fun x s => match bindT tg x s.env with
          | some env => exs b { s with env := env }
          | none => none) xs s1
      | none => none
    | none => none
  | .whl t b, s => c.lp (fun s => match ev c false t s with
      | some (.d (.bl true), s1) => match exs b s1 with
        | some (.nx, s2) => some (.inl s2)
        | some (.cont, s2) => some (.inl s2)
        | some (.brk, s2) => some (.inr (.nx, s2))
        | some (.ret o, s2) => some (.inr (.ret o, s2))
        | some (.exc q, s2) => some (.inr (.exc q, s2))
        | none => none
      | some (.d (.bl false), s1) => some (.inr (.nx, s1))
      | _ => none) s
  | .cont, s => some (.cont, s)
  | .brk, s => some (.brk, s)
  | .pass, s => some (.nx, s)
  | .raise q, s => some (.exc q, s)
  | .exX f es, s => match evs c es s with
    | some (ds, s1) => match c.callX f ds s1.sto with
      | some (some q, sto) => some (.exc q, { s1 with sto := sto })
      | some (none, sto) => some (.nx, { s1 with sto := sto })
      | none => none
    | none => none
  | .stuck, _ => none
def exs : List S → St → Option (Out × St)
  | [], s => some (.nx, s)
  | x :: r, s => match ex x s with
    | some (.nx, s1) => exs r s1
    | some (o, s1) => some (o, s1)
    | none => none
end
end

/-! ### programs -/
structure Def where
  ar : Nat
  sl : Nat
  own : List Nat
  cel : List Nat
  body : List S
structure Prog where
  defs : List Def
  /-- the def of a class's __init__ -/
  ini : List (Nat × Nat)
def start (d : Def) (os : List O) : List (Option O) := os.map some ++ List.replicate (d.sl - os.length) none
section
variable (lp : (St → Option (St ⊕ (Out × St))) → St → Option (Out × St)) (P : Prog)
/-- a def's run, k calls deep at most -/
def callK : Nat → Nat → List O → List O → Option (Out × St)
  | 0, _, _, _ => none
  | k + 1, f, os, sto => match P.defs[f]? with
    | some d => if os.length = d.ar then
        exs ⟨fun g ds sto => match (callK k g (ds.map O.d) sto : Option (Out × St)) with
            | some (.ret o, s) => some (o, s.sto)
            | some (.nx, s) => some (.d .non, s.sto)
            | _ => none,
          fun q ds sto => match P.ini.lookup q with
            | some g => match (callK k g (O.ins q [] :: ds.map O.d) sto : Option (Out × St)) with
              | some (.nx, s) => match (s.env[0]? : Option (Option O)) with
                | some (some (.ins q' l)) => if q' = q then some (O.toFs l, s.sto) else none
                | _ => none
              | _ => none
            | none => none, lp, d.own, d.cel,
          fun g ds sto => match (callK k g (ds.map O.d) sto : Option (Out × St)) with
            | some (.ret _, s) => some (none, s.sto)
            | some (.nx, s) => some (none, s.sto)
            | some (.exc q, s) => some (some q, s.sto)
            | _ => none⟩ d.body ⟨start d os, sto⟩ else none
    | none => none
end
section
variable (lp : (St → Option (St ⊕ (Out × St))) → St → Option (Out × St)) (P : Prog)
/-- a call of a def, k deep -/
def callD (k : Nat) : Nat → List D → List O → Option (O × List O) := fun g ds sto => match (callK lp P k g (ds.map O.d) sto : Option (Out × St)) with
  | some (.ret o, s) => some (o, s.sto)
  | some (.nx, s) => some (.d .non, s.sto)
  | _ => none
def makeD (k : Nat) : Nat → List D → List O → Option (List (Nat × D) × List O) := fun q ds sto => match P.ini.lookup q with
  | some g => match (callK lp P k g (O.ins q [] :: ds.map O.d) sto : Option (Out × St)) with
    | some (.nx, s) => match (s.env[0]? : Option (Option O)) with
      | some (some (.ins q' l)) => if q' = q then some (O.toFs l, s.sto) else none
      | _ => none
    | _ => none
  | none => none
def callXD (k : Nat) : Nat → List D → List O → Option (Option Nat × List O) := fun g ds sto => match (callK lp P k g (ds.map O.d) sto : Option (Out × St)) with
  | some (.ret _, s) => some (none, s.sto)
  | some (.nx, s) => some (none, s.sto)
  | some (.exc q, s) => some (some q, s.sto)
  | _ => none
def cxK (k : Nat) (own cel : List Nat) : Cx := ⟨callD lp P k, makeD lp P k, lp, own, cel, callXD lp P k⟩
theorem callK_succ (k f : Nat) (os sto : List O) : callK lp P (k + 1) f os sto = match P.defs[f]? with
    | some d => if os.length = d.ar then exs (cxK lp P k d.own d.cel) d.body ⟨start d os, sto⟩ else none
    | none => none := rfl
end
/-- turns counted -/
def iter {α β : Type} (f : α → Option (α ⊕ β)) : Nat → α → Option β
  | 0, _ => none
  | n + 1, a => match f a with
    | none => none
    | some (.inl a') => iter f n a'
    | some (.inr b) => some b
open Classical in
/-- turns until it ends -/
noncomputable def loop {α β : Type} (f : α → Option (α ⊕ β)) (a : α) : Option β := if h : ∃ b, ∃ n, iter f n a = some b then some h.choose else none
end Py
end

section
namespace Py
namespace K34
/-- 0 is_number(thing): 0:thing -/
def d_is_number : Def := { ar := 1, sl := 1, own := [], cel := [], body :=
  [.ret (.and (.bi .isinst [.var 0, .con (.ty "int")]) (.not (.bi .isinst [.var 0, .con (.ty "bool")])))] }
/-- 1 is_between(thing, low, high): 0:thing 1:low 2:high -/
def d_is_between : Def := { ar := 3, sl := 3, own := [], cel := [], body :=
  [.ret (.and (.call 0 [.var 0]) (.chain .le .le (.var 1) (.var 0) (.var 2)))] }
/-- 2 is_list(thing): 0:thing -/
def d_is_list : Def := { ar := 1, sl := 1, own := [], cel := [], body :=
  [.ret (.bi .isinst [.var 0, .tup [.con (.ty "list"), .con (.ty "tuple")]])] }
/-- 3 need_many(many): 0:many -/
def d_need_many : Def := { ar := 1, sl := 1, own := [], cel := [], body :=
  [.ite (.not (.call 1 [.var 0, .con (.int 1), .con (.int 8)]))
  [.raise 1]
  []] }
/-- 4 is_index(thing, many): 0:thing 1:many -/
def d_is_index : Def := { ar := 2, sl := 2, own := [], cel := [], body :=
  [.ret (.call 1 [.var 0, .con (.int 0), .bin .sub (.var 1) (.con (.int 1))])] }
/-- 5 are_all(many, thing): 0:many 1:thing 2:item -/
def d_are_all : Def := { ar := 2, sl := 3, own := [], cel := [], body :=
  [.ite (.or (.not (.bi .isinst [.var 1, .con (.ty "tuple")])) (.not (.bi .all [.lc (.nm 2) none [.var 1] [] (.call 4 [.var 2, .var 0])])))
  [.ret (.con (.bl false))]
  [],
  .ret (.cmp .eq (.bi .sorted [.var 1]) (.bit .list .range [.var 0]))] }
/-- 6 need_order(many, order): 0:many 1:order -/
def d_need_order : Def := { ar := 2, sl := 2, own := [], cel := [], body :=
  [.ite (.not (.call 5 [.var 0, .var 1]))
  [.raise 2]
  []] }
/-- 7 is_stack(many, thing): 0:many 1:thing 2:item -/
def d_is_stack : Def := { ar := 2, sl := 3, own := [], cel := [], body :=
  [.ret (.and (.call 2 [.var 1]) (.bi .all [.lc (.nm 2) none [.var 1] [] (.call 1 [.var 2, .con (.int 0), .var 0])]))] }
/-- 8 popped_of(many, stacks, order): 0:many 1:stacks 2:order 3:taken 4:tree 5:place 6:here 7:number -/
def d_popped_of : Def := { ar := 3, sl := 8, own := [3, 4], cel := [], body :=
  [.par [3, 4] [.bin .mul (.lst [.con (.int 0)]) (.var 0), .dict [.var 0, .var 0]],
  .for_ (.nm 5) none [.var 2]
  [.asg (.nm 6) (.var 5),
  .whl (.cmp .notin (.var 6) (.var 4))
  [.ite (.cmp .eq (.idx (.var 3) (.var 6)) (.bi .len [.idx (.var 1) (.var 6)]))
  [.ret (.con .non)]
  [],
  .set (.var 3) (.var 6) (.bin .add (.idx (.var 3) (.var 6)) (.con (.int 1))),
  .asg (.nm 6) (.idx (.idx (.var 1) (.var 6)) (.bin .sub (.idx (.var 3) (.var 6)) (.con (.int 1))))],
  .asg (.nm 6) (.var 5),
  .whl (.cmp .notin (.var 6) (.var 4))
  [.set (.var 4) (.var 6) (.idx (.idx (.var 1) (.var 6)) (.bin .sub (.idx (.var 3) (.var 6)) (.con (.int 1)))),
  .asg (.nm 6) (.idx (.var 4) (.var 6))]],
  .ret (.tup [.bi .tuple [.lc (.nm 5) (some .range) [.var 0] [] (.idx (.var 4) (.var 5))], .bi .tuple [.lc (.nm 7) none [.var 3] [] (.bin .sub (.var 7) (.con (.int 1)))]])] }
/-- 9 popped(many, stacks, order): 0:many 1:stacks 2:order 3:stack -/
def d_popped : Def := { ar := 3, sl := 4, own := [], cel := [], body :=
  [.exX 3 [.var 0],
  .ite (.or (.not (.call 2 [.var 1])) (.or (.cmp .ne (.bi .len [.var 1]) (.var 0)) (.not (.bi .all [.lc (.nm 3) none [.var 1] [] (.call 7 [.var 0, .var 3])]))))
  [.raise 3]
  [],
  .exX 6 [.var 0, .var 2],
  .ret (.call 8 [.var 0, .var 1, .var 2])] }
/-- 10 _law_begun(script): 0:script 1:large 2:cell -/
def d_law_begun : Def := { ar := 1, sl := 3, own := [1], cel := [], body :=
  [.asg (.nm 1) (.lc (.nm 2) none [.var 0] [.cmp .ge (.bi .abs [.var 2]) (.bin .pow (.con (.int 10)) (.con (.int 18)))] (.bin .sub (.bi .abs [.var 2]) (.bin .pow (.con (.int 10)) (.con (.int 18))))),
  .ret (.dict [.con (.str [108, 97, 114, 103, 101]), .mv 1, .con (.str [114, 101, 115, 116]), .con (.int 0), .con (.str [99, 101, 108, 108, 115]), .lc (.nm 2) none [.var 0] [] (.bi .abs [.var 2]), .con (.str [116, 117, 114, 110]), .con (.int 0)])] }
/-- 11 _law_mixed(draw): 0:draw 1:turn 2:found 3:great 4:blend 5:cell -/
def d_law_mixed : Def := { ar := 1, sl := 6, own := [], cel := [], body :=
  [.set (.var 0) (.con (.str [116, 117, 114, 110])) (.bin .add (.idx (.var 0) (.con (.str [116, 117, 114, 110]))) (.con (.int 1))),
  .par [1, 2] [.bi .int [.idx (.var 0) (.con (.str [116, 117, 114, 110]))], .con (.int 0)],
  .for_ (.nm 3) none [.lst [.con (.int 2147483647), .con (.int 2147483629), .con (.int 2147483587)]]
  [.asg (.nm 4) (.bin .mod (.bin .add (.bin .mul (.var 1) (.con (.int 48271))) (.bin .fdiv (.var 3) (.con (.int 11)))) (.var 3)),
  .for_ (.nm 5) none [.idx (.var 0) (.con (.str [99, 101, 108, 108, 115]))]
  [.asg (.nm 4) (.bin .mod (.bin .add (.bin .add (.bin .mul (.var 4) (.con (.int 69621))) (.bi .int [.var 5])) (.var 1)) (.var 3))],
  .asg (.nm 2) (.bin .add (.bin .mul (.var 2) (.con (.int 2147483659))) (.bin .mod (.bin .pow (.var 4) (.con (.int 5))) (.var 3)))],
  .ret (.var 2)] }
/-- 12 _law_take(draw, amount): 0:draw 1:amount 2:found -/
def d_law_take : Def := { ar := 2, sl := 3, own := [], cel := [], body :=
  [.ite (.cmp .eq (.idx (.var 0) (.con (.str [114, 101, 115, 116]))) (.con (.int 0)))
  [.set (.var 0) (.con (.str [114, 101, 115, 116])) (.ife (.cmp .ne (.idx (.var 0) (.con (.str [108, 97, 114, 103, 101]))) (.lst [])) (.pop (.idx (.var 0) (.con (.str [108, 97, 114, 103, 101]))) [.con (.int 0)]) (.call 11 [.var 0]))]
  [],
  .asg (.nm 2) (.bin .mod (.bi .int [.idx (.var 0) (.con (.str [114, 101, 115, 116]))]) (.var 1)),
  .set (.var 0) (.con (.str [114, 101, 115, 116])) (.bin .fdiv (.bi .int [.idx (.var 0) (.con (.str [114, 101, 115, 116]))]) (.var 1)),
  .ret (.var 2)] }
/-- 13 _law_pick(draw, some): 0:draw 1:some -/
def d_law_pick : Def := { ar := 2, sl := 2, own := [], cel := [], body :=
  [.ret (.idx (.var 1) (.call 12 [.var 0, .bi .len [.var 1]]))] }
/-- 14 _law_shuffled(draw, some): 0:draw 1:some 2:left 3:found -/
def d_law_shuffled : Def := { ar := 2, sl := 4, own := [2, 3], cel := [], body :=
  [.par [2, 3] [.bi .list [.var 1], .lst []],
  .whl (.cmp .ne (.var 2) (.lst []))
  [.app (.var 3) (.pop (.var 2) [.call 12 [.var 0, .bi .len [.var 2]]])],
  .ret (.mv 3)] }
/-- 15 _law_caught(work): 0:work 1:caught 2:error -/
def d_law_caught : Def := { ar := 1, sl := 3, own := [], cel := [], body :=
  [.asg (.nm 1) (.con .non),
  .stuck,
  .ret (.var 1)] }
/-- 16 _law_is_number(thing): 0:thing -/
def d_law_is_number : Def := { ar := 1, sl := 1, own := [], cel := [], body :=
  [.ret (.and (.bi .isinst [.var 0, .con (.ty "int")]) (.not (.bi .isinst [.var 0, .con (.ty "bool")])))] }
/-- 17 _law_same(told, due): 0:told 1:due 2:left 3:one 4:other -/
def d_law_same : Def := { ar := 2, sl := 5, own := [2], cel := [], body :=
  [.asg (.nm 2) (.lst [.tup [.var 0, .var 1]]),
  .whl (.cmp .ne (.var 2) (.lst []))
  [.asg (.tup [.nm 3, .nm 4]) (.pop (.var 2) []),
  .ite (.bi .isinst [.var 4, .tup [.con (.ty "tuple"), .con (.ty "list")]])
  [.ite (.or (.cmp .ne (.bi .isinst [.var 3, .con (.ty "tuple")]) (.bi .isinst [.var 4, .con (.ty "tuple")])) (.or (.cmp .ne (.bi .isinst [.var 3, .con (.ty "list")]) (.bi .isinst [.var 4, .con (.ty "list")])) (.cmp .ne (.bi .len [.var 3]) (.bi .len [.var 4]))))
  [.ret (.con (.bl false))]
  [],
  .asg (.nm 2) (.bin .add (.var 2) (.bit .list .zip [.var 3, .var 4]))]
  [.ite (.or (.cmp .is (.var 4) (.con .non)) (.bi .isinst [.var 4, .tup [.con (.ty "bool"), .con (.ty "str")]]))
  [.ite (.or (.cmp .ne (.bi .isinst [.var 3, .con (.ty "bool")]) (.bi .isinst [.var 4, .con (.ty "bool")])) (.or (.cmp .ne (.bi .isinst [.var 3, .con (.ty "str")]) (.bi .isinst [.var 4, .con (.ty "str")])) (.cmp .ne (.var 3) (.var 4))))
  [.ret (.con (.bl false))]
  []]
  [.ite (.or (.not (.call 16 [.var 3])) (.cmp .ne (.var 3) (.var 4)))
  [.ret (.con (.bl false))]
  []]]],
  .ret (.con (.bl true))] }
/-- 18 _law_is_tree(many, thing): 0:many 1:thing 2:item 3:place 4:here 5:met -/
def d_law_is_tree : Def := { ar := 2, sl := 6, own := [5], cel := [], body :=
  [.ite (.or (.not (.bi .isinst [.var 1, .con (.ty "tuple")])) (.or (.cmp .ne (.bi .len [.var 1]) (.var 0)) (.cmp .ne (.lc (.nm 2) none [.var 1] [.or (.not (.call 16 [.var 2])) (.not (.chain .le .le (.con (.int 0)) (.var 2) (.var 0)))] (.con (.int 1))) (.lst []))))
  [.ret (.con (.bl false))]
  [],
  .for_ (.nm 3) (some .range) [.var 0]
  [.par [4, 5] [.var 3, .lst []],
  .whl (.and (.cmp .ne (.var 4) (.var 0)) (.cmp .notin (.var 4) (.var 5)))
  [.app (.var 5) (.var 4),
  .asg (.nm 4) (.idx (.var 1) (.var 4))],
  .ite (.cmp .ne (.var 4) (.var 0))
  [.ret (.con (.bl false))]
  []],
  .ret (.con (.bl true))] }
/-- 19 _law_kind(error): 0:error -/
def d_law_kind : Def := { ar := 1, sl := 1, own := [], cel := [], body :=
  [.ite (.bi .isinst [.var 0, .con (.cls 1)])
  [.ret (.con (.str [99, 111, 117, 110, 116]))]
  [],
  .ite (.bi .isinst [.var 0, .con (.cls 3)])
  [.ret (.con (.str [115, 116, 97, 99, 107, 115]))]
  [],
  .ite (.bi .isinst [.var 0, .con (.cls 2)])
  [.ret (.con (.str [111, 114, 100, 101, 114]))]
  [],
  .ret (.ife (.cmp .is (.var 0) (.con .non)) (.con (.str [110, 111, 110, 101])) (.con (.str [111, 116, 104, 101, 114])))] }
/-- 20 _law_stacks(draw, many): 0:draw 1:many 2:menu 3:size 4:lap 5:place -/
def d_law_stacks : Def := { ar := 2, sl := 6, own := [], cel := [], body :=
  [.asg (.nm 2) (.call 13 [.var 0, .lst [.lst [.var 1], .lst [.var 1, .con (.int 0)], .bit .list .range [.bin .add (.var 1) (.con (.int 1))], .bin .add (.bit .list .range [.var 1]) (.bin .mul (.lst [.var 1]) (.con (.int 2)))]]),
  .asg (.nm 3) (.call 13 [.var 0, .lst [.con (.int 1), .con (.int 3), .con (.int 8), .con (.int 30)]]),
  .ret (.lc (.nm 5) (some .range) [.var 1] [] (.lc (.nm 4) (some .range) [.bin .add (.call 12 [.var 0, .bin .add (.var 3) (.con (.int 1))]) (.call 13 [.var 0, .lst [.con (.int 0), .con (.int 2), .con (.int 2)]])] [] (.call 13 [.var 0, .bin .add (.var 2) (.lst [.call 12 [.var 0, .bin .add (.var 1) (.con (.int 1))]])])))] }
/-- 21 _law_a_round(draw, many, stacks, taken): 0:draw 1:many 2:stacks 3:taken 4:place 5:tops 6:found 7:line 8:here -/
def d_law_a_round : Def := { ar := 4, sl := 9, own := [6, 7], cel := [], body :=
  [.ite (.cmp .ne (.lc (.nm 4) (some .range) [.var 1] [.cmp .ge (.idx (.var 3) (.var 4)) (.bi .len [.idx (.var 2) (.var 4)])] (.con (.int 1))) (.lst []))
  [.ret (.con (.int 0))]
  [],
  .par [5, 6] [.lc (.nm 4) (some .range) [.var 1] [] (.idx (.idx (.var 2) (.var 4)) (.idx (.var 3) (.var 4))), .lst []],
  .for_ (.nm 4) (some .range) [.var 1]
  [.par [7, 8] [.lst [], .var 4],
  .whl (.and (.cmp .ne (.var 8) (.var 1)) (.cmp .notin (.var 8) (.var 7)))
  [.app (.var 7) (.var 8),
  .asg (.nm 8) (.idx (.var 5) (.var 8))],
  .ite (.cmp .eq (.var 8) (.var 4))
  [.app (.var 6) (.var 7)]
  []],
  .ret (.ife (.cmp .eq (.var 6) (.lst [])) (.con .non) (.call 13 [.var 0, .var 6]))] }
/-- 22 _law_due(draw, many, stacks): 0:draw 1:many 2:stacks 3:taken 4:line 5:place 6:number -/
def d_law_due : Def := { ar := 3, sl := 7, own := [], cel := [], body :=
  [.asg (.nm 3) (.bin .mul (.lst [.con (.int 0)]) (.var 1)),
  .asg (.nm 4) (.call 21 [.var 0, .var 1, .var 2, .var 3]),
  .whl (.cmp .isnot (.var 4) (.con .non))
  [.ite (.cmp .eq (.var 4) (.con (.int 0)))
  [.ret (.con .non)]
  [],
  .asg (.nm 3) (.lc (.tup [.nm 5, .nm 6]) (some .enum) [.var 3] [] (.bin .add (.var 6) (.bi .int [.cmp .isin (.var 5) (.var 4)]))),
  .asg (.nm 4) (.call 21 [.var 0, .var 1, .var 2, .var 3])],
  .ret (.tup [.bi .tuple [.lc (.nm 5) (some .range) [.var 1] [] (.idx (.idx (.var 2) (.var 5)) (.idx (.var 3) (.var 5)))], .bi .tuple [.var 3]])] }
/-- 23 law(script): 0:script 1:draw 2:lap 3:many 4:stacks 5:due 6:turn 7:order 8:told 9:stack 10:bad 11:none 12:at 13:odd 14:errors 15:error -/
def d_law : Def := { ar := 1, sl := 16, own := [14], cel := [1], body :=
  [.asg (.nm 1) (.call 10 [.var 0]),
  .for_ (.nm 2) (some .range) [.bin .add (.con (.int 8)) (.bi .min [.bi .len [.var 0], .con (.int 12)])]
  [.asg (.nm 3) (.call 13 [.var 1, .lst [.con (.int 1), .con (.int 2), .con (.int 3), .con (.int 4), .con (.int 5), .con (.int 8)]]),
  .asg (.nm 4) (.call 20 [.var 1, .var 3]),
  .asg (.nm 5) (.call 22 [.var 1, .var 3, .var 4]),
  .for_ (.nm 6) (some .range) [.con (.int 3)]
  [.asg (.nm 7) (.bi .tuple [.call 14 [.var 1, .bit .list .range [.var 3]]]),
  .asg (.nm 8) (.lst [.call 9 [.var 3, .var 4, .var 7], .calk 9 [2, 1, 0] [.var 7, .bi .tuple [.lc (.nm 9) none [.var 4] [] (.bi .tuple [.var 9])], .var 3]]),
  .ite (.or (.not (.call 17 [.var 8, .lst [.var 5, .var 5]])) (.and (.cmp .isnot (.var 5) (.con .non)) (.not (.call 18 [.var 3, .idx (.var 5) (.con (.int 0))]))))
  [.ret (.con (.bl false))]
  []],
  .par [10, 11] [.call 13 [.var 1, .lst [.con .non, .con (.int 0), .con (.int 9), .con (.bl true), .con (.str [50]), .neg (.con (.int 1)), .lst [.con (.int 2)]]], .call 13 [.var 1, .lst [.con .non, .tup [], .bit .list .range [.var 3], .bin .mul (.tup [.con (.int 0)]) (.bin .add (.var 3) (.con (.int 1))), .bin .mul (.tup [.con (.bl true)]) (.var 3), .con (.int 5)]]],
  .asg (.nm 12) (.call 12 [.var 1, .var 3]),
  .asg (.nm 13) (.call 13 [.var 1, .lst [.con .non, .con (.int 5), .bin .add (.var 4) (.lst [.lst [.var 3]]), .slc (.var 4) (some (.con (.int 1))) none, .con (.str [115, 116, 97, 99, 107, 115]), .bin .add (.bin .add (.slc (.var 4) none (some (.var 12))) (.lst [.con .non])) (.slc (.var 4) (some (.bin .add (.var 12) (.con (.int 1)))) none), .bin .add (.bin .add (.slc (.var 4) none (some (.var 12))) (.lst [.lst [.bin .add (.var 3) (.con (.int 1))]])) (.slc (.var 4) (some (.bin .add (.var 12) (.con (.int 1)))) none), .bin .add (.bin .add (.slc (.var 4) none (some (.var 12))) (.lst [.lst [.con (.bl true)]])) (.slc (.var 4) (some (.bin .add (.var 12) (.con (.int 1)))) none), .bin .add (.bin .add (.slc (.var 4) none (some (.var 12))) (.lst [.lst [.neg (.con (.int 1)), .con (.int 0)]])) (.slc (.var 4) (some (.bin .add (.var 12) (.con (.int 1)))) none)]]),
  .asg (.nm 14) (.lst [.caught 0 23 (.call 9 [.var 10, .var 13, .var 11])]),
  .app (.var 14) (.caught 0 23 (.call 9 [.var 3, .var 13, .var 11])),
  .app (.var 14) (.caught 0 23 (.call 9 [.var 3, .var 4, .var 11])),
  .ite (.cmp .ne (.lc (.nm 15) none [.var 14] [] (.call 19 [.var 15])) (.lst [.con (.str [99, 111, 117, 110, 116]), .con (.str [115, 116, 97, 99, 107, 115]), .con (.str [111, 114, 100, 101, 114])]))
  [.ret (.con (.bl false))]
  []],
  .ret (.call 17 [.call 9 [.con (.int 2), .lst [.lst [.con (.int 1), .con (.int 2)], .lst [.con (.int 0), .con (.int 0), .con (.int 2)]], .tup [.con (.int 0), .con (.int 1)]], .tup [.tup [.con (.int 2), .con (.int 0)], .tup [.con (.int 1), .con (.int 1)]]])] }
def prog : Prog := { defs := [d_is_number, d_is_between, d_is_list, d_need_many, d_is_index, d_are_all, d_need_order, d_is_stack, d_popped_of, d_popped, d_law_begun, d_law_mixed, d_law_take, d_law_pick, d_law_shuffled, d_law_caught, d_law_is_number, d_law_same, d_law_is_tree, d_law_kind, d_law_stacks, d_law_a_round, d_law_due, d_law], ini := [] }
end K34
end Py
end

section
set_option Elab.async false
set_option linter.all false
set_option maxRecDepth 100000
/-! Y0: a law's data, for its head. -/
namespace PyS
open PySem L2
/-- what the names of the file stand for -/
structure Gx where
  fns : List (Str × Nat)
  nums : List (Str × Int)
  cls : List (Str × Nat)
  mks : List (Str × Nat)
  kws : List (Str × Nat × Nat × List Str × List Nat)
  nm : Nat → Str
  na : Nat
  /-- error classes, catchers, the def that makes lambdas -/
  xcs : List (Str × Nat)
  cats : List (Str × Nat)
  tab : Option Nat
def blts : List Str := ["len", "abs", "int", "list", "tuple", "sum", "all", "any", "min", "max", "isinstance", "range", "enumerate", "zip", "bool", "str", "dict", "sorted"]
/-- attribute names, each with its number -/
def nmOf (l : List Str) (f : Nat) : Str := match l[f]? with
  | some x => x
  | none => ⟨#[0x110000 + f]⟩
/-- a law's data -/
structure Pk where
  G : Gx
  P : Py.Prog
  fn : List He.DefD
  ps : List (List Str)
  N : List (List Str)
  cn : List (Nat × Str)
  nms : List Str
  /-- the error classes, what they all are -/
  xn : List (Nat × Str)
  xb : List Str
/-- the facts that the head is asked for, beside the defs -/
def Pk.fa (k : Pk) : List He.Fa := blts.map .free ++ k.G.fns.map (fun p => .glo p.1) ++ k.G.kws.map (fun p => .glo p.1) ++ k.G.nums.map (fun p => .int p.1 p.2) ++ k.G.cls.map (fun p => .glo p.1) ++ k.G.mks.map (fun p => .mkr p.1) ++ k.G.mks.map (fun p => .glo p.1) ++ k.cn.map (fun p => .cls p.2) ++ k.G.xcs.map (fun p => .glo p.1) ++ k.G.cats.map (fun p => .glo p.1) ++ k.xb.map .glo ++ k.xn.map (fun p => .exc p.2) ++ k.xn.flatMap fun p => k.xb.map fun y => .exm p.2 y true
def eqM (a b : Option Bool) : Bool := decide (a = b)
/-- .. of the classes -/
def Pk.ex (k : Pk) (K : PySem.W.Frag) : Bool :=
  He.eqO (PySem.W.specialIn K (.builtin "object.__class__") "__get__") (some (some (.builtin "getset_descriptor.__get__"))) && eqM (PySem.W.takesIn K (.builtin "object.__class__")) (some true) &&
  k.cn.all fun p => He.eqO (PySem.W.findIn K (.ref (He.ga K p.2)) "__class__") (some (some (.builtin "object.__class__"))) && eqM (PySem.W.mroIn K (He.ga K p.2) (.type "object")) (some true) &&
    ["NoneType", "bool", "int", "str", "tuple", "list", "dict"].all (fun n => eqM (PySem.W.kitOne K (.type n) (.ref (He.ga K p.2))) (some false)) &&
    ["int", "bool", "str", "tuple", "list", "dict"].all (fun n => eqM (PySem.W.kitOne K (.ref (He.ga K p.2)) (.type n)) (some false)) &&
    k.cn.all (fun p' => eqM (PySem.W.kitOne K (.ref (He.ga K p.2)) (.ref (He.ga K p'.2))) (some (p.1 == p'.1))) &&
    k.nms.all (fun x => He.eqO (PySem.W.findIn K (.ref (He.ga K p.2)) x) (some none)) &&
    k.xn.all (fun p' => eqM (PySem.W.kitOne K (.ref (He.ga K p.2)) (.ref (He.ga K p'.2))) (some (p.1 == p'.1)))
/-- .. of the error classes -/
def Pk.exX (k : Pk) (K : PySem.W.Frag) : Bool :=
  k.xn.all fun p => He.eqO (PySem.W.findIn K (.ref (He.ga K p.2)) "__getattribute__") (some (some (.builtin "BaseException.__getattribute__"))) && He.eqO (PySem.W.findIn K (.ref (He.ga K p.2)) "__getattr__") (some none) && PySem.W.hasDictIn K (He.ga K p.2) &&
    He.eqO (PySem.W.findIn K (.ref (He.ga K p.2)) "__class__") (some (some (.builtin "object.__class__"))) && eqM (PySem.W.mroIn K (He.ga K p.2) (.type "object")) (some true) &&
    ["NoneType", "bool", "int", "str", "tuple", "list", "dict"].all (fun n => eqM (PySem.W.kitOne K (.type n) (.ref (He.ga K p.2))) (some false)) &&
    k.cn.all (fun p' => eqM (PySem.W.kitOne K (.ref (He.ga K p.2)) (.ref (He.ga K p'.2))) (some (p.1 == p'.1))) &&
    k.xn.all (fun p' => eqM (PySem.W.kitOne K (.ref (He.ga K p.2)) (.ref (He.ga K p'.2))) (some (p.1 == p'.1)))
def Pk.exA (k : Pk) (K : PySem.W.Frag) : Bool := k.ex K && k.exX K
/-- the defs whose tables are asked for -/
def Pk.tf (k : Pk) : List He.Defn := match k.G.tab with
  | some f => (match k.fn[f]? with
    | some d => [d.at_]
    | none => [])
  | none => []
end PyS
end

section
set_option Elab.async false
set_option linter.all false
set_option maxRecDepth 100000
set_option maxHeartbeats 0
namespace PyS.K34
open PySem L2
def top (i : Nat) : Stmt := PySem.Challenge.pw_bestatall_k34_whole_stacks_popped_in_any.main.body.getD i (.Pass ⟨0, 0, 0, 0⟩)
def fn : List He.DefD := ([⟨("is_number", none), "is_number", "is_number", defArgs (top 6), defBody (top 6), defScope (top 6), [], []⟩, ⟨("is_between", none), "is_between", "is_between", defArgs (top 7), defBody (top 7), defScope (top 7), [], []⟩, ⟨("is_list", none), "is_list", "is_list", defArgs (top 8), defBody (top 8), defScope (top 8), [], []⟩, ⟨("need_many", none), "need_many", "need_many", defArgs (top 9), defBody (top 9), defScope (top 9), [], []⟩, ⟨("is_index", none), "is_index", "is_index", defArgs (top 10), defBody (top 10), defScope (top 10), [], []⟩, ⟨("are_all", none), "are_all", "are_all", defArgs (top 12), defBody (top 12), defScope (top 12), [], []⟩, ⟨("need_order", none), "need_order", "need_order", defArgs (top 13), defBody (top 13), defScope (top 13), [], []⟩, ⟨("is_stack", none), "is_stack", "is_stack", defArgs (top 14), defBody (top 14), defScope (top 14), [], []⟩, ⟨("popped_of", none), "popped_of", "popped_of", defArgs (top 15), defBody (top 15), defScope (top 15), [], []⟩, ⟨("popped", none), "popped", "popped", defArgs (top 16), defBody (top 16), defScope (top 16), [], []⟩, ⟨("_law_begun", none), "_law_begun", "_law_begun", defArgs (top 18), defBody (top 18), defScope (top 18), [], []⟩, ⟨("_law_mixed", none), "_law_mixed", "_law_mixed", defArgs (top 19), defBody (top 19), defScope (top 19), [], []⟩, ⟨("_law_take", none), "_law_take", "_law_take", defArgs (top 20), defBody (top 20), defScope (top 20), [], []⟩, ⟨("_law_pick", none), "_law_pick", "_law_pick", defArgs (top 21), defBody (top 21), defScope (top 21), [], []⟩, ⟨("_law_shuffled", none), "_law_shuffled", "_law_shuffled", defArgs (top 22), defBody (top 22), defScope (top 22), [], []⟩, ⟨("_law_caught", none), "_law_caught", "_law_caught", defArgs (top 23), defBody (top 23), defScope (top 23), [], []⟩, ⟨("_law_is_number", none), "_law_is_number", "_law_is_number", defArgs (top 24), defBody (top 24), defScope (top 24), [], []⟩, ⟨("_law_same", none), "_law_same", "_law_same", defArgs (top 25), defBody (top 25), defScope (top 25), [], []⟩, ⟨("_law_is_tree", none), "_law_is_tree", "_law_is_tree", defArgs (top 26), defBody (top 26), defScope (top 26), [], []⟩, ⟨("_law_kind", none), "_law_kind", "_law_kind", defArgs (top 27), defBody (top 27), defScope (top 27), [], []⟩] : List He.DefD) ++ ([⟨("_law_stacks", none), "_law_stacks", "_law_stacks", defArgs (top 28), defBody (top 28), defScope (top 28), [], []⟩, ⟨("_law_a_round", none), "_law_a_round", "_law_a_round", defArgs (top 29), defBody (top 29), defScope (top 29), [], []⟩, ⟨("_law_due", none), "_law_due", "_law_due", defArgs (top 30), defBody (top 30), defScope (top 30), [], []⟩, ⟨("law", none), "law", "law", defArgs (top 31), defBody (top 31), defScope (top 31), [], []⟩] : List He.DefD)
def ps : List (List Str) := [["thing"], ["thing", "low", "high"], ["thing"], ["many"], ["thing", "many"], ["many", "thing"], ["many", "order"], ["many", "thing"], ["many", "stacks", "order"], ["many", "stacks", "order"], ["script"], ["draw"], ["draw", "amount"], ["draw", "some"], ["draw", "some"], ["work"], ["thing"], ["told", "due"], ["many", "thing"], ["error"], ["draw", "many"], ["draw", "many", "stacks", "taken"], ["draw", "many", "stacks"], ["script"]]
def N : List (List Str) := [["thing"], ["thing", "low", "high"], ["thing"], ["many"], ["thing", "many"], ["many", "thing", "item"], ["many", "order"], ["many", "thing", "item"], ["many", "stacks", "order", "taken", "tree", "place", "here", "number"], ["many", "stacks", "order", "stack"], ["script", "large", "cell"], ["draw", "turn", "found", "great", "blend", "cell"], ["draw", "amount", "found"], ["draw", "some"], ["draw", "some", "left", "found"], ["work", "caught", "error"], ["thing"], ["told", "due", "left", "one", "other"], ["many", "thing", "item", "place", "here", "met"], ["error"], ["draw", "many", "menu", "size", "lap", "place"], ["draw", "many", "stacks", "taken", "place", "tops", "found", "line", "here"], ["draw", "many", "stacks", "taken", "line", "place", "number"], ["script", "draw", "lap", "many", "stacks", "due", "turn", "order", "told", "stack", "bad", "none", "at", "odd", "errors", "error"]]
def fns : List (Str × Nat) := [("is_number", 0), ("is_between", 1), ("is_list", 2), ("need_many", 3), ("is_index", 4), ("are_all", 5), ("need_order", 6), ("is_stack", 7), ("popped_of", 8), ("popped", 9), ("_law_begun", 10), ("_law_mixed", 11), ("_law_take", 12), ("_law_pick", 13), ("_law_shuffled", 14), ("_law_caught", 15), ("_law_is_number", 16), ("_law_same", 17), ("_law_is_tree", 18), ("_law_kind", 19), ("_law_stacks", 20), ("_law_a_round", 21), ("_law_due", 22), ("law", 23)]
def kws : List (Str × Nat × Nat × List Str × List Nat) := [("popped", 9, 0, ["order", "stacks", "many"], [2, 1, 0])]
def nums : List (Str × Int) := []
def cls : List (Str × Nat) := []
def cn : List (Nat × Str) := []
def nms : List Str := []
def xcs : List (Str × Nat) := [("BadCount", 1), ("BadOrder", 2), ("BadStacks", 3)]
def xn : List (Nat × Str) := [(1, "BadCount"), (2, "BadOrder"), (3, "BadStacks")]
def xb : List Str := ["StopError"]
def cats : List (Str × Nat) := [("_law_caught", 15)]
def G : Gx := ⟨fns, nums, cls, cls, kws, nmOf nms, nms.length, xcs, cats, some 23⟩
def pk : Pk := ⟨G, Py.K34.prog, fn, ps, N, cn, nms, xn, xb⟩
def loose : List Str := ["StopError", "BadCount", "BadOrder", "BadStacks", "is_number", "is_between", "is_list", "need_many", "is_index", "are_all", "need_order", "is_stack", "popped_of", "popped", "_law_begun", "_law_mixed", "_law_take", "_law_pick", "_law_shuffled", "_law_caught", "_law_is_number", "_law_same", "_law_is_tree", "_law_kind", "_law_stacks", "_law_a_round", "_law_due"]
end PyS.K34
end

section
set_option Elab.async false
set_option linter.all false
set_option maxRecDepth 100000
set_option maxHeartbeats 0
namespace PyS.K34
open PySem L2
abbrev R : PySem.W.OpenRow := PySem.W.OpenLaw.row PySem.Challenge.rw_bestatall_k34_whole_stacks_popped_in_any
abbrev hk : PySem.W.Hook := He.hookX 4 pk.fa pk.fn [] pk.tf pk.exA
def ob (s : PySem.W.SharedT) : He.AlX := He.obsX 4 pk.fa pk.fn [] pk.tf pk.exA (HandSHeadRun.getT s)
theorem ob_eq (s : PySem.W.SharedT) : ob s = hk.obs s.abs := He.obsX_eq (HandSHeadRun.getT_eq s)
open HandSHeadRun PySem.W PySem.Calls in
theorem run1 (w : World) (os : OsState) : (endF (stepQ (denQ tabQ) R.prog w) 20000 R.prog w os).map (fun s => (looksF R.prog (boot_heap w.params) s.abs, seenQ (PySem.W.view R.prog [31]) loose (importedModules R.prog.main.body) (fun s => xlAt (PySem.W.view R.prog [31]) [] s && recOk R.toRowW.records s) s.abs)) = some (true, openGood (PySem.W.view R.prog [31]) loose) := by
  kernel_rfl
open HandSHeadRun PySem.W PySem.Calls in
theorem run2 (w : World) (os : OsState) : (endF (stepQ (denQ tabQ) R.prog w) 20000 R.prog w os).map ob = some (hk.val w) := by
  kernel_rfl
theorem both {α β γ δ : Type} {o : Option α} {f : α → β} {g : α → γ} {k : α → δ} {b : β} {c : γ} {d : δ} (h1 : o.map (fun s => (f s, g s)) = some (b, c)) (h2 : o.map k = some d) : o.map (fun s => (f s, g s, k s)) = some (b, c, d) := by
  cases o with
  | none => cases h1
  | some s =>
    simp only [Option.map_some, Option.some.injEq, Prod.mk.injEq] at h1 h2 ⊢
    exact ⟨h1.1, h1.2, h2⟩
theorem run (w : World) : HandSHeadRun.RunEq R (PySem.W.view R.prog [31]) hk ob 20000 loose w := fun os => both (run1 w os) (run2 w os)
end PyS.K34
end

section
set_option Elab.async false
set_option linter.all false
set_option maxRecDepth 100000
set_option maxHeartbeats 2000000
/-! S1: how the plain data stand in the heap. -/
namespace PyS
open PySem L2

/-- whose an owned object is -/
inductive Root where
  | slot (i : Nat) | cell (n : Nat) | tmp
  deriving DecidableEq
abbrev Lab := Addr → Option (Root × List Nat)
/-- what the text's names stand for -/
structure Tb where
  K : PySem.W.Frag
  cls : Nat → Option Addr
  fn : Nat → Option Addr
  nm : Nat → Str
  na : Nat
  /-- the error classes -/
  xc : Nat → Option Addr
  /-- a def's table of code objects, and how they are named -/
  tb : Nat → Option (Addr × Str)
/-- an object of the error class at C -/
def ExC (C a : Addr) : HO := .ext fun h => ∃ (oe : Obj) (vs : Array Value), h.get? a = some oe ∧ Zc (.ref C) none oe ∧ oe.data = .fields vs
/-- a table: what it tells are code objects, frozen -/
structure TabG (G : Hp) (ps : Array Value) (q : Str) : Prop where
  tr : TriplesOk ps.toList
  cd : ∀ (pos : Pos) (cv : Value), codeAmong pos ps.toList = some cv → ∃ c, cv = .ref c ∧ G c = some (LamX.CodeO c q)
/-- the heap, what of it is frozen, whose the rest is, where the cells lie -/
structure Wd where
  G : Hp
  φ : List Addr
  H : Hp
  lab : Lab
def kD : Key → Py.D
  | .inl i => .int i
  | .inr x => .str x.cps.toList

variable (T : Tb)
mutual
inductive Rep (G : Hp) (φ : List Addr) : V → Py.D → Prop
  | non : Rep G φ .non .non
  | bl (b : Bool) : Rep G φ (.bl b) (.bl b)
  | int (i : Int) : Rep G φ (.int i) (.int i)
  | str (s : List Nat) : Rep G φ (.str ⟨s.toArray⟩) (.str s)
  | ty (n : String) : Rep G φ (.ty n) (.ty n)
  | tup {a : Addr} {xs : List V} {ds : List Py.D} : G a = some (.tup xs) → Reps G φ xs ds → Rep G φ (.ref a) (.tup ds)
  | lst {a : Addr} {xs : List V} {ds : List Py.D} : G a = some (.lst xs) → Reps G φ xs ds → Rep G φ (.ref a) (.lst ds)
  | dic {a : Addr} {kvs : List (Key × V)} {l : List (Py.D × Py.D)} : G a = some (.dK kvs) → RepK G φ kvs l → Rep G φ (.ref a) (.dic l)
  | ins {a C dx : Addr} {fs : List (Str × V)} {c : Nat} {l : List (Nat × Py.D)} : T.cls c = some C → G a = some (.ins C dx fs) → RepF G φ fs l → Rep G φ (.ref a) (.ins c l)
  | fn {a : Addr} {f : Nat} : T.fn f = some a → Rep G φ (.ref a) (.fn f)
  | cls {a : Addr} {c : Nat} : T.cls c = some a → Rep G φ (.ref a) (.cls c)
  | cell {a : Addr} {n : Nat} : φ[n]? = some a → Rep G φ (.ref a) (.cell n)
  | scr {a : Addr} {xs : List V} {ds : List Py.D} : SqL T.K G a xs → Reps G φ xs ds → Rep G φ (.ref a) (.scr ds)
  | xcl {a : Addr} {q : Nat} : T.xc q = some a → Rep G φ (.ref a) (.cls q)
  | exn {a C : Addr} {q : Nat} : T.xc q = some C → G a = some (ExC C a) → Rep G φ (.ref a) (.exn q)
  | tab {a : Addr} {k : Nat} {q : Str} {ps : Array Value} : T.tb k = some (a, q) → G a = some (.tbl ps) → Rep G φ (.ref a) (.tab k)
inductive Reps (G : Hp) (φ : List Addr) : List V → List Py.D → Prop
  | nil : Reps G φ [] []
  | cons {v : V} {vs : List V} {d : Py.D} {ds : List Py.D} : Rep G φ v d → Reps G φ vs ds → Reps G φ (v :: vs) (d :: ds)
inductive RepK (G : Hp) (φ : List Addr) : List (Key × V) → List (Py.D × Py.D) → Prop
  | nil : RepK G φ [] []
  | cons {k : Key} {v : V} {vs : List (Key × V)} {d : Py.D} {ds : List (Py.D × Py.D)} : Rep G φ v d → RepK G φ vs ds → RepK G φ ((k, v) :: vs) ((kD k, d) :: ds)
inductive RepF (G : Hp) (φ : List Addr) : List (Str × V) → List (Nat × Py.D) → Prop
  | nil : RepF G φ [] []
  | cons {f : Nat} {v : V} {vs : List (Str × V)} {d : Py.D} {ds : List (Nat × Py.D)} : Rep G φ v d → RepF G φ vs ds → RepF G φ ((T.nm f, v) :: vs) ((f, d) :: ds)
end
mutual
inductive RepO (w : Wd) (r : Root) : List Nat → V → Py.O → Prop
  | d {π : List Nat} {v : V} {x : Py.D} : Rep T w.G w.φ v x → RepO w r π v (.d x)
  | lst {π : List Nat} {a : Addr} {xs : List V} {os : List Py.O} : w.lab a = some (r, π) → w.H a = some (.lst xs) → RepOs w r π 0 xs os → RepO w r π (.ref a) (.lst os)
  | dic {π : List Nat} {a : Addr} {kvs : List (Key × V)} {l : List (Py.D × Py.O)} : w.lab a = some (r, π) → w.H a = some (.dK kvs) → RepOk w r π 0 kvs l → RepO w r π (.ref a) (.dic l)
  | ins {π : List Nat} {a C dx : Addr} {fs : List (Str × V)} {c : Nat} {l : List (Nat × Py.O)} : w.lab a = some (r, π) → T.cls c = some C → w.H a = some (.ins C dx fs) → RepOf w r π 0 fs l → RepO w r π (.ref a) (.ins c l)
  | tab {π : List Nat} {a : Addr} {k : Nat} {q : Str} {ps : Array Value} : T.tb k = some (a, q) → w.lab a = some (r, π) → w.H a = some (.tbl ps) → TabG w.G ps q → RepO w r π (.ref a) (.tab k)
inductive RepOs (w : Wd) (r : Root) : List Nat → Nat → List V → List Py.O → Prop
  | nil {π : List Nat} {j : Nat} : RepOs w r π j [] []
  | cons {π : List Nat} {j : Nat} {v : V} {vs : List V} {o : Py.O} {os : List Py.O} : RepO w r (π ++ [j]) v o → RepOs w r π (j + 1) vs os → RepOs w r π j (v :: vs) (o :: os)
inductive RepOk (w : Wd) (r : Root) : List Nat → Nat → List (Key × V) → List (Py.D × Py.O) → Prop
  | nil {π : List Nat} {j : Nat} : RepOk w r π j [] []
  | cons {π : List Nat} {j : Nat} {k : Key} {v : V} {vs : List (Key × V)} {o : Py.O} {os : List (Py.D × Py.O)} : RepO w r (π ++ [j]) v o → RepOk w r π (j + 1) vs os → RepOk w r π j ((k, v) :: vs) ((kD k, o) :: os)
inductive RepOf (w : Wd) (r : Root) : List Nat → Nat → List (Str × V) → List (Nat × Py.O) → Prop
  | nil {π : List Nat} {j : Nat} : RepOf w r π j [] []
  | cons {π : List Nat} {j : Nat} {f : Nat} {v : V} {vs : List (Str × V)} {o : Py.O} {os : List (Nat × Py.O)} : RepO w r (π ++ [j]) v o → RepOf w r π (j + 1) vs os → RepOf w r π j ((T.nm f, v) :: vs) ((f, o) :: os)
end
variable {T : Tb}
/-- G grows -/
def GLe (G G' : Hp) : Prop := ∀ a o, G a = some o → G' a = some o
def PLe (φ φ' : List Addr) : Prop := ∀ (n : Nat) (a : Addr), φ[n]? = some a → φ'[n]? = some a
theorem GLe.refl (G : Hp) : GLe G G := fun _ _ h => h
theorem GLe.trans {G G1 G2 : Hp} (a : GLe G G1) (b : GLe G1 G2) : GLe G G2 := fun x o h => b x o (a x o h)
theorem PLe.refl (G : List Addr) : PLe G G := fun _ _ h => h
theorem PLe.trans {G G1 G2 : List Addr} (a : PLe G G1) (b : PLe G1 G2) : PLe G G2 := fun x o h => b x o (a x o h)
theorem TabG.mono {G G' : Hp} {ps : Array Value} {q : Str} (t : TabG G ps q) (e : GLe G G') : TabG G' ps q := ⟨t.tr, fun pos cv h => by
  obtain ⟨c, h1, h2⟩ := t.cd pos cv h
  exact ⟨c, h1, e _ _ h2⟩⟩
theorem GLe.rd {G G' : Hp} (e : GLe G G') {a : Addr} {u : HO} (h : Rd G a u) : Rd G' a u := by
  rcases h with h | ⟨o, h⟩
  · exact .inl (e a _ h)
  · exact .inr ⟨o, e a _ h⟩
theorem GLe.sqT {G G' : Hp} (e : GLe G G') {K : PySem.W.Frag} {a : Addr} {xs : List V} (h : SqT K G a xs) : SqT K G' a xs := h.elim (fun h => .inl (e.rd h)) .inr
theorem GLe.sqL {G G' : Hp} (e : GLe G G') {K : PySem.W.Frag} {a : Addr} {xs : List V} (h : SqL K G a xs) : SqL K G' a xs := h.elim (fun h => .inl (e.rd h)) .inr
mutual
theorem Rep.mono {G G' : Hp} {φ φ' : List Addr} (e : GLe G G') (f : PLe φ φ') : ∀ {v : V} {d : Py.D}, Rep T G φ v d → Rep T G' φ' v d
  | _, _, .non => .non
  | _, _, .bl b => .bl b
  | _, _, .int b => .int b
  | _, _, .str b => .str b
  | _, _, .ty b => .ty b
  | _, _, .tup h r => .tup (e _ _ h) (r.mono e f)
  | _, _, .lst h r => .lst (e _ _ h) (r.mono e f)
  | _, _, .dic h r => .dic (e _ _ h) (r.mono e f)
  | _, _, .ins c h r => .ins c (e _ _ h) (r.mono e f)
  | _, _, .fn h => .fn h
  | _, _, .cls h => .cls h
  | _, _, .cell h => .cell (f _ _ h)
  | _, _, .scr h r => .scr (e.sqL h) (r.mono e f)
  | _, _, .xcl h => .xcl h
  | _, _, .exn h r => .exn h (e _ _ r)
  | _, _, .tab h r => .tab h (e _ _ r)
theorem Reps.mono {G G' : Hp} {φ φ' : List Addr} (e : GLe G G') (f : PLe φ φ') : ∀ {v : List V} {d : List Py.D}, Reps T G φ v d → Reps T G' φ' v d
  | _, _, .nil => .nil
  | _, _, .cons h r => .cons (h.mono e f) (r.mono e f)
theorem RepK.mono {G G' : Hp} {φ φ' : List Addr} (e : GLe G G') (f : PLe φ φ') : ∀ {v : List (Key × V)} {d : List (Py.D × Py.D)}, RepK T G φ v d → RepK T G' φ' v d
  | _, _, .nil => .nil
  | _, _, .cons h r => .cons (h.mono e f) (r.mono e f)
theorem RepF.mono {G G' : Hp} {φ φ' : List Addr} (e : GLe G G') (f : PLe φ φ') : ∀ {v : List (Str × V)} {d : List (Nat × Py.D)}, RepF T G φ v d → RepF T G' φ' v d
  | _, _, .nil => .nil
  | _, _, .cons h r => .cons (h.mono e f) (r.mono e f)
end
/-- an owned object is what it was, under another root -/
structure Moves (w w' : Wd) (r r' : Root) : Prop where
  g : GLe w.G w'.G
  f : PLe w.φ w'.φ
  l : ∀ a π, w.lab a = some (r, π) → w'.lab a = some (r', π) ∧ ∀ o, w.H a = some o → w'.H a = some o
mutual
theorem RepO.move {w w' : Wd} {r r' : Root} (k : Moves w w' r r') : ∀ {π : List Nat} {v : V} {o : Py.O}, RepO T w r π v o → RepO T w' r' π v o
  | _, _, _, .d h => .d (h.mono k.g k.f)
  | _, _, _, .lst a b c => .lst (k.l _ _ a).1 ((k.l _ _ a).2 _ b) (c.move k)
  | _, _, _, .dic a b c => .dic (k.l _ _ a).1 ((k.l _ _ a).2 _ b) (c.move k)
  | _, _, _, .ins a t b c => .ins (k.l _ _ a).1 t ((k.l _ _ a).2 _ b) (c.move k)
  | _, _, _, .tab t a b c => .tab t (k.l _ _ a).1 ((k.l _ _ a).2 _ b) (c.mono k.g)
theorem RepOs.move {w w' : Wd} {r r' : Root} (k : Moves w w' r r') : ∀ {π : List Nat} {j : Nat} {v : List V} {o : List Py.O}, RepOs T w r π j v o → RepOs T w' r' π j v o
  | _, _, _, _, .nil => .nil
  | _, _, _, _, .cons a b => .cons (a.move k) (b.move k)
theorem RepOk.move {w w' : Wd} {r r' : Root} (k : Moves w w' r r') : ∀ {π : List Nat} {j : Nat} {v : List (Key × V)} {o : List (Py.D × Py.O)}, RepOk T w r π j v o → RepOk T w' r' π j v o
  | _, _, _, _, .nil => .nil
  | _, _, _, _, .cons a b => .cons (a.move k) (b.move k)
theorem RepOf.move {w w' : Wd} {r r' : Root} (k : Moves w w' r r') : ∀ {π : List Nat} {j : Nat} {v : List (Str × V)} {o : List (Nat × Py.O)}, RepOf T w r π j v o → RepOf T w' r' π j v o
  | _, _, _, _, .nil => .nil
  | _, _, _, _, .cons a b => .cons (a.move k) (b.move k)
end
/-- all that root r holds, frozen -/
def frzG (w : Wd) (r : Root) : Hp := fun a => match w.lab a with
  | some (r', _) => if r' = r then w.H a else w.G a
  | none => w.G a
def dropL (r : Root) (l : Lab) : Lab := fun a => match l a with
  | some (r', π) => if r' = r then none else some (r', π)
  | none => none
def frz (w : Wd) (r : Root) : Wd := { w with G := frzG w r, lab := dropL r w.lab }
theorem frzG_at {w : Wd} {r : Root} {a : Addr} {π : List Nat} (h : w.lab a = some (r, π)) : frzG w r a = w.H a := by
  unfold frzG
  rw [h]
  simp
theorem frzG_ne {w : Wd} {r : Root} {a : Addr} (h : ∀ π, w.lab a ≠ some (r, π)) : frzG w r a = w.G a := by
  unfold frzG
  split
  · rename_i r' π e
    split
    · rename_i e2
      subst e2
      exact absurd e (h π)
    · rfl
  · rfl
theorem dropL_at {r : Root} {l : Lab} {a : Addr} {π : List Nat} (h : l a = some (r, π)) : dropL r l a = none := by
  unfold dropL
  rw [h]
  simp
theorem dropL_ne {r : Root} {l : Lab} {a : Addr} (h : ∀ π, l a ≠ some (r, π)) : dropL r l a = l a := by
  unfold dropL
  split
  · rename_i r' π e
    split
    · rename_i e2
      subst e2
      exact absurd e (h π)
    · exact e.symm
  · rename_i e
    exact e.symm
theorem dropL_none {r : Root} {l : Lab} {a : Addr} (h : l a = none) : dropL r l a = none := by
  unfold dropL
  rw [h]
theorem dropL_some {r : Root} {l : Lab} {a : Addr} {x : Root × List Nat} (h : dropL r l a = some x) : l a = some x ∧ x.1 ≠ r := by
  unfold dropL at h
  split at h
  · rename_i r' π e
    split at h
    · cases h
    · rename_i n
      cases h
      exact ⟨e, n⟩
  · cases h
/-- what is labelled is not frozen, and is there -/
structure LabOk (w : Wd) : Prop where
  gh : ∀ a o, w.G a = some o → w.H a = some o
  lg : ∀ a r, w.lab a = some r → w.G a = none ∧ w.H a ≠ none
theorem LabOk.gle {w : Wd} (k : LabOk w) (r : Root) : GLe w.G (frzG w r) := fun a o h => by
  by_cases q : ∃ π, w.lab a = some (r, π)
  · obtain ⟨π, e⟩ := q
    rw [(k.lg a _ e).1] at h
    cases h
  · rw [frzG_ne (fun π e => q ⟨π, e⟩)]
    exact h
mutual
theorem RepO.frz {w : Wd} (k : LabOk w) {r : Root} : ∀ {π : List Nat} {v : V} {o : Py.O}, RepO T w r π v o → Rep T (frzG w r) w.φ v o.toD
  | _, _, _, .d h => h.mono (k.gle r) (PLe.refl _)
  | _, _, _, .lst a b c => by
    rw [Py.O.toD]
    exact .lst ((frzG_at a).trans b) (c.frz k)
  | _, _, _, .dic a b c => by
    rw [Py.O.toD]
    exact .dic ((frzG_at a).trans b) (c.frz k)
  | _, _, _, .ins a t b c => by
    rw [Py.O.toD]
    exact .ins t ((frzG_at a).trans b) (c.frz k)
  | _, _, _, .tab t a b c => by
    rw [Py.O.toD]
    exact .tab t ((frzG_at a).trans b)
theorem RepOs.frz {w : Wd} (k : LabOk w) {r : Root} : ∀ {π : List Nat} {j : Nat} {v : List V} {o : List Py.O}, RepOs T w r π j v o → Reps T (frzG w r) w.φ v (Py.O.toDs o)
  | _, _, _, _, .nil => by
    rw [Py.O.toDs]
    exact .nil
  | _, _, _, _, .cons a b => by
    rw [Py.O.toDs]
    exact .cons (a.frz k) (b.frz k)
theorem RepOk.frz {w : Wd} (k : LabOk w) {r : Root} : ∀ {π : List Nat} {j : Nat} {v : List (Key × V)} {o : List (Py.D × Py.O)}, RepOk T w r π j v o → RepK T (frzG w r) w.φ v (Py.O.toKs o)
  | _, _, _, _, .nil => by
    rw [Py.O.toKs]
    exact .nil
  | _, _, _, _, .cons a b => by
    rw [Py.O.toKs]
    exact .cons (a.frz k) (b.frz k)
theorem RepOf.frz {w : Wd} (k : LabOk w) {r : Root} : ∀ {π : List Nat} {j : Nat} {v : List (Str × V)} {o : List (Nat × Py.O)}, RepOf T w r π j v o → RepF T (frzG w r) w.φ v (Py.O.toFs o)
  | _, _, _, _, .nil => by
    rw [Py.O.toFs]
    exact .nil
  | _, _, _, _, .cons a b => by
    rw [Py.O.toFs]
    exact .cons (a.frz k) (b.frz k)
end

/-! ### states and steps -/
/-- the heap behind: what is hidden stays -/
structure Stp (w w' : Wd) : Prop where
  g : GLe w.G w'.G
  f : PLe w.φ w'.φ
  h : ∀ a o, w.H a = some o → w.lab a = none → w'.H a = some o ∧ w'.lab a = none ∧ w'.G a = w.G a
  t : ∀ a, w.H a ≠ none → w'.H a ≠ none
theorem Stp.refl (w : Wd) : Stp w w := ⟨GLe.refl _, PLe.refl _, fun _ _ h l => ⟨h, l, rfl⟩, fun _ h => h⟩
theorem Stp.trans {a b c : Wd} (x : Stp a b) (y : Stp b c) : Stp a c :=
  ⟨x.g.trans y.g, x.f.trans y.f, fun p o h l => by
    obtain ⟨h1, l1, g1⟩ := x.h p o h l
    obtain ⟨h2, l2, g2⟩ := y.h p o h1 l1
    exact ⟨h2, l2, g2.trans g1⟩, fun p h => y.t p (x.t p h)⟩
/-- the state's names and cells stand so -/
structure RS (T : Tb) (w : Wd) (σ : L2.St) (s : Py.St) : Prop extends LabOk w where
  env : ∀ (i : Nat) (o : Py.O), s.env[i]? = some (some o) → ∃ v, σ[i]? = some (some v) ∧ RepO T w (.slot i) [] v o
  sto : ∀ (n : Nat) (o : Py.O), s.sto[n]? = some o → ∃ a, w.φ[n]? = some a ∧ RepO T w (.cell n) [] (.ref a) o
  len : w.φ.length = s.sto.length
  el : s.env.length = σ.length
/-- a value that nobody else holds -/
def Res (T : Tb) (w0 w : Wd) (v : V) (o : Py.O) : Prop :=
  ∃ l : Lab, (∀ a r, l a = some r → r.1 = .tmp ∧ w.lab a = none ∧ w.G a = none ∧ w.H a ≠ none ∧ (w0.H a = none ∨ w0.lab a ≠ none)) ∧ RepO T { w with lab := l } .tmp [] v o
theorem Res.d {w0 w : Wd} {v : V} {x : Py.D} (h : Rep T w.G w.φ v x) : Res T w0 w v (.d x) := ⟨fun _ => none, fun _ _ e => (nomatch e), .d h⟩
theorem Res.of_d {w0 w : Wd} {v : V} {x : Py.D} (h : Res T w0 w v (.d x)) : Rep T w.G w.φ v x := by
  obtain ⟨l, _, r⟩ := h
  cases r with
  | d r => exact r
/-- a value seen in place -/
def View (T : Tb) (w : Wd) (v : V) (o : Py.O) : Prop := ∃ (l : Lab) (r : Root) (π : List Nat), RepO T { w with lab := l } r π v o
theorem Res.view {w0 w : Wd} {v : V} {o : Py.O} (h : Res T w0 w v o) : View T w v o := by
  obtain ⟨l, _, r⟩ := h
  exact ⟨l, .tmp, [], r⟩
theorem View.mono {w w' : Wd} {v : V} {o : Py.O} (h : View T w v o) (g : GLe w.G w'.G) (f : PLe w.φ w'.φ) (e : GLe w.H w'.H) : View T w' v o := by
  obtain ⟨l, r, π, h⟩ := h
  refine ⟨l, r, π, RepO.move ?_ h⟩
  exact ⟨g, f, fun a π q => ⟨q, fun o z => e a o z⟩⟩
/-- a result is carried over a step -/
theorem Res.step {w0 w w' : Wd} {v : V} {o : Py.O} (h : Res T w0 w v o) (s : Stp w w') : Res T w0 w' v o := by
  obtain ⟨l, a, r⟩ := h
  refine ⟨l, fun p x e => ?_, RepO.move (w := { w with lab := l }) (w' := { w' with lab := l }) ⟨s.g, s.f, fun p π q => ⟨q, fun o z => ?_⟩⟩ r⟩
  · obtain ⟨a1, a2, a3, a4, a5⟩ := a p x e
    cases z : w.H p with
    | none => exact absurd z a4
    | some u =>
      obtain ⟨b1, b2, b3⟩ := s.h p u z a2
      exact ⟨a1, b2, b3.trans a3, (by rw [b1]; exact fun q => nomatch q), a5⟩
  · obtain ⟨a1, a2, a3, a4, a5⟩ := a p _ q
    exact (s.h p o z a2).1
/-- .. seen from an earlier start -/
theorem Res.from {w0 w1 w : Wd} {v : V} {o : Py.O} (h : Res T w1 w v o) (s : Stp w0 w1) : Res T w0 w v o := by
  obtain ⟨l, a, r⟩ := h
  refine ⟨l, fun p x e => ?_, r⟩
  obtain ⟨a1, a2, a3, a4, a5⟩ := a p x e
  refine ⟨a1, a2, a3, a4, ?_⟩
  cases z : w0.H p with
  | none => exact .inl rfl
  | some u =>
    refine .inr fun q => ?_
    obtain ⟨b1, b2, b3⟩ := s.h p u z q
    rcases a5 with a5 | a5
    · rw [b1] at a5
      cases a5
    · exact a5 b2
/-- an owned result becomes data -/
theorem Res.toD {w0 w : Wd} {v : V} {o : Py.O} {σ : L2.St} {s : Py.St} (h : Res T w0 w v o) (st : Stp w0 w) (rs : RS T w σ s) : ∃ w', w'.H = w.H ∧ Stp w0 w' ∧ RS T w' σ s ∧ Rep T w'.G w'.φ v o.toD ∧ w'.φ = w.φ ∧ GLe w.G w'.G ∧ w'.lab = w.lab := by
  obtain ⟨l, a, r⟩ := h
  have k : LabOk { w with lab := l } := ⟨rs.gh, fun p x e => ⟨(a p x e).2.2.1, (a p x e).2.2.2.1⟩⟩
  have hg : GLe w.G (frzG { w with lab := l } .tmp) := k.gle .tmp
  have hl : ∀ p, w.lab p ≠ none → frzG { w with lab := l } .tmp p = w.G p := fun p q => frzG_ne fun π e => q (a p _ e).2.1
  refine ⟨{ w with G := frzG { w with lab := l } .tmp }, rfl, ⟨st.g.trans hg, st.f, fun p u hu hn => ?_, st.t⟩, ⟨⟨fun p u hu => ?_, fun p x e => ?_⟩, fun i u hu => ?_, fun n u hu => ?_, rs.len, rs.el⟩, r.frz k, rfl, hg, rfl⟩
  · obtain ⟨b1, b2, b3⟩ := st.h p u hu hn
    refine ⟨b1, b2, ?_⟩
    show frzG { w with lab := l } .tmp p = w0.G p
    rw [← b3]
    refine frzG_ne fun π e => ?_
    rcases (a p _ e).2.2.2.2 with q | q
    · rw [q] at hu
      cases hu
    · exact q hn
  · by_cases q : ∃ π, l p = some (.tmp, π)
    · obtain ⟨π, q⟩ := q
      have e : frzG { w with lab := l } .tmp p = w.H p := frzG_at (w := { w with lab := l }) q
      exact e.symm.trans hu
    · have e : frzG { w with lab := l } .tmp p = w.G p := frzG_ne (w := { w with lab := l }) fun π z => q ⟨π, z⟩
      exact rs.gh p u (e.symm.trans hu)
  · refine ⟨?_, (rs.lg p x e).2⟩
    show frzG { w with lab := l } .tmp p = none
    rw [hl p (by rw [show w.lab p = some x from e]; exact fun z => nomatch z)]
    exact (rs.lg p x e).1
  · obtain ⟨v, e1, e2⟩ := rs.env i u hu
    refine ⟨v, e1, RepO.move ?_ e2⟩
    exact ⟨hg, PLe.refl _, fun p π q => ⟨q, fun _ z => z⟩⟩
  · obtain ⟨v, e1, e2⟩ := rs.sto n u hu
    refine ⟨v, e1, RepO.move ?_ e2⟩
    exact ⟨hg, PLe.refl _, fun p π q => ⟨q, fun _ z => z⟩⟩
/-- an owned result becomes what name i holds -/
theorem Res.store {w0 w : Wd} {v : V} {o : Py.O} {σ : L2.St} {s : Py.St} {i : Nat} (h : Res T w0 w v o) (st : Stp w0 w) (rs : RS T w σ s) (hi : i < σ.length) :
    ∃ w', w'.H = w.H ∧ Stp w0 w' ∧ RS T w' (σ.set i (some v)) { s with env := s.env.set i (some o) } := by
  obtain ⟨l, a, r⟩ := h
  let lab' : Lab := fun p => match l p with
    | some (_, π) => some (.slot i, π)
    | none => dropL (.slot i) w.lab p
  have l1 : ∀ {p r π}, l p = some (r, π) → lab' p = some (.slot i, π) := fun {p r π} e => by
    show (match l p with | some (_, π) => some (Root.slot i, π) | none => dropL (.slot i) w.lab p) = _
    rw [e]
  have l0 : ∀ {p}, l p = none → lab' p = dropL (.slot i) w.lab p := fun {p} e => by
    show (match l p with | some (_, π) => some (Root.slot i, π) | none => dropL (.slot i) w.lab p) = _
    rw [e]
  have other : ∀ r', r' ≠ .slot i → Moves w { w with lab := lab' } r' r' := fun r' hr => ⟨GLe.refl _, PLe.refl _, fun p π q => ⟨?_, fun _ z => z⟩⟩
  · refine ⟨{ w with lab := lab' }, rfl, ⟨st.g, st.f, fun p u hu hn => ?_, st.t⟩, ⟨⟨rs.gh, fun p x e => ?_⟩, fun j u hu => ?_, fun n u hu => ?_, rs.len, ?_⟩⟩
    · obtain ⟨b1, b2, b3⟩ := st.h p u hu hn
      refine ⟨b1, ?_, b3⟩
      cases q : l p with
      | none =>
        show lab' p = none
        rw [l0 q]
        exact dropL_none b2
      | some x =>
        rcases (a p x q).2.2.2.2 with z | z
        · rw [z] at hu
          cases hu
        · exact absurd hn z
    · cases q : l p with
      | none =>
        have e : lab' p = some x := e
        rw [l0 q] at e
        exact rs.lg p x (dropL_some e).1
      | some y => exact ⟨(a p y q).2.2.1, (a p y q).2.2.2.1⟩
    · by_cases hj : j = i
      · subst hj
        have hje : j < s.env.length := by rw [rs.el]; exact hi
        rw [List.getElem?_set_self hje] at hu
        cases hu
        refine ⟨v, by rw [List.getElem?_set_self hi], RepO.move ?_ r⟩
        exact ⟨GLe.refl _, PLe.refl _, fun p π q => ⟨l1 q, fun _ z => z⟩⟩
      · rw [List.getElem?_set_ne (Ne.symm hj)] at hu
        obtain ⟨v', e1, e2⟩ := rs.env j u hu
        refine ⟨v', by rw [List.getElem?_set_ne (Ne.symm hj)]; exact e1, RepO.move (other _ ?_) e2⟩
        exact fun z => hj (Root.slot.inj z)
    · obtain ⟨v', e1, e2⟩ := rs.sto n u hu
      refine ⟨v', e1, RepO.move (other _ ?_) e2⟩
      exact fun z => nomatch z
    · show (s.env.set i (some o)).length = (σ.set i (some v)).length
      rw [List.length_set, List.length_set]
      exact rs.el
  · cases z : l p with
    | none =>
      show lab' p = _
      rw [l0 z, dropL_ne fun π' e => ?_]
      · exact q
      · rw [q] at e
        exact hr (Prod.mk.inj (Option.some.inj e)).1
    | some y =>
      rw [(a p y z).2.1] at q
      cases q
end PyS
end

section
set_option Elab.async false
set_option linter.all false
set_option maxRecDepth 100000
set_option maxHeartbeats 2000000
/-! S2: what the interpreter tells of an expression the expression does. -/
namespace PyS
open PySem L2
variable {T : Tb}

/-! ### data seen at the heap -/
inductive At (T : Tb) (w : Wd) : V → Py.D → Prop
  | g {v : V} {d : Py.D} : Rep T w.G w.φ v d → At T w v d
  | lst {a : Addr} {xs : List V} {ds : List Py.D} : w.H a = some (.lst xs) → Reps T w.G w.φ xs ds → At T w (.ref a) (.lst ds)
  | dic {a : Addr} {kvs : List (Key × V)} {l : List (Py.D × Py.D)} : w.H a = some (.dK kvs) → RepK T w.G w.φ kvs l → At T w (.ref a) (.dic l)
theorem RepOs.pures {w : Wd} {r : Root} : ∀ {os : List Py.O} {π : List Nat} {j : Nat} {vs : List V} {ds : List Py.D}, RepOs T w r π j vs os → Py.O.pures os = some ds → Reps T w.G w.φ vs ds
  | [], _, _, _, _, .nil, h => by
    cases h
    exact .nil
  | .d x :: os, _, _, _, _, .cons (.d a) b, h => by
    rw [Py.O.pures] at h
    cases e : Py.O.pures os with
    | none => rw [e] at h; cases h
    | some z =>
      rw [e] at h
      cases h
      exact .cons a (b.pures e)
  | .lst _ :: _, _, _, _, _, _, h => by cases h
  | .dic _ :: _, _, _, _, _, _, h => by cases h
  | .ins _ _ :: _, _, _, _, _, _, h => by cases h
theorem RepOk.pures {w : Wd} {r : Root} : ∀ {os : List (Py.D × Py.O)} {π : List Nat} {j : Nat} {vs : List (Key × V)} {ds : List (Py.D × Py.D)}, RepOk T w r π j vs os → Py.O.pureKs os = some ds → RepK T w.G w.φ vs ds
  | [], _, _, _, _, .nil, h => by
    cases h
    exact .nil
  | (k, .d x) :: os, _, _, _, _, q, h => by
    cases q with
    | cons a b =>
    cases a with
    | d a =>
    rw [Py.O.pureKs] at h
    cases e : Py.O.pureKs os with
    | none => rw [e] at h; cases h
    | some z =>
      rw [e] at h
      cases h
      exact .cons a (b.pures e)
  | (_, .lst _) :: _, _, _, _, _, _, h => by cases h
  | (_, .dic _) :: _, _, _, _, _, _, h => by cases h
  | (_, .ins _ _) :: _, _, _, _, _, _, h => by cases h
theorem View.at {w : Wd} {v : V} {o : Py.O} {d : Py.D} (h : View T w v o) (f : o.flat = some d) : At T w v d := by
  obtain ⟨l, r, π, h⟩ := h
  cases h with
  | d h =>
    cases f
    exact .g h
  | @lst π a xs os h1 h2 h3 =>
    rw [Py.O.flat] at f
    cases e : Py.O.pures os with
    | none => rw [e] at f; cases f
    | some z =>
      rw [e] at f
      cases f
      exact .lst h2 (h3.pures e)
  | @dic π a xs os h1 h2 h3 =>
    rw [Py.O.flat] at f
    cases e : Py.O.pureKs os with
    | none => rw [e] at f; cases f
    | some z =>
      rw [e] at f
      cases f
      exact .dic h2 (h3.pures e)
  | ins h1 h2 h3 h4 => cases f
  | tab h1 h2 h3 h4 => cases f
theorem At.mono {w w' : Wd} {v : V} {d : Py.D} (h : At T w v d) (g : GLe w.G w'.G) (f : PLe w.φ w'.φ) (e : GLe w.H w'.H) : At T w' v d := by
  cases h with
  | g h => exact .g (h.mono g f)
  | lst a b => exact .lst (e _ _ a) (b.mono g f)
  | dic a b => exact .dic (e _ _ a) (b.mono g f)
theorem At.int {w : Wd} {v : V} {i : Int} (h : At T w v (.int i)) : v = .int i := by
  cases h with
  | g h => cases h; rfl
theorem At.bl {w : Wd} {v : V} {i : Bool} (h : At T w v (.bl i)) : v = .bl i := by
  cases h with
  | g h => cases h; rfl
theorem At.lst' {w : Wd} {v : V} {ds : List Py.D} (k : LabOk w) (h : At T w v (.lst ds)) : ∃ a xs, v = .ref a ∧ w.H a = some (.lst xs) ∧ Reps T w.G w.φ xs ds := by
  cases h with
  | g h =>
    cases h with
    | lst a b => exact ⟨_, _, rfl, k.gh _ _ a, b⟩
  | lst a b => exact ⟨_, _, rfl, a, b⟩
theorem At.tup' {w : Wd} {v : V} {ds : List Py.D} (k : LabOk w) (h : At T w v (.tup ds)) : ∃ a xs, v = .ref a ∧ w.H a = some (.tup xs) ∧ Reps T w.G w.φ xs ds := by
  cases h with
  | g h =>
    cases h with
    | tup a b => exact ⟨_, _, rfl, k.gh _ _ a, b⟩
theorem Reps.length : ∀ {G : Hp} {φ : List Addr} {vs : List V} {ds : List Py.D}, Reps T G φ vs ds → vs.length = ds.length
  | _, _, _, _, .nil => rfl
  | _, _, _, _, .cons _ b => by rw [List.length_cons, List.length_cons, b.length]
theorem Reps.append : ∀ {G : Hp} {φ : List Addr} {vs us : List V} {ds es : List Py.D}, Reps T G φ vs ds → Reps T G φ us es → Reps T G φ (vs ++ us) (ds ++ es)
  | _, _, _, _, _, _, .nil, b => b
  | _, _, _, _, _, _, .cons a c, b => .cons a (c.append b)
theorem Reps.get : ∀ {G : Hp} {φ : List Addr} {vs : List V} {ds : List Py.D} {i : Nat} {d : Py.D}, Reps T G φ vs ds → ds[i]? = some d → ∃ v, vs[i]? = some v ∧ Rep T G φ v d
  | _, _, _, _, _, _, .nil, e => by simp at e
  | _, _, _, _, 0, _, .cons a _, e => by
    simp at e
    subst e
    exact ⟨_, rfl, a⟩
  | _, _, _, _, i + 1, _, .cons _ b, e => by
    obtain ⟨v, h1, h2⟩ := b.get (i := i) (by simpa using e)
    exact ⟨v, by simpa using h1, h2⟩
theorem Reps.drop : ∀ {G : Hp} {φ : List Addr} {vs : List V} {ds : List Py.D} (n : Nat), Reps T G φ vs ds → Reps T G φ (vs.drop n) (ds.drop n)
  | _, _, _, _, 0, r => r
  | _, _, _, _, _ + 1, .nil => .nil
  | _, _, _, _, n + 1, .cons _ t => Reps.drop n t
theorem Reps.take : ∀ {G : Hp} {φ : List Addr} {vs : List V} {ds : List Py.D} (n : Nat), Reps T G φ vs ds → Reps T G φ (vs.take n) (ds.take n)
  | _, _, _, _, 0, r => .nil
  | _, _, _, _, _ + 1, .nil => .nil
  | _, _, _, _, n + 1, .cons a t => .cons a (Reps.take n t)
theorem Reps.rep {G : Hp} {φ : List Addr} {vs : List V} {ds : List Py.D} (h : Reps T G φ vs ds) : ∀ k : Nat, Reps T G φ (List.replicate k vs).flatten (List.replicate k ds).flatten
  | 0 => .nil
  | k + 1 => by
    rw [List.replicate_succ, List.replicate_succ, List.flatten_cons, List.flatten_cons]
    exact h.append (h.rep k)
theorem Reps.intsD : ∀ {G : Hp} {φ : List Addr} {ds : List Py.D} {vs : List V} {ns : List Int}, Reps T G φ vs ds → Py.intsD ds = some ns → vs = ns.map V.int
  | _, _, [], _, _, .nil, h => by
    cases h
    rfl
  | _, _, .int i :: ds, _, _, .cons (.int _) b, h => by
    rw [Py.intsD] at h
    cases e : Py.intsD ds with
    | none => rw [e] at h; cases h
    | some z =>
      rw [e] at h
      cases h
      rw [b.intsD e]
      rfl
theorem Reps.bls : ∀ {G : Hp} {φ : List Addr} {ds : List Py.D} {vs : List V} {ns : List Bool}, Reps T G φ vs ds → Py.bls ds = some ns → vs = ns.map V.bl
  | _, _, [], _, _, .nil, h => by
    cases h
    rfl
  | _, _, .bl i :: ds, _, _, .cons (.bl _) b, h => by
    rw [Py.bls] at h
    cases e : Py.bls ds with
    | none => rw [e] at h; cases h
    | some z =>
      rw [e] at h
      cases h
      rw [b.bls e]
      rfl

/-! ### new objects -/
theorem upd_gle {H : Hp} {p : Addr} {o : HO} (h : H p = none) : GLe H (upd H p o) := fun a u e => by
  rw [upd_ne (ne_of_none e h)]
  exact e
theorem gle_ne {H H' : Hp} (e : GLe H H') {a : Addr} (h : H a ≠ none) : H' a ≠ none := fun z => by
  cases q : H a with
  | none => exact h q
  | some u =>
    rw [e a u q] at z
    cases z
theorem RS.alloc {w : Wd} {σ : L2.St} {s : Py.St} (rs : RS T w σ s) {p : Addr} (hp : w.H p = none) (o : HO) :
    Stp w { w with H := upd w.H p o } ∧ RS T { w with H := upd w.H p o } σ s := by
  have hg : GLe w.H (upd w.H p o) := upd_gle hp
  refine ⟨⟨GLe.refl _, PLe.refl _, fun a u h l => ⟨hg a u h, l, rfl⟩, fun a h => gle_ne hg h⟩, ⟨⟨fun a u h => hg a u (rs.gh a u h), fun a r h => ⟨(rs.lg a r h).1, gle_ne hg (rs.lg a r h).2⟩⟩, fun i u h => ?_, fun n u h => ?_, rs.len, rs.el⟩⟩
  · obtain ⟨v, e1, e2⟩ := rs.env i u h
    refine ⟨v, e1, RepO.move ?_ e2⟩
    exact ⟨GLe.refl _, PLe.refl _, fun a π q => ⟨q, fun o' z => hg a o' z⟩⟩
  · obtain ⟨v, e1, e2⟩ := rs.sto n u h
    refine ⟨v, e1, RepO.move ?_ e2⟩
    exact ⟨GLe.refl _, PLe.refl _, fun a π q => ⟨q, fun o' z => hg a o' z⟩⟩
theorem Reps.os {w : Wd} {r : Root} : ∀ {vs : List V} {ds : List Py.D} {π : List Nat} {j : Nat}, Reps T w.G w.φ vs ds → RepOs T w r π j vs (ds.map .d)
  | _, _, _, _, .nil => .nil
  | _, _, _, _, .cons a b => .cons (.d a) b.os
/-- a new list -/
theorem RS.newL {w : Wd} {σ : L2.St} {s : Py.St} (rs : RS T w σ s) {p : Addr} (hp : w.H p = none) {xs : List V} {ds : List Py.D} (r : Reps T w.G w.φ xs ds) :
    Res T w { w with H := upd w.H p (.lst xs) } (.ref p) (.lst (ds.map .d)) := by
  refine ⟨fun a => if a = p then some (.tmp, []) else none, fun a x e => ?_, .lst (by simp) upd_same (Reps.os (w := { w with H := upd w.H p (.lst xs), lab := fun a => if a = p then some (.tmp, []) else none }) r)⟩
  replace e : (if a = p then some (Root.tmp, ([] : List Nat)) else none) = some x := e
  by_cases q : a = p
  · rw [if_pos q] at e
    subst q
    cases e
    refine ⟨rfl, ?_, ?_, (by show upd w.H a (.lst xs) a ≠ none; rw [upd_same]; exact fun z => nomatch z), .inl hp⟩
    · cases z : w.lab a with
      | none => rfl
      | some r => exact absurd hp (rs.lg a r z).2
    · cases z : w.G a with
      | none => rfl
      | some u => rw [rs.gh a u z] at hp; cases hp
  · rw [if_neg q] at e
    cases e
/-- a new tuple: it is frozen at once -/
theorem RS.newT {w : Wd} {σ : L2.St} {s : Py.St} (rs : RS T w σ s) {p : Addr} (hp : w.H p = none) {xs : List V} {ds : List Py.D} (r : Reps T w.G w.φ xs ds) :
    ∃ w' : Wd, w'.H = upd w.H p (.tup xs) ∧ Stp w w' ∧ RS T w' σ s ∧ Rep T w'.G w'.φ (.ref p) (.tup ds) := by
  obtain ⟨a1, a2⟩ := rs.alloc hp (.tup xs)
  have hG : w.G p = none := by
    cases z : w.G p with
    | none => rfl
    | some u => rw [rs.gh p u z] at hp; cases hp
  have hg : GLe w.G (upd w.G p (.tup xs)) := upd_gle hG
  have hl : ∀ a r, w.lab a = some r → a ≠ p := fun a r h z => by
    subst z
    exact (rs.lg a r h).2 hp
  refine ⟨{ w with H := upd w.H p (.tup xs), G := upd w.G p (.tup xs) }, rfl, ⟨hg, PLe.refl _, fun a u h l => ?_, a1.t⟩, ⟨⟨fun a u h => ?_, fun a r h => ⟨?_, (a2.lg a r h).2⟩⟩, fun i u h => ?_, fun n u h => ?_, rs.len, rs.el⟩, .tup upd_same (r.mono hg (PLe.refl _))⟩
  · obtain ⟨b1, b2, _⟩ := a1.h a u h l
    refine ⟨b1, b2, ?_⟩
    show upd w.G p (.tup xs) a = w.G a
    exact upd_ne (ne_of_none h hp)
  · by_cases q : a = p
    · subst q
      have h' : upd w.G a (.tup xs) a = some u := h
      rw [upd_same] at h'
      cases h'
      exact upd_same
    · have h' : upd w.G p (.tup xs) a = some u := h
      rw [upd_ne q] at h'
      show upd w.H p (.tup xs) a = some u
      rw [upd_ne q]
      exact rs.gh a u h'
  · show upd w.G p (.tup xs) a = none
    rw [upd_ne (hl a r h)]
    exact (rs.lg a r h).1
  · obtain ⟨v, e1, e2⟩ := a2.env i u h
    refine ⟨v, e1, RepO.move ?_ e2⟩
    exact ⟨hg, PLe.refl _, fun a π q => ⟨q, fun o' z => z⟩⟩
  · obtain ⟨v, e1, e2⟩ := a2.sto n u h
    refine ⟨v, e1, RepO.move ?_ e2⟩
    exact ⟨hg, PLe.refl _, fun a π q => ⟨q, fun o' z => z⟩⟩
/-- what name i holds is frozen -/
theorem RS.freezeX {w : Wd} {σ : L2.St} {s : Py.St} (rs : RS T w σ s) {i : Nat} {o : Py.O} (h : s.env[i]? = some (some o)) :
    ∃ v, σ[i]? = some (some v) ∧ Stp w (frz w (.slot i)) ∧ RS T (frz w (.slot i)) σ { s with env := s.env.set i (some (.d o.toD)) } ∧ Rep T (frz w (.slot i)).G (frz w (.slot i)).φ v o.toD := by
  obtain ⟨v, e1, e2⟩ := rs.env i o h
  have hg := rs.toLabOk.gle (.slot i)
  have hr := e2.frz rs.toLabOk
  refine ⟨v, e1, ⟨hg, PLe.refl _, fun a u h l => ⟨h, dropL_none l, frzG_ne fun π z => by rw [l] at z; cases z⟩, fun _ h => h⟩, ⟨⟨fun a u z => ?_, fun a r z => ?_⟩, fun j u z => ?_, fun n u z => ?_, rs.len, by rw [← rs.el]; exact List.length_set⟩, hr⟩
  · by_cases q : ∃ π, w.lab a = some (.slot i, π)
    · obtain ⟨π, q⟩ := q
      have z' : frzG w (.slot i) a = some u := z
      rw [frzG_at q] at z'
      exact z'
    · have z' : frzG w (.slot i) a = some u := z
      rw [frzG_ne fun π e => q ⟨π, e⟩] at z'
      exact rs.gh a u z'
  · obtain ⟨z1, z2⟩ := dropL_some z
    refine ⟨?_, (rs.lg a r z1).2⟩
    show frzG w (.slot i) a = none
    rw [frzG_ne fun π e => ?_]
    · exact (rs.lg a r z1).1
    · rw [z1] at e
      cases e
      exact z2 rfl
  · by_cases hj : j = i
    · subst hj
      have hlt : j < s.env.length := (List.getElem?_eq_some_iff.mp h).1
      rw [List.getElem?_set_self hlt] at z
      cases z
      exact ⟨v, e1, .d hr⟩
    · rw [List.getElem?_set_ne (Ne.symm hj)] at z
      obtain ⟨v', z1, z2⟩ := rs.env j u z
      refine ⟨v', z1, RepO.move ?_ z2⟩
      refine ⟨hg, PLe.refl _, fun a π q => ⟨?_, fun _ z => z⟩⟩
      refine (dropL_ne fun π' e => ?_).trans q
      rw [q] at e
      cases e
      exact hj rfl
  · obtain ⟨v', z1, z2⟩ := rs.sto n u z
    refine ⟨v', z1, RepO.move ?_ z2⟩
    refine ⟨hg, PLe.refl _, fun a π q => ⟨?_, fun _ z => z⟩⟩
    refine (dropL_ne fun π' e => ?_).trans q
    rw [q] at e
    cases e

theorem RS.freeze {w : Wd} {σ : L2.St} {s : Py.St} (rs : RS T w σ s) {i : Nat} {o : Py.O} (h : s.env[i]? = some (some o)) :
    ∃ v w', σ[i]? = some (some v) ∧ w'.H = w.H ∧ Stp w w' ∧ RS T w' σ { s with env := s.env.set i (some (.d o.toD)) } ∧ Rep T w'.G w'.φ v o.toD := by
  obtain ⟨v, a, b, d, e⟩ := rs.freezeX h
  exact ⟨v, frz w (.slot i), a, rfl, b, d, e⟩

/-! ### the statement -/
/-- what e does, whatever is asked -/
def WE (X : Cx) (e : Expr) : TE := fun σ H Q => ∀ (pins : List (Addr × Obj)) (s : Shared), Inv X pins σ H s → wpAny (model X.prog X.w) X.A (eval e X.env) (EP X pins σ Q) X.xe s
theorem pe_self {X : Cx} {e : Expr} : PE X e (WE X e) := ⟨fun pins s σ H Q I h => h pins s I⟩
theorem WE.of {X : Cx} {e : Expr} {t : TE} (p : PE X e t) {σ : L2.St} {H : Hp} {Q : VK} (h : t σ H Q) : WE X e σ H Q := fun pins s I => p.run pins s σ H Q I h
def WA (X : Cx) (es : List Expr) : TA := fun σ H Q => ∀ (pos : Pos) (pins : List (Addr × Obj)) (s : Shared), Inv X pins σ H s → wpAny (model X.prog X.w) X.A (spliced (backTo pos (starEach es X.env))) (AP X pins σ Q) X.xe s
theorem pa_self {X : Cx} {e : List Expr} : PA X e (WA X e) := ⟨fun pos pins s σ H Q I h => h pos pins s I⟩
theorem WA.of {X : Cx} {e : List Expr} {t : TA} (p : PA X e t) {σ : L2.St} {H : Hp} {Q : List V → Hp → Prop} (h : t σ H Q) : WA X e σ H Q := fun pos pins s I => p.run pos pins s σ H Q I h
def WT (X : Cx) (e : Expr) : TT := fun σ H Q => ∀ (pins : List (Addr × Obj)) (s : Shared), Inv X pins σ H s → wpAny (model X.prog X.w) X.A (isTrue e X.env (eval e X.env)) (TP X pins σ Q) X.xe s
theorem pt_self {X : Cx} {e : Expr} : PT X e (WT X e) := ⟨fun pins s σ H Q I h => h pins s I⟩
theorem WT.of {X : Cx} {e : Expr} {t : TT} (p : PT X e t) {σ : L2.St} {H : Hp} {Q : Bool → Hp → Prop} (h : t σ H Q) : WT X e σ H Q := fun pins s I => p.run pins s σ H Q I h

def PO (T : Tb) (m : Bool) (E : Py.E) (w w' : Wd) (v : V) (o : Py.O) : Prop := if (m && E.place) = true then View T w' v o else Res T w w' v o
theorem PO.view {m : Bool} {E : Py.E} {w w' : Wd} {v : V} {o : Py.O} (h : PO T m E w w' v o) : View T w' v o := by
  unfold PO at h
  split at h
  · exact h
  · exact h.view
theorem PO.res {E : Py.E} {w w' : Wd} {v : V} {o : Py.O} (h : PO T false E w w' v o) : Res T w w' v o := h
theorem PO.of {m : Bool} {E : Py.E} {w w' : Wd} {v : V} {o : Py.O} (h : Res T w w' v o) : PO T m E w w' v o := by
  unfold PO
  split
  · exact h.view
  · exact h
theorem PO.fresh {m : Bool} {E : Py.E} {w w' : Wd} {v : V} {o : Py.O} (h : PO T m E w w' v o) (n : E.place = false) : Res T w w' v o := by
  unfold PO at h
  rw [n, Bool.and_false] at h
  exact h
theorem PO.rep {m : Bool} {E : Py.E} {w w' : Wd} {v : V} {x : Py.D} (h : PO T m E w w' v (.d x)) : Rep T w'.G w'.φ v x := by
  obtain ⟨l, r, π, q⟩ := h.view
  cases q with
  | d q => exact q
def Qt (E : Py.E) (w w' : Wd) : Prop := E.quiet = true → GLe w.H w'.H
/-- e does what the interpreter tells of E -/
def SimE (T : Tb) (c : Py.Cx) (X : Cx) (e : Expr) (E : Py.E) : Prop :=
  ∀ (m : Bool) (w : Wd) (σ : L2.St) (s : Py.St) (o : Py.O) (s' : Py.St), RS T w σ s → Py.ev c m E s = some (o, s') →
    ∀ Q : VK, (∀ v w', Stp w w' → RS T w' σ s' → Qt E w w' → PO T m E w w' v o → Q v w'.H) → WE X e σ w.H Q
def SimT (T : Tb) (c : Py.Cx) (X : Cx) (e : Expr) (E : Py.E) : Prop :=
  ∀ (w : Wd) (σ : L2.St) (s : Py.St) (b : Bool) (s' : Py.St), RS T w σ s → Py.ev c false E s = some (.d (.bl b), s') →
    ∀ Q : Bool → Hp → Prop, (∀ w', Stp w w' → RS T w' σ s' → Qt E w w' → Q b w'.H) → WT X e σ w.H Q
def SimEs (T : Tb) (c : Py.Cx) (X : Cx) (es : List Expr) (Es : List Py.E) : Prop :=
  ∀ (w : Wd) (σ : L2.St) (s : Py.St) (ds : List Py.D) (s' : Py.St), RS T w σ s → Py.evs c Es s = some (ds, s') →
    ∀ Q : List V → Hp → Prop, (∀ vs w', Stp w w' → RS T w' σ s' → (Py.E.quiet.go Es = true → GLe w.H w'.H) → Reps T w'.G w'.φ vs ds → Q vs w'.H) → WA X es σ w.H Q

section
variable {c : Py.Cx} {X : Cx}
theorem Qt.refl {E : Py.E} {w : Wd} : Qt E w w := fun _ => GLe.refl _

/-! ### constants, names -/
theorem sim_con {e : Expr} {v : V} {d : Py.D} (p : PE X e (tC v)) (r : ∀ G φ, Rep T G φ v d) : SimE T c X e (.con d) := by
  intro m w σ s o s' rs e Q q
  simp only [Py.ev, Option.some.injEq, Prod.mk.injEq] at e
  obtain ⟨rfl, rfl⟩ := e
  exact WE.of p (q _ w (Stp.refl _) rs Qt.refl (PO.of (Res.d (r _ _))))
theorem sim_var {e : Expr} {i : Nat} (p : PE X e (tVar i)) : SimE T c X e (.var i) := by
  intro m w σ s o s' rs e Q q
  simp only [Py.ev] at e
  cases h : s.env[i]? with
  | none => rw [h] at e; cases e
  | some z =>
    rw [h] at e
    cases z with
    | none => cases e
    | some u =>
      cases m with
      | false =>
        simp only [Bool.false_eq_true, if_false, Option.some.injEq, Prod.mk.injEq] at e
        obtain ⟨rfl, rfl⟩ := e
        obtain ⟨v, w', e1, e2, e3, e4, e5⟩ := rs.freeze h
        refine WE.of p ⟨v, e1, ?_⟩
        rw [← e2]
        exact q v w' e3 e4 (fun _ => by rw [e2]; exact GLe.refl _) (PO.of (Res.d e5))
      | true =>
        simp only [if_true] at e
        obtain ⟨v, e1, e2⟩ := rs.env i u h
        have fin : ∀ o', View T w v o' → Q v w.H → WE X _ σ w.H Q := fun o' _ hq => WE.of p ⟨v, e1, hq⟩
        split at e
        · rename_i n
          cases hs : s.sto[n]? with
          | none => rw [hs] at e; cases e
          | some y =>
            rw [hs] at e
            simp only [Option.map_some, Option.some.injEq, Prod.mk.injEq] at e
            obtain ⟨rfl, rfl⟩ := e
            obtain ⟨a, f1, f2⟩ := rs.sto n y hs
            cases e2 with
            | d e2 =>
              cases e2 with
              | cell g =>
                rw [f1] at g
                cases g
                exact WE.of p ⟨_, e1, q _ w (Stp.refl _) rs Qt.refl (show PO T true _ w w _ _ from ⟨w.lab, _, _, f2⟩)⟩
        · simp only [Option.some.injEq, Prod.mk.injEq] at e
          obtain ⟨rfl, rfl⟩ := e
          exact WE.of p ⟨_, e1, q _ w (Stp.refl _) rs Qt.refl (show PO T true _ w w _ _ from ⟨w.lab, _, _, e2⟩)⟩
/-! ### argument lists, displays -/
theorem sims_nil : SimEs T c X [] [] := by
  intro w σ s ds s' rs e Q q
  simp only [Py.evs, Option.some.injEq, Prod.mk.injEq] at e
  obtain ⟨rfl, rfl⟩ := e
  exact WA.of pa_nil (q [] w (Stp.refl _) rs (fun _ => GLe.refl _) .nil)
def notStar : Expr → Bool
  | .Starred _ _ => false
  | _ => true
theorem starEach_not {e : Expr} (h : notStar e = true) (es : List Expr) (env : Env) : starEach (e :: es) env = (false, eval e env) :: starEach es env := by
  cases e <;> first | rfl | cases h
def isStarE : Py.E → Bool
  | .star _ => true
  | _ => false
theorem evs_cons {E : Py.E} {Es : List Py.E} {s : Py.St} (h : isStarE E = false) : Py.evs c (E :: Es) s = match Py.ev c false E s with
    | some (o, s1) => match Py.evs c Es s1 with
      | some (ds, s2) => some (o.toD :: ds, s2)
      | none => none
    | none => none := by
  cases E <;> first | rfl | cases h
theorem quiet_go_cons {E : Py.E} {Es : List Py.E} (h : Py.E.quiet.go (E :: Es) = true) : E.quiet = true ∧ Py.E.quiet.go Es = true := by
  rw [Py.E.quiet.go, Bool.and_eq_true] at h
  exact h
theorem sims_cons {e : Expr} {es : List Expr} {E : Py.E} {Es : List Py.E} (n : notStar e = true) (n' : isStarE E = false) (h : SimE T c X e E) (hs : SimEs T c X es Es) : SimEs T c X (e :: es) (E :: Es) := by
  intro w σ s ds s' rs ev Q q
  rw [evs_cons n'] at ev
  cases e1 : Py.ev c false E s with
  | none => rw [e1] at ev; cases ev
  | some p =>
    obtain ⟨o, s1⟩ := p
    rw [e1] at ev
    simp only at ev
    cases e2 : Py.evs c Es s1 with
    | none => rw [e2] at ev; cases ev
    | some p2 =>
      obtain ⟨ds2, s2⟩ := p2
      rw [e2] at ev
      simp only [Option.some.injEq, Prod.mk.injEq] at ev
      obtain ⟨rfl, rfl⟩ := ev
      refine WA.of (pa_cons pe_self pa_self (starEach_not n es X.env)) ?_
      refine h false w σ s o s1 rs e1 _ fun v w1 st1 rs1 q1 p1 => ?_
      obtain ⟨w2, h2, st2, rs2, r2, f2, g2, l2⟩ := p1.res.toD st1 rs1
      rw [← h2]
      refine hs w2 σ s1 ds2 s2 rs2 e2 _ fun vs w3 st3 rs3 q3 r3 => ?_
      refine q (v :: vs) w3 (st2.trans st3) rs3 (fun qq => ?_) (.cons (r2.mono st3.g st3.f) r3)
      obtain ⟨qa, qb⟩ := quiet_go_cons qq
      have := q1 qa
      rw [← h2] at this
      exact this.trans (q3 qb)
theorem lenOk_le {n : Nat} (h : Py.lenOk n = true) : n ≤ sizeLine := by
  unfold Py.lenOk at h
  have := of_decide_eq_true h
  exact this
theorem sim_tup {es : List Expr} {Es : List Py.E} {k : Nat} {pos : Pos} (h : SimEs T c X es Es) : SimE T c X (.Tuple es k pos) (.tup Es) := by
  intro m w σ s o s' rs ev Q q
  simp only [Py.ev] at ev
  cases e1 : Py.evs c Es s with
  | none => rw [e1] at ev; cases ev
  | some p =>
    obtain ⟨ds, s1⟩ := p
    rw [e1] at ev
    simp only at ev
    split at ev
    · rename_i hz
      simp only [Option.some.injEq, Prod.mk.injEq] at ev
      obtain ⟨rfl, rfl⟩ := ev
      refine WE.of (pe_tup pa_self) ?_
      refine h w σ s ds _ rs e1 _ fun vs w1 st1 rs1 q1 r1 => ⟨(by rw [r1.length]; exact lenOk_le hz), fun p hp => ?_⟩
      obtain ⟨w2, h2, st2, rs2, r2⟩ := rs1.newT hp r1
      rw [← h2]
      refine q _ w2 (st1.trans st2) rs2 (fun qq => ?_) (PO.of (Res.d r2))
      rw [h2]
      exact (q1 (by simpa only [Py.E.quiet] using qq)).trans (upd_gle hp)
    · cases ev
theorem sim_lst {es : List Expr} {Es : List Py.E} {pos : Pos} (h : SimEs T c X es Es) : SimE T c X (.List es pos) (.lst Es) := by
  intro m w σ s o s' rs ev Q q
  simp only [Py.ev] at ev
  cases e1 : Py.evs c Es s with
  | none => rw [e1] at ev; cases ev
  | some p =>
    obtain ⟨ds, s1⟩ := p
    rw [e1] at ev
    simp only at ev
    split at ev
    · rename_i hz
      simp only [Option.some.injEq, Prod.mk.injEq] at ev
      obtain ⟨rfl, rfl⟩ := ev
      refine WE.of (pe_lst pa_self) ?_
      refine h w σ s ds _ rs e1 _ fun vs w1 st1 rs1 q1 r1 => ⟨(by rw [r1.length]; exact lenOk_le hz), fun p hp => ?_⟩
      obtain ⟨a1, a2⟩ := rs1.alloc hp (.lst vs)
      refine q (.ref p) { w1 with H := upd w1.H p (.lst vs) } (st1.trans a1) a2 (fun qq => ?_) (PO.of ((rs1.newL hp r1).from st1))
      exact (q1 (by simpa only [Py.E.quiet] using qq)).trans (upd_gle hp)
    · cases ev
end
end PyS
end

section
set_option Elab.async false
set_option linter.all false
set_option maxRecDepth 100000
set_option maxHeartbeats 2000000
/-! S3: operators, comparisons, tests. -/
namespace PyS
open PySem L2
variable {T : Tb}
section
variable {c : Py.Cx} {X : Cx}
/-- a seen value is still seen behind the second part -/
theorem PO.keep {m : Bool} {E : Py.E} {w w1 w2 : Wd} {v : V} {o : Py.O} (p : PO T m E w w1 v o) (st : Stp w1 w2) (h : o.isD = true ∨ GLe w1.H w2.H ∨ E.place = false) : View T w2 v o := by
  rcases h with h | h | h
  · cases o with
    | d x => exact ⟨fun _ => none, .tmp, [], .d (p.rep.mono st.g st.f)⟩
    | lst _ => cases h
    | dic _ => cases h
    | ins _ _ => cases h
    | tab _ => cases h
  · exact p.view.mono st.g st.f h
  · exact ((p.fresh h).step st).view
theorem keep_of {o : Py.O} {b a : Py.E} {w1 w2 : Wd} (h : (o.isD || b.quiet || !a.place) = true) (q : Qt b w1 w2) : o.isD = true ∨ GLe w1.H w2.H ∨ a.place = false := by
  rw [Bool.or_eq_true, Bool.or_eq_true] at h
  rcases h with (h | h) | h
  · exact .inl h
  · exact .inr (.inl (q h))
  · refine .inr (.inr ?_)
    cases z : a.place with
    | false => rfl
    | true => rw [z] at h; cases h
/-- what an operator's rule gives for f -/
def OpSim (T : Tb) (f : Py.D → Py.D → Option Py.O) (r : R2) : Prop := ∀ (x y : Py.D) (z : Py.O), f x y = some z → ∀ (w : Wd) (σ : L2.St) (s : Py.St) (v u : V), RS T w σ s → At T w v x → At T w u y →
  ∀ Q : VK, (∀ v' w', Stp w w' → RS T w' σ s → GLe w.H w'.H → Res T w w' v' z → Q v' w'.H) → r v u w.H Q
theorem ev_bin {f : Py.D → Py.D → Option Py.O} {A B : Py.E} {s s' : Py.St} {o : Py.O}
    (e : (match Py.ev c true A s with
      | some (oa, s1) => if (oa.isD || B.quiet || !A.place) = true then match Py.ev c true B s1 with
        | some (ob, s2) => match oa.flat, ob.flat with
          | some x, some y => (f x y).map fun o => (o, s2)
          | _, _ => none
        | none => none else none
      | none => none) = some (o, s')) :
    ∃ oa s1 ob x y, Py.ev c true A s = some (oa, s1) ∧ (oa.isD || B.quiet || !A.place) = true ∧ Py.ev c true B s1 = some (ob, s') ∧ oa.flat = some x ∧ ob.flat = some y ∧ f x y = some o := by
  split at e
  · rename_i oa s1 h1
    split at e
    · rename_i h2
      split at e
      · rename_i ob s2 h3
        split at e
        · rename_i x y h4 h5
          cases h6 : f x y with
          | none => rw [h6] at e; cases e
          | some z =>
            rw [h6] at e
            simp only [Option.map_some, Option.some.injEq, Prod.mk.injEq] at e
            obtain ⟨rfl, rfl⟩ := e
            exact ⟨oa, s1, ob, x, y, h1, h2, h3, h4, h5, h6⟩
        · cases e
      · cases e
    · cases e
  · cases e
theorem two {a b : Expr} {A B : Py.E} {r : R2} {f : Py.D → Py.D → Option Py.O} (hf : OpSim T f r) (ha : SimE T c X a A) (hb : SimE T c X b B)
    {w : Wd} {σ : L2.St} {s s1 s' : Py.St} {oa ob o : Py.O} {x y : Py.D} (rs : RS T w σ s) (h1 : Py.ev c true A s = some (oa, s1)) (h2 : (oa.isD || B.quiet || !A.place) = true) (h3 : Py.ev c true B s1 = some (ob, s')) (h4 : oa.flat = some x) (h5 : ob.flat = some y) (h6 : f x y = some o)
    {Q : VK} (q : ∀ v w', Stp w w' → RS T w' σ s' → (A.quiet = true → B.quiet = true → GLe w.H w'.H) → Res T w w' v o → Q v w'.H) : tOp r (WE X a) (WE X b) σ w.H Q := by
  refine ha true w σ s oa s1 rs h1 _ fun v w1 st1 rs1 q1 p1 => ?_
  refine hb true w1 σ s1 ob s' rs1 h3 _ fun u w2 st2 rs2 q2 p2 => ?_
  have k1 := p1.keep st2 (keep_of h2 q2)
  refine hf x y o h6 w2 σ s' v u rs2 (k1.at h4) (p2.view.at h5) Q fun v' w3 st3 rs3 g3 r3 => ?_
  exact q v' w3 ((st1.trans st2).trans st3) rs3 (fun qa qb => ((q1 qa).trans (q2 qb)).trans g3) (r3.from (st1.trans st2))
theorem sim_bin {a b : Expr} {A B : Py.E} {op : Py.Bop} {p : Operator} {pos : Pos} {r : R2} (ho : OpR X (binaryOp p) r) (hf : OpSim T (Py.bop op) r) (ha : SimE T c X a A) (hb : SimE T c X b B) : SimE T c X (.BinOp a p b pos) (.bin op A B) := by
  intro m w σ s o s' rs ev Q q
  simp only [Py.ev] at ev
  obtain ⟨oa, s1, ob, x, y, h1, h2, h3, h4, h5, h6⟩ := ev_bin ev
  refine WE.of (pe_op ho pe_self pe_self) (two hf ha hb rs h1 h2 h3 h4 h5 h6 fun v w' st' rs' q' r' => ?_)
  refine q v w' st' rs' (fun qq => ?_) (PO.of r')
  simp only [Py.E.quiet, Bool.and_eq_true] at qq
  exact q' qq.1 qq.2
def copO (op : Py.Cop) (x y : Py.D) : Option Py.O := (Py.cop op x y).map fun b => .d (.bl b)
def notSet : Expr → Bool
  | .Set _ _ _ => false
  | _ => true
theorem nomark' {b : Expr} (h : notSet b = true) (op : CmpOp) : behindInMarks op b = false := by
  cases b <;> first | rfl | cases h
theorem ev_cmp {op : Py.Cop} {A B : Py.E} {s : Py.St} : Py.ev c m (.cmp op A B) s = (match Py.ev c true A s with
      | some (oa, s1) => if (oa.isD || B.quiet || !A.place) = true then match Py.ev c true B s1 with
        | some (ob, s2) => match oa.flat, ob.flat with
          | some x, some y => (copO op x y).map fun o => (o, s2)
          | _, _ => none
        | none => none else none
      | none => none) := by
  simp only [Py.ev, copO, Option.map_map]
  rfl
theorem sim_cmp {a b : Expr} {A B : Py.E} {op : Py.Cop} {p : CmpOp} {pos : Pos} {r : R2} (ho : OpR X (compareOp p) r) (hf : OpSim T (copO op) r) (hn : notSet b = true) (ha : SimE T c X a A) (hb : SimE T c X b B) : SimE T c X (.Compare a [p] [b] pos) (.cmp op A B) := by
  intro m w σ s o s' rs ev Q q
  rw [ev_cmp] at ev
  obtain ⟨oa, s1, ob, x, y, h1, h2, h3, h4, h5, h6⟩ := ev_bin ev
  refine WE.of (pe_cmpR ho pe_self pe_self (nomark' hn p)) (two hf ha hb rs h1 h2 h3 h4 h5 h6 fun v w' st' rs' q' r' => ?_)
  refine q v w' st' rs' (fun qq => ?_) (PO.of r')
  simp only [Py.E.quiet, Bool.and_eq_true] at qq
  exact q' qq.1 qq.2
theorem simT_cmp {a b : Expr} {A B : Py.E} {op : Py.Cop} {p : CmpOp} {pos : Pos} {r : R2} (ho : OpR X (compareOp p) r) (hf : OpSim T (copO op) r) (hn : notSet b = true) (ha : SimE T c X a A) (hb : SimE T c X b B) : SimT T c X (.Compare a [p] [b] pos) (.cmp op A B) := by
  intro w σ s z s' rs ev Q q
  rw [ev_cmp] at ev
  obtain ⟨oa, s1, ob, x, y, h1, h2, h3, h4, h5, h6⟩ := ev_bin ev
  refine WT.of (pt_cmpR ho pe_self pe_self (nomark' hn p)) ?_
  refine two hf ha hb rs h1 h2 h3 h4 h5 h6 fun v w' st' rs' q' r' => ?_
  refine ⟨z, ?_, q w' st' rs' (fun qq => ?_)⟩
  · have := r'.of_d
    cases this
    rfl
  · simp only [Py.E.quiet, Bool.and_eq_true] at qq
    exact q' qq.1 qq.2
/-- a test of a value -/
def plainT : Expr → Bool
  | .BoolOp _ _ _ | .UnaryOp _ _ _ | .Compare _ _ _ _ | .IfExp _ _ _ _ | .NamedExpr _ _ _ | .Constant _ _ _ | .Tuple _ _ _ | .Await _ _ => false
  | _ => true
theorem Res.bl {w0 w : Wd} {v : V} {b : Bool} (h : Res T w0 w v (.d (.bl b))) : v = .bl b := by
  have := h.of_d
  cases this
  rfl
theorem Res.int {w0 w : Wd} {v : V} {b : Int} (h : Res T w0 w v (.d (.int b))) : v = .int b := by
  have := h.of_d
  cases this
  rfl
theorem simT_val {e : Expr} {E : Py.E} (he : ∀ whole, isTrue e X.env whole = (do let v ← whole; standAt e.pos; holding [v] (truthy v))) (h : SimE T c X e E) : SimT T c X e E := by
  intro w σ s z s' rs ev Q q
  refine WT.of (pt_val pe_self he) ?_
  refine h false w σ s _ s' rs ev _ fun v w1 st1 rs1 q1 p1 => ?_
  exact ⟨z, p1.res.bl, q w1 st1 rs1 q1⟩
theorem sim_neg {e : Expr} {E : Py.E} {pos : Pos} (h : SimE T c X e E) : SimE T c X (.UnaryOp .USub e pos) (.neg E) := by
  intro m w σ s o s' rs ev Q q
  simp only [Py.ev] at ev
  split at ev
  · rename_i i s1 e1
    simp only [Option.some.injEq, Prod.mk.injEq] at ev
    obtain ⟨rfl, rfl⟩ := ev
    refine WE.of (pe_un un_neg pe_self) ?_
    refine h false w σ s _ _ rs e1 _ fun v w1 st1 rs1 q1 p1 => ⟨i, p1.res.int, ?_⟩
    exact q _ w1 st1 rs1 (fun qq => q1 (by simpa only [Py.E.quiet] using qq)) (PO.of (Res.d (.int _)))
  · cases ev
/-! ### not, and, or -/
theorem sim_not {e : Expr} {E : Py.E} {pos : Pos} (h : SimE T c X e E) : SimE T c X (.UnaryOp .Not e pos) (.not E) := by
  intro m w σ s o s' rs ev Q q
  simp only [Py.ev] at ev
  split at ev
  · rename_i i s1 e1
    simp only [Option.some.injEq, Prod.mk.injEq] at ev
    obtain ⟨rfl, rfl⟩ := ev
    refine WE.of (pe_not pe_self) ?_
    refine h false w σ s _ _ rs e1 _ fun v w1 st1 rs1 q1 p1 => ⟨i, p1.res.bl, ?_⟩
    exact q _ w1 st1 rs1 (fun qq => q1 (by simpa only [Py.E.quiet] using qq)) (PO.of (Res.d (.bl _)))
  · cases ev
theorem simT_not {e : Expr} {E : Py.E} {pos : Pos} (h : SimT T c X e E) : SimT T c X (.UnaryOp .Not e pos) (.not E) := by
  intro w σ s z s' rs ev Q q
  simp only [Py.ev] at ev
  split at ev
  · rename_i i s1 e1
    simp only [Option.some.injEq, Prod.mk.injEq, Py.O.d.injEq, Py.D.bl.injEq] at ev
    obtain ⟨rfl, rfl⟩ := ev
    refine WT.of (pt_not pt_self) ?_
    refine h w σ s _ _ rs e1 _ fun w1 st1 rs1 q1 => ?_
    exact q w1 st1 rs1 (fun qq => q1 (by simpa only [Py.E.quiet] using qq))
  · cases ev
theorem sim_one {op : BoolOp} {e : Expr} {E : Py.E} {pos : Pos} (h : SimE T c X e E) : SimE T c X (.BoolOp op [e] pos) E := by
  intro m w σ s o s' rs ev Q q
  exact WE.of (pe_one pe_self) (h m w σ s o s' rs ev Q q)
theorem sim_and {a b : Expr} {rest : List Expr} {A B : Py.E} {pos : Pos} (ha : SimE T c X a A) (hb : SimE T c X (.BoolOp .And (b :: rest) pos) B) : SimE T c X (.BoolOp .And (a :: b :: rest) pos) (.and A B) := by
  intro m w σ s o s' rs ev Q q
  simp only [Py.ev] at ev
  refine WE.of (pe_and pe_self pe_self) ?_
  split at ev
  · rename_i s1 e1
    split at ev
    · rename_i z s2 e2
      simp only [Option.some.injEq, Prod.mk.injEq] at ev
      obtain ⟨rfl, rfl⟩ := ev
      refine ha false w σ s _ _ rs e1 _ fun v w1 st1 rs1 q1 p1 => ⟨true, p1.res.bl, ?_⟩
      show WE X (.BoolOp .And (b :: rest) pos) σ w1.H Q
      refine hb false w1 σ s1 _ _ rs1 e2 _ fun u w2 st2 rs2 q2 p2 => ?_
      rw [p2.res.bl]
      refine q _ w2 (st1.trans st2) rs2 (fun qq => ?_) (PO.of (Res.d (.bl _)))
      simp only [Py.E.quiet, Bool.and_eq_true] at qq
      exact (q1 qq.1).trans (q2 qq.2)
    · cases ev
  · rename_i s1 e1
    simp only [Option.some.injEq, Prod.mk.injEq] at ev
    obtain ⟨rfl, rfl⟩ := ev
    refine ha false w σ s _ _ rs e1 _ fun v w1 st1 rs1 q1 p1 => ⟨false, p1.res.bl, ?_⟩
    show Q (.bl false) w1.H
    refine q _ w1 st1 rs1 (fun qq => ?_) (PO.of (Res.d (.bl _)))
    simp only [Py.E.quiet, Bool.and_eq_true] at qq
    exact q1 qq.1
  · cases ev
theorem sim_or {a b : Expr} {rest : List Expr} {A B : Py.E} {pos : Pos} (ha : SimE T c X a A) (hb : SimE T c X (.BoolOp .Or (b :: rest) pos) B) : SimE T c X (.BoolOp .Or (a :: b :: rest) pos) (.or A B) := by
  intro m w σ s o s' rs ev Q q
  simp only [Py.ev] at ev
  refine WE.of (pe_or pe_self pe_self) ?_
  split at ev
  · rename_i s1 e1
    split at ev
    · rename_i z s2 e2
      simp only [Option.some.injEq, Prod.mk.injEq] at ev
      obtain ⟨rfl, rfl⟩ := ev
      refine ha false w σ s _ _ rs e1 _ fun v w1 st1 rs1 q1 p1 => ⟨false, p1.res.bl, ?_⟩
      show WE X (.BoolOp .Or (b :: rest) pos) σ w1.H Q
      refine hb false w1 σ s1 _ _ rs1 e2 _ fun u w2 st2 rs2 q2 p2 => ?_
      rw [p2.res.bl]
      refine q _ w2 (st1.trans st2) rs2 (fun qq => ?_) (PO.of (Res.d (.bl _)))
      simp only [Py.E.quiet, Bool.and_eq_true] at qq
      exact (q1 qq.1).trans (q2 qq.2)
    · cases ev
  · rename_i s1 e1
    simp only [Option.some.injEq, Prod.mk.injEq] at ev
    obtain ⟨rfl, rfl⟩ := ev
    refine ha false w σ s _ _ rs e1 _ fun v w1 st1 rs1 q1 p1 => ⟨true, p1.res.bl, ?_⟩
    show Q (.bl true) w1.H
    refine q _ w1 st1 rs1 (fun qq => ?_) (PO.of (Res.d (.bl _)))
    simp only [Py.E.quiet, Bool.and_eq_true] at qq
    exact q1 qq.1
  · cases ev
/-- a test whatever its whole is -/
def SimW (T : Tb) (c : Py.Cx) (X : Cx) (e : Expr) (E : Py.E) : Prop :=
  ∀ (w : Wd) (σ : L2.St) (s : Py.St) (b : Bool) (s' : Py.St), RS T w σ s → Py.ev c false E s = some (.d (.bl b), s') →
    ∀ Q : Bool → Hp → Prop, (∀ w', Stp w w' → RS T w' σ s' → Qt E w w' → Q b w'.H) → ∀ (whole : Sem Value) (pins : List (Addr × Obj)) (sh : Shared), Inv X pins σ w.H sh → wpAny (model X.prog X.w) X.A (isTrue e X.env whole) (TP X pins σ Q) X.xe sh
def WW (X : Cx) (e : Expr) : TT := fun σ H Q => ∀ (whole : Sem Value) (pins : List (Addr × Obj)) (s : Shared), Inv X pins σ H s → wpAny (model X.prog X.w) X.A (isTrue e X.env whole) (TP X pins σ Q) X.xe s
theorem pw_self {e : Expr} : PW X e (WW X e) := ⟨fun whole pins s σ H Q I h => h whole pins s I⟩
theorem simW_and1 {e : Expr} {E : Py.E} {pos : Pos} (h : SimT T c X e E) : SimW T c X (.BoolOp .And [e] pos) E := by
  intro w σ s z s' rs ev Q q whole pins sh I
  exact (pw_and1 (pos := pos) pt_self).run whole pins sh σ w.H Q I (h w σ s z s' rs ev Q q)
theorem simW_or1 {e : Expr} {E : Py.E} {pos : Pos} (h : SimT T c X e E) : SimW T c X (.BoolOp .Or [e] pos) E := by
  intro w σ s z s' rs ev Q q whole pins sh I
  exact (pw_or1 (pos := pos) pt_self).run whole pins sh σ w.H Q I (h w σ s z s' rs ev Q q)
theorem simW_and {a b : Expr} {rest : List Expr} {A B : Py.E} {pos : Pos} (ha : SimT T c X a A) (hb : SimW T c X (.BoolOp .And (b :: rest) pos) B) : SimW T c X (.BoolOp .And (a :: b :: rest) pos) (.and A B) := by
  intro w σ s z s' rs ev Q q whole pins sh I
  refine (pw_and pt_self pw_self).run whole pins sh σ w.H Q I ?_
  simp only [Py.ev] at ev
  split at ev
  · rename_i s1 e1
    split at ev
    · rename_i z s2 e2
      simp only [Option.some.injEq, Prod.mk.injEq, Py.O.d.injEq, Py.D.bl.injEq] at ev
      obtain ⟨rfl, rfl⟩ := ev
      refine ha w σ s _ _ rs e1 _ fun w1 st1 rs1 q1 => ?_
      show WW X (.BoolOp .And (b :: rest) pos) σ w1.H Q
      refine hb w1 σ s1 _ _ rs1 e2 _ fun w2 st2 rs2 q2 => ?_
      refine q w2 (st1.trans st2) rs2 (fun qq => ?_)
      simp only [Py.E.quiet, Bool.and_eq_true] at qq
      exact (q1 qq.1).trans (q2 qq.2)
    · cases ev
  · rename_i s1 e1
    simp only [Option.some.injEq, Prod.mk.injEq, Py.O.d.injEq, Py.D.bl.injEq] at ev
    obtain ⟨rfl, rfl⟩ := ev
    refine ha w σ s _ _ rs e1 _ fun w1 st1 rs1 q1 => ?_
    show Q false w1.H
    refine q w1 st1 rs1 (fun qq => ?_)
    simp only [Py.E.quiet, Bool.and_eq_true] at qq
    exact q1 qq.1
  · cases ev
theorem simW_or {a b : Expr} {rest : List Expr} {A B : Py.E} {pos : Pos} (ha : SimT T c X a A) (hb : SimW T c X (.BoolOp .Or (b :: rest) pos) B) : SimW T c X (.BoolOp .Or (a :: b :: rest) pos) (.or A B) := by
  intro w σ s z s' rs ev Q q whole pins sh I
  refine (pw_or pt_self pw_self).run whole pins sh σ w.H Q I ?_
  simp only [Py.ev] at ev
  split at ev
  · rename_i s1 e1
    split at ev
    · rename_i z s2 e2
      simp only [Option.some.injEq, Prod.mk.injEq, Py.O.d.injEq, Py.D.bl.injEq] at ev
      obtain ⟨rfl, rfl⟩ := ev
      refine ha w σ s _ _ rs e1 _ fun w1 st1 rs1 q1 => ?_
      show WW X (.BoolOp .Or (b :: rest) pos) σ w1.H Q
      refine hb w1 σ s1 _ _ rs1 e2 _ fun w2 st2 rs2 q2 => ?_
      refine q w2 (st1.trans st2) rs2 (fun qq => ?_)
      simp only [Py.E.quiet, Bool.and_eq_true] at qq
      exact (q1 qq.1).trans (q2 qq.2)
    · cases ev
  · rename_i s1 e1
    simp only [Option.some.injEq, Prod.mk.injEq, Py.O.d.injEq, Py.D.bl.injEq] at ev
    obtain ⟨rfl, rfl⟩ := ev
    refine ha w σ s _ _ rs e1 _ fun w1 st1 rs1 q1 => ?_
    show Q true w1.H
    refine q w1 st1 rs1 (fun qq => ?_)
    simp only [Py.E.quiet, Bool.and_eq_true] at qq
    exact q1 qq.1
  · cases ev
theorem simT_W {e : Expr} {E : Py.E} (h : SimW T c X e E) : SimT T c X e E := fun w σ s b s' rs ev Q q pins sh I => h w σ s b s' rs ev Q q _ pins sh I
theorem sim_ife {t a b : Expr} {C A B : Py.E} {pos : Pos} (ht : SimT T c X t C) (ha : SimE T c X a A) (hb : SimE T c X b B) : SimE T c X (.IfExp t a b pos) (.ife C A B) := by
  intro m w σ s o s' rs ev Q q
  simp only [Py.ev] at ev
  refine WE.of (pe_ifExp pt_self pe_self pe_self) ?_
  split at ev
  · rename_i s1 e1
    refine ht w σ s _ _ rs e1 _ fun w1 st1 rs1 q1 => ?_
    show WE X a σ w1.H Q
    exact ha false w1 σ s1 _ _ rs1 ev _ fun v w2 st2 rs2 q2 p2 => q v w2 (st1.trans st2) rs2 (fun qq => by simp only [Py.E.quiet] at qq; cases qq) (PO.of (p2.res.from st1))
  · rename_i s1 e1
    refine ht w σ s _ _ rs e1 _ fun w1 st1 rs1 q1 => ?_
    show WE X b σ w1.H Q
    exact hb false w1 σ s1 _ _ rs1 ev _ fun v w2 st2 rs2 q2 p2 => q v w2 (st1.trans st2) rs2 (fun qq => by simp only [Py.E.quiet] at qq; cases qq) (PO.of (p2.res.from st1))
  · cases ev
end
end PyS
end

section
set_option Elab.async false
set_option linter.all false
set_option maxRecDepth 100000
set_option maxHeartbeats 4000000
/-! Y1: a tuple once is itself. -/
namespace PyS
open PySem PySem.Spec PyProof.Rows L2
theorem tuple_once (l : Addr) (items : Array Value) (n : Nat) (dd : Option Addr) (sl : Array (Option Value)) (u : Tok) :
    Meets (Builtin.«tuple.__mul__» ⟨[.ref l, .int 1 u], []⟩) (fun _ R s => s.heap.get? l = some { cls := .type "tuple", dict := dd, data := .seq items n, slots := sl } ∧ R (.ok (.ret (Value.ref l))) s) :=
  .of_wp fun prog w A R s h => by
    obtain ⟨hq, gq, dq, tq, oq⟩ := s
    obtain ⟨hl, h⟩ := h
    have f1 := AutoSeq1.idx_int
    have k0 : (decide ((1 : Int) < -(2 ^ 63)) || decide ((1 : Int) ≥ 2 ^ 63)) = false := by decide
    have k1 : (items.isEmpty || (1 : Int) == 1) = true := by simp
    wp_walk using wpAny_loadPart' hl
    repeat (first
      | (refine wpAny_ite_false (decide_eq_false (by rw [k0]; exact Bool.false_ne_true)) ?_; wp_walk using wpAny_loadPart' hl)
      | (refine wpAny_ite_true (decide_eq_true k1) ?_; wp_walk using wpAny_loadPart' hl))
    exact ⟨_, rfl, h⟩
/-- a tuple * 1 -/
def rRep1 (K : PySem.W.Frag) : R2 := fun x y H Q => ∃ l xs, x = .ref l ∧ y = .int 1 ∧ SqT K H l xs ∧ Q (.ref l) H
theorem op_rep1 {X : Cx} : OpR X (binaryOp .Mult) (rRep1 X.K) := by
  intro pins s σ H x y v u Q I rx ry h
  obtain ⟨l, xs, rfl, rfl, hT, q⟩ := h
  cases rx
  obtain ⟨t, rfl⟩ := ry
  obtain ⟨its, r, ⟨⟨cls, dd, data, sl⟩, ho, hc, n, hd⟩, hs⟩ := I.tuple hT
  simp only at hc hd
  subst hc hd
  refine wpAny_binaryOp_repeat_ref (T := "tuple") (U := "int") (by decide) ⟨_, ho, rfl⟩ (fun s' => typeIs_int s' 1 t) noFill_tuple_mul F.fills_int_mul F.slot_int_rmul repeat_tuple F.slot_int_index.lookup
    (call_meets F.slot_int_rmul (typeIs_int s 1 t) F.entry_int_rmul (F.args_int_rmul_2 _ _) (int_rmul_tuple 1 t l its.toArray n dd sl)
      ⟨ho, rfl, ⟨_, ho, rfl⟩, call_meets F.slot_tuple_mul ⟨_, ho, rfl⟩ F.entry_tuple_mul (F.args_tuple_mul_2 _ _) (tuple_once l its.toArray n dd sl t) ⟨ho, ?_⟩⟩)
  exact ⟨.ref l, H, I, rfl, q⟩
end PyS
end

section
set_option Elab.async false
set_option linter.all false
set_option maxRecDepth 100000
set_option maxHeartbeats 2000000
/-! S4: what the operators' rules give. -/
namespace PyS
open PySem L2
variable {T : Tb}
section
variable {X : Cx}
theorem Stp.here {w : Wd} {σ : L2.St} {s : Py.St} (rs : RS T w σ s) {Q : VK} {v : V} {z : Py.O} (q : ∀ v' w', Stp w w' → RS T w' σ s → GLe w.H w'.H → Res T w w' v' z → Q v' w'.H) (r : Res T w w v z) : Q v w.H := q v w (Stp.refl w) rs (GLe.refl _) r

def CDivB (_ j : Int) : Prop := j ≠ 0 ∧ j.natAbs.log2 < 9000
theorem op_fdivB : OpR X (binaryOp .FloorDiv) (rI CDivB fun i j => .int (i.fdiv j)) := opI fun i j _ _ _ _ _ hc q => PyProof.Rows.floordiv_int hc.1 q (.inl (PyProof.noPylong_of_log2 hc.2))
theorem log2_lt_pow {a b : Nat} (h0 : 0 < b) (h : a < 2 ^ b) : a.log2 < b := PySem.Flt.log2_lt_of h0 h
theorem lineA_log {a : Nat} (h : a < Py.lineA) : a.log2 < 400000 := by
  unfold Py.lineA at h
  exact log2_lt_pow (by omega) h
theorem lineB_log {a : Nat} (h : a < Py.lineB) : a.log2 < 9000 := by
  unfold Py.lineB at h
  exact log2_lt_pow (by omega) h
def rAddI : R2 := rI0 fun i j => .int (i + j)
def rAdd (K : PySem.W.Frag) : R2 := fun x y H Q => rAddI x y H Q ∨ (rCat x y H Q ∨ rCatA K x y H Q)
theorem op_addA : OpR X (binaryOp .Add) (rAdd X.K) := OpR.or op_add (OpR.or op_cat op_catA)
def rSub : R2 := rI0 fun i j => .int (i - j)
theorem op_subA : OpR X (binaryOp .Sub) rSub := op_sub
def rMulI : R2 := rI CMulW fun i j => .int (i * j)
def rMul (K : PySem.W.Frag) : R2 := fun x y H Q => rMulI x y H Q ∨ (rRep x y H Q ∨ (rRepT K x y H Q ∨ rRep1 K x y H Q))
theorem op_mulA : OpR X (binaryOp .Mult) (rMul X.K) := OpR.or op_mulW (OpR.or op_rep (OpR.or op_repT op_rep1))
def rFdiv : R2 := rI CDivB fun i j => .int (i.fdiv j)
theorem op_fdivA : OpR X (binaryOp .FloorDiv) rFdiv := op_fdivB
def rMod : R2 := rI (fun _ j => j ≠ 0) fun i j => .int (i.fmod j)
theorem op_modA : OpR X (binaryOp .Mod) rMod := op_modN
def rPow : R2 := rI CPow fun i j => .int (i ^ j.toNat)
theorem op_powA : OpR X (binaryOp .Pow) rPow := op_pow

theorem Reps.nil_iff {G : Hp} {φ : List Addr} {vs : List V} {ds : List Py.D} (h : Reps T G φ vs ds) : vs = [] ↔ ds = [] := by
  cases h with
  | nil => exact ⟨fun _ => rfl, fun _ => rfl⟩
  | cons _ _ => exact ⟨fun z => (nomatch z), fun z => (nomatch z)⟩
theorem Reps.ne {G : Hp} {φ : List Addr} {vs : List V} {ds : List Py.D} (h : Reps T G φ vs ds) (n : vs ≠ []) : ds ≠ [] := fun z => n (h.nil_iff.mpr z)
theorem os_add : OpSim T (Py.bop .add) (rAdd T.K) := by
  intro x y z e w σ s v u rs hv hu Q q
  cases x <;> cases y <;> first | (cases e; done) | skip
  · simp only [Py.bop, Option.some.injEq] at e
    subst e
    rw [hv.int, hu.int]
    exact .inl ⟨_, _, rfl, rfl, Stp.here rs q (Res.d (.int _))⟩
  · rename_i a b
    simp only [Py.bop] at e
    split at e
    · rename_i hz
      cases e
      obtain ⟨p1, xs, rfl, h1, r1⟩ := hv.tup' rs.toLabOk
      obtain ⟨p2, ys, rfl, h2, r2⟩ := hu.tup' rs.toLabOk
      have g1 : Rep T w.G w.φ (.ref p1) (.tup a) := by
        cases hv with
        | g h => exact h
      have g2 : Rep T w.G w.φ (.ref p2) (.tup b) := by
        cases hu with
        | g h => exact h
      refine .inr (.inr ⟨p1, p2, xs, ys, rfl, rfl, SqT.of h1, SqT.of h2, (by rw [r1.length, r2.length]; exact lenOk_le hz), fun n => ?_, fun n1 n2 => ?_, fun n1 n2 p hp => ?_⟩)
      · have : a = [] := r1.nil_iff.mp n
        subst this
        exact Stp.here rs q (Res.d (by rw [List.nil_append]; exact g2))
      · have : b = [] := r2.nil_iff.mp n2
        subst this
        exact Stp.here rs q (Res.d (by rw [List.append_nil]; exact g1))
      · obtain ⟨w2, e2, st2, rs2, r2⟩ := rs.newT hp (r1.append r2)
        rw [← e2]
        exact q _ w2 st2 rs2 (by rw [e2]; exact upd_gle hp) (Res.d r2)
    · cases e
  · simp only [Py.bop] at e
    split at e
    · rename_i hz
      cases e
      obtain ⟨p1, xs, rfl, h1, r1⟩ := hv.lst' rs.toLabOk
      obtain ⟨p2, ys, rfl, h2, r2⟩ := hu.lst' rs.toLabOk
      refine .inr (.inl ⟨p1, p2, xs, ys, rfl, rfl, h1, h2, (by rw [r1.length, r2.length]; exact lenOk_le hz), fun p hp => ?_⟩)
      obtain ⟨a1, a2⟩ := rs.alloc hp (.lst (xs ++ ys))
      exact q (.ref p) _ a1 a2 (upd_gle hp) (rs.newL hp (r1.append r2))
    · cases e
theorem os_sub : OpSim T (Py.bop .sub) rSub := by
  intro x y z e w σ s v u rs hv hu Q q
  cases x <;> cases y <;> first | (cases e; done) | skip
  simp only [Py.bop, Option.some.injEq] at e
  subst e
  rw [hv.int, hu.int]
  exact ⟨_, _, rfl, rfl, Stp.here rs q (Res.d (.int _))⟩
theorem os_fdiv : OpSim T (Py.bop .fdiv) rFdiv := by
  intro x y z e w σ s v u rs hv hu Q q
  cases x <;> cases y <;> first | (cases e; done) | skip
  simp only [Py.bop] at e
  split at e
  · rename_i h
    cases e
    simp only [Py.divOk, Bool.and_eq_true, decide_eq_true_eq] at h
    rw [hv.int, hu.int]
    exact ⟨_, _, rfl, rfl, ⟨h.1, lineB_log h.2⟩, Stp.here rs q (Res.d (.int _))⟩
  · cases e
theorem os_mod : OpSim T (Py.bop .mod) rMod := by
  intro x y z e w σ s v u rs hv hu Q q
  cases x <;> cases y <;> first | (cases e; done) | skip
  simp only [Py.bop] at e
  split at e
  · cases e
  · rename_i h
    cases e
    rw [hv.int, hu.int]
    exact ⟨_, _, rfl, rfl, h, Stp.here rs q (Res.d (.int _))⟩
theorem os_pow : OpSim T (Py.bop .pow) rPow := by
  intro x y z e w σ s v u rs hv hu Q q
  cases x <;> cases y <;> first | (cases e; done) | skip
  simp only [Py.bop] at e
  split at e
  · rename_i h
    cases e
    simp only [Bool.and_eq_true, decide_eq_true_eq] at h
    rw [hv.int, hu.int]
    exact ⟨_, _, rfl, rfl, ⟨h.1.1, Int.le_trans h.1.2 (by decide), h.2⟩, Stp.here rs q (Res.d (.int _))⟩
  · cases e
theorem At.repT {w : Wd} {v : V} {ds : List Py.D} (h : At T w v (.tup ds)) : Rep T w.G w.φ v (.tup ds) := by
  cases h with
  | g h => exact h
theorem os_mul : OpSim T (Py.bop .mul) (rMul T.K) := by
  intro x y z e w σ s v u rs hv hu Q q
  cases x <;> cases y <;> first | (cases e; done) | skip
  · simp only [Py.bop] at e
    split at e
    · rename_i h
      cases e
      simp only [Py.mulOk, Bool.and_eq_true, decide_eq_true_eq] at h
      rw [hv.int, hu.int]
      have h1 := lineA_log h.1
      have h2 := lineA_log h.2
      exact .inl ⟨_, _, rfl, rfl, Nat.lt_of_lt_of_le (Nat.add_lt_add h1 h2) (by decide), Stp.here rs q (Res.d (.int _))⟩
    · cases e
  · simp only [Py.bop] at e
    split at e
    · rename_i h
      cases e
      simp only [Bool.and_eq_true, decide_eq_true_eq, Bool.not_eq_true'] at h
      have hrep := hv.repT
      obtain ⟨p1, xs, rfl, h1, r1⟩ := hv.tup' rs.toLabOk
      rw [hu.int]
      rename_i tl kk
      by_cases hk1 : kk = 1
      · subst hk1
        refine .inr (.inr (.inr ⟨p1, xs, rfl, rfl, SqT.of h1, Stp.here rs q (Res.d ?_)⟩))
        simpa using hrep
      · refine .inr (.inr (.inl ⟨p1, _, xs, rfl, rfl, SqT.of h1, fun n => ?_, by have := h.1.1.1; omega, h.1.1.2, (by rw [r1.length]; exact h.1.2), fun p hp => ?_⟩))
        · have := r1.nil_iff.mp n
          rw [this] at h
          cases h.2
        · obtain ⟨w2, e2, st2, rs2, r2⟩ := rs.newT hp (r1.rep _)
          rw [← e2]
          exact q _ w2 st2 rs2 (by rw [e2]; exact upd_gle hp) (Res.d r2)
    · cases e
  · simp only [Py.bop] at e
    split at e
    · rename_i h
      cases e
      simp only [Bool.and_eq_true, decide_eq_true_eq, Bool.not_eq_true'] at h
      obtain ⟨p1, xs, rfl, h1, r1⟩ := hv.lst' rs.toLabOk
      rw [hu.int]
      have hk := lenOk_le h.1.2
      have hs : (sizeLine : Nat) = 16777216 := by decide
      refine .inr (.inl ⟨p1, _, xs, rfl, rfl, h1, ?_, ?_, (by rw [r1.length]; exact lenOk_le h.2), fun p hp => ?_⟩)
      · have := h.1.1
        omega
      · rw [hs] at hk
        omega
      · obtain ⟨a1, a2⟩ := rs.alloc hp (.lst (List.replicate _ xs).flatten)
        exact q (.ref p) _ a1 a2 (upd_gle hp) (rs.newL hp (r1.rep _))
    · cases e

/-! ### comparisons -/
def intCop (op : Py.Cop) (p : Int → Int → Bool) : Prop := (∀ i j, Py.cop op (.int i) (.int j) = some (p i j)) ∧ ∀ x y b, Py.cop op x y = some b → ∃ i j, x = .int i ∧ y = .int j
theorem os_int {op : Py.Cop} {p : Int → Int → Bool} (h : intCop op p) : OpSim T (copO op) (rI0 fun i j => .bl (p i j)) := by
  intro x y z e w σ s v u rs hv hu Q q
  unfold copO at e
  cases hc : Py.cop op x y with
  | none => rw [hc] at e; cases e
  | some b =>
    rw [hc] at e
    cases e
    obtain ⟨i, j, rfl, rfl⟩ := h.2 x y b hc
    rw [h.1 i j] at hc
    cases hc
    rw [hv.int, hu.int]
    exact ⟨_, _, rfl, rfl, Stp.here rs q (Res.d (.bl _))⟩
theorem ic_lt : intCop .lt fun i j => decide (i < j) := ⟨fun _ _ => rfl, fun x y b e => by
  cases x <;> cases y <;> first | (cases e; done) | exact ⟨_, _, rfl, rfl⟩⟩
theorem ic_le : intCop .le fun i j => decide (i ≤ j) := ⟨fun _ _ => rfl, fun x y b e => by
  cases x <;> cases y <;> first | (cases e; done) | exact ⟨_, _, rfl, rfl⟩⟩
theorem ic_gt : intCop .gt fun i j => decide (j < i) := ⟨fun _ _ => rfl, fun x y b e => by
  cases x <;> cases y <;> first | (cases e; done) | exact ⟨_, _, rfl, rfl⟩⟩
theorem ic_ge : intCop .ge fun i j => decide (j ≤ i) := ⟨fun _ _ => rfl, fun x y b e => by
  cases x <;> cases y <;> first | (cases e; done) | exact ⟨_, _, rfl, rfl⟩⟩
mutual
/-- as the library's data -/
def toPy : Py.D → PyData
  | .bl b => .bool b
  | .int i => .int i
  | .str s => .str ⟨s.toArray⟩
  | .tup l => .tuple (toPys l)
  | .lst l => .list (toPys l)
  | _ => .none
def toPys : List Py.D → List PyData
  | [] => []
  | x :: xs => toPy x :: toPys xs
end
mutual
theorem plain_lay : ∀ {d : Py.D}, d.plain = true → (toPy d).canLay0 = true
  | .non, _ => rfl
  | .bl _, _ => rfl
  | .int _, _ => rfl
  | .str s, h => by
    simp only [Py.D.plain, Bool.and_eq_true, decide_eq_true_eq] at h
    have h2 := h.2
    simp only [toPy, PyData.canLay0, PyData.strOk]
    simpa using h2
  | .tup l, h => by
    rw [Py.D.plain] at h
    rw [toPy, PyData.canLay0]
    exact plains_lay h
  | .lst l, h => by
    rw [Py.D.plain] at h
    rw [toPy, PyData.canLay0]
    exact plains_lay h
  | .ty _, h => by cases h
  | .dic _, h => by cases h
  | .ins _ _, h => by cases h
  | .fn _, h => by cases h
  | .cls _, h => by cases h
  | .cell _, h => by cases h
  | .scr _, h => by cases h
theorem plains_lay : ∀ {d : List Py.D}, Py.D.plains d = true → PyData.canLayAll0 (toPys d) = true
  | [], _ => rfl
  | x :: xs, h => by
    rw [Py.D.plains, Bool.and_eq_true] at h
    rw [toPys, PyData.canLayAll0, plain_lay h.1, plains_lay h.2]
    rfl
end
mutual
theorem py_depth : ∀ (d : Py.D), (toPy d).depth = d.depth
  | .non => rfl
  | .bl _ => rfl
  | .int _ => rfl
  | .str _ => rfl
  | .ty _ => rfl
  | .dic _ => rfl
  | .ins _ _ => rfl
  | .fn _ => rfl
  | .cls _ => rfl
  | .cell _ => rfl
  | .scr _ => rfl
  | .exn _ => rfl
  | .tab _ => rfl
  | .tup l => by rw [toPy, PyData.depth, Py.D.depth, pys_depth]
  | .lst l => by rw [toPy, PyData.depth, Py.D.depth, pys_depth]
theorem pys_depth : ∀ (d : List Py.D), PyData.depthAll (toPys d) = Py.D.depths d
  | [] => rfl
  | x :: xs => by rw [toPys, PyData.depthAll, Py.D.depths, py_depth, pys_depth]
end
mutual
theorem py_eqv : ∀ (x y : Py.D), x.plain = true → y.plain = true → PyData.eqv (toPy x) (toPy y) = Py.D.eqv x y
  | x, y, hx, hy => by
    cases x <;> cases y <;> first
      | (cases hx; done)
      | (cases hy; done)
      | (simp only [toPy, PyData.eqv, Py.D.eqv]; done)
      | skip
    · simp only [toPy, PyData.eqv, Py.D.eqv]
      rename_i a b
      by_cases e : a = b
      · rw [e, beq_self_eq_true, beq_self_eq_true]
      · rw [beq_eq_false_iff_ne.mpr e]
        refine beq_eq_false_iff_ne.mpr fun z => e ?_
        have := congrArg (fun (x : Str) => x.cps.toList) z
        simpa using this
    · simp only [toPy, PyData.eqv, Py.D.eqv]
      exact pys_eqv _ _ (by rwa [Py.D.plain] at hx) (by rwa [Py.D.plain] at hy)
    · simp only [toPy, PyData.eqv, Py.D.eqv]
      exact pys_eqv _ _ (by rwa [Py.D.plain] at hx) (by rwa [Py.D.plain] at hy)
theorem pys_eqv : ∀ (x y : List Py.D), Py.D.plains x = true → Py.D.plains y = true → PyData.eqvAll (toPys x) (toPys y) = Py.D.eqvs x y
  | [], [], _, _ => rfl
  | [], _ :: _, _, _ => rfl
  | _ :: _, [], _, _ => rfl
  | x :: xs, y :: ys, hx, hy => by
    rw [Py.D.plains, Bool.and_eq_true] at hx hy
    rw [toPys, toPys, PyData.eqvAll, Py.D.eqvs, py_eqv x y hx.1 hy.1, pys_eqv xs ys hx.2 hy.2]
end
end
end PyS
end

section
set_option Elab.async false
set_option linter.all false
set_option maxRecDepth 100000
set_option maxHeartbeats 2000000
/-! S5: ==, in, is; items and slices. -/
namespace PyS
open PySem L2
variable {T : Tb}
/-! ### data as the library's deep data -/
mutual
theorem Rep.dp {G H : Hp} {φ : List Addr} {K : PySem.W.Frag} (g : GLe G H) : ∀ {v : V} {d : Py.D}, Rep T G φ v d → d.plain = true → Dp K H v (toPy d)
  | _, _, .non, _ => .non
  | _, _, .bl b, _ => .bl b
  | _, _, .int i, _ => .int i
  | _, _, .str s, _ => .str _
  | _, _, .tup h r, p => by
    rw [toPy]
    exact .tup (SqT.of (g _ _ h)) (r.dps g (by rwa [Py.D.plain] at p))
  | _, _, .lst h r, p => by
    rw [toPy]
    exact .lst (SqL.of (g _ _ h)) (r.dps g (by rwa [Py.D.plain] at p))
  | _, _, .ty _, p => by cases p
  | _, _, .dic _ _, p => by cases p
  | _, _, .ins _ _ _, p => by cases p
  | _, _, .fn _, p => by cases p
  | _, _, .cls _, p => by cases p
  | _, _, .cell _, p => by cases p
  | _, _, .scr _ _, p => by cases p
theorem Reps.dps {G H : Hp} {φ : List Addr} {K : PySem.W.Frag} (g : GLe G H) : ∀ {v : List V} {d : List Py.D}, Reps T G φ v d → Py.D.plains d = true → DpAll K H v (toPys d)
  | _, _, .nil, _ => .nil
  | _, _, .cons a b, p => by
    rw [Py.D.plains, Bool.and_eq_true] at p
    rw [toPys]
    exact .cons (a.dp g p.1) (b.dps g p.2)
end
theorem At.dp {w : Wd} {K : PySem.W.Frag} (k : LabOk w) {v : V} {d : Py.D} (h : At T w v d) (p : d.plain = true) : Dp K w.H v (toPy d) := by
  cases h with
  | g h => exact h.dp k.gh p
  | lst a b =>
    rw [toPy]
    exact .lst (SqL.of a) (b.dps k.gh (by rwa [Py.D.plain] at p))
  | dic a b => cases p
theorem shaped_of {d : Py.D} (p : d.plain = true) (h : d.depth ≤ 64) : SeqAt.shaped (toPy d) = true := by
  unfold SeqAt.shaped
  rw [plain_lay p, py_depth]
  simpa using h
theorem os_eq : OpSim T (copO .eq) (rEqD T.K) := by
  intro x y z e w σ s v u rs hv hu Q q
  unfold copO at e
  simp only [Py.cop] at e
  split at e
  · rename_i h
    cases e
    simp only [Py.eqOk, Bool.and_eq_true, decide_eq_true_eq] at h
    refine ⟨_, _, hv.dp rs.toLabOk h.1.1.1, hu.dp rs.toLabOk h.1.1.2, shaped_of h.1.1.1 h.1.2, shaped_of h.1.1.2 h.2, ?_⟩
    rw [py_eqv _ _ h.1.1.1 h.1.1.2]
    exact Stp.here rs q (Res.d (.bl _))
  · cases e
theorem os_ne : OpSim T (copO .ne) (rNeD T.K) := by
  intro x y z e w σ s v u rs hv hu Q q
  unfold copO at e
  simp only [Py.cop] at e
  split at e
  · rename_i h
    cases e
    simp only [Py.eqOk, Bool.and_eq_true, decide_eq_true_eq] at h
    refine ⟨_, _, hv.dp rs.toLabOk h.1.1.1, hu.dp rs.toLabOk h.1.1.2, shaped_of h.1.1.1 h.1.2, shaped_of h.1.1.2 h.2, ?_⟩
    rw [py_eqv _ _ h.1.1.1 h.1.1.2]
    exact Stp.here rs q (Res.d (.bl _))
  · cases e

/-! ### in -/
theorem Rep.flatV {G : Hp} {φ : List Addr} {v : V} {d : Py.D} (h : Rep T G φ v d) (f : d.flat = true) : flatV v = true := by
  cases h <;> first | rfl | cases f
theorem Reps.flatVs : ∀ {G : Hp} {φ : List Addr} {v : List V} {d : List Py.D}, Reps T G φ v d → d.all Py.D.flat = true → v.all L2.flatV = true
  | _, _, _, _, .nil, _ => rfl
  | _, _, _, _, .cons a b, f => by
    rw [List.all_cons, Bool.and_eq_true] at f
    rw [List.all_cons, a.flatV f.1, b.flatVs f.2]
    rfl
theorem str_beq (a b : List Nat) : ((⟨a.toArray⟩ : Str) == ⟨b.toArray⟩) = (a == b) := by
  by_cases e : a = b
  · subst e
    rw [beq_self_eq_true, beq_self_eq_true]
  · rw [beq_eq_false_iff_ne.mpr e]
    refine beq_eq_false_iff_ne.mpr fun z => e ?_
    have := congrArg (fun (x : Str) => x.cps.toList) z
    simpa using this
theorem Rep.eqV {G G' : Hp} {φ φ' : List Addr} {v u : V} {d e : Py.D} (h : Rep T G φ v d) (k : Rep T G' φ' u e) (f : d.flat = true) (f' : e.flat = true) : eqV v u = Py.D.eqv d e := by
  cases h <;> first
    | (cases f; done)
    | (cases k <;> first | (cases f'; done) | rfl | (simp only [L2.eqV, Py.D.eqv]; done) | (simp only [L2.eqV, Py.D.eqv, str_beq]; done))
theorem Reps.inV {G : Hp} {φ : List Addr} {u : V} {e : Py.D} (k : Rep T G φ u e) (f' : e.flat = true) : ∀ {vs : List V} {ds : List Py.D}, Reps T G φ vs ds → ds.all Py.D.flat = true → L2.inV u vs = ds.any fun y => Py.D.eqv y e
  | _, _, .nil, _ => rfl
  | _, _, .cons a b, f => by
    rw [List.all_cons, Bool.and_eq_true] at f
    have := b.inV k f' f.2
    unfold L2.inV at this ⊢
    rw [List.any_cons, List.any_cons, a.eqV k f.1 f', this]
theorem At.flat {w : Wd} {v : V} {d : Py.D} (h : At T w v d) (f : d.flat = true) : Rep T w.G w.φ v d := by
  cases h with
  | g h => exact h
  | lst a b => cases f
  | dic a b => cases f
def keyD : Py.D → Option Key
  | .int i => some (.inl i)
  | .str s => some (.inr ⟨s.toArray⟩)
  | _ => none
theorem keyD_k : ∀ k : Key, keyD (kD k) = some k
  | .inl _ => rfl
  | .inr x => by
    show some (Sum.inr (⟨x.cps.toList.toArray⟩ : Str)) = _
    rw [Array.toArray_toList]
theorem Rep.key {G : Hp} {φ : List Addr} {v : V} {d : Py.D} (h : Rep T G φ v d) (f : Py.keyOf d = true) : ∃ k, d = kD k ∧ v = kV k := by
  cases h <;> first
    | (cases f; done)
    | exact ⟨.inl _, rfl, rfl⟩
    | exact ⟨.inr ⟨_⟩, by rfl, rfl⟩
theorem kD_eqv (k k' : Key) : Py.D.eqv (kD k) (kD k') = decide (k = k') := by
  cases k with
  | inl i =>
    cases k' with
    | inl j =>
      show (i == j) = _
      by_cases e : i = j
      · subst e; simp
      · rw [beq_eq_false_iff_ne.mpr e, decide_eq_false (fun z => e (Sum.inl.inj z))]
    | inr y => exact (decide_eq_false (fun z => nomatch z)).symm
  | inr x =>
    cases k' with
    | inl j => exact (decide_eq_false (fun z => nomatch z)).symm
    | inr y =>
      show (x.cps.toList == y.cps.toList) = _
      by_cases e : x = y
      · subst e; simp
      · rw [decide_eq_false (fun z => e (Sum.inr.inj z))]
        refine beq_eq_false_iff_ne.mpr fun z => e ?_
        cases x
        cases y
        simpa using z
theorem RepK.get {G : Hp} {φ : List Addr} : ∀ {kvs : List (Key × V)} {l : List (Py.D × Py.D)} (k : Key), RepK T G φ kvs l → (Py.dget (kD k) l = none ∧ valV kvs k = none) ∨ ∃ d v, Py.dget (kD k) l = some d ∧ valV kvs k = some v ∧ Rep T G φ v d
  | _, _, _, .nil => .inl ⟨rfl, rfl⟩
  | _, _, k, @RepK.cons _ _ _ k' v' vs d' ds a b => by
    rw [Py.dget, kD_eqv]
    by_cases e : k' = k
    · rw [if_pos (by simpa using e)]
      refine .inr ⟨_, v', rfl, ?_, a⟩
      exact valV_pos (p := (k', v')) e
    · rw [if_neg (by simpa using e), valV_neg (p := (k', v')) e]
      exact b.get k
theorem At.dic' {w : Wd} {v : V} {ds : List (Py.D × Py.D)} (k : LabOk w) (h : At T w v (.dic ds)) : ∃ a xs, v = .ref a ∧ w.H a = some (.dK xs) ∧ RepK T w.G w.φ xs ds := by
  cases h with
  | g h =>
    cases h with
    | dic a b => exact ⟨_, _, rfl, k.gh _ _ a, b⟩
  | dic a b => exact ⟨_, _, rfl, a, b⟩
def rInDc : R2 := fun y x H Q => ∃ a o, x = .ref a ∧ DGet H a y o ∧ Q (.bl o.isSome) H
def rNotInDc : R2 := fun y x H Q => ∃ a o, x = .ref a ∧ DGet H a y o ∧ Q (.bl (!o.isSome)) H
def rInA (K : PySem.W.Frag) : R2 := fun x y H Q => rIn K false x y H Q ∨ rInDc x y H Q
def rNotInA (K : PySem.W.Frag) : R2 := fun x y H Q => rIn K true x y H Q ∨ rNotInDc x y H Q
section
variable {X : Cx}
theorem op_inDc (hu : X.A.units + 1 < cLine) : OpR X (compareOp .In) rInDc := by
  intro pins s σ H x y v u Q I rx ry h
  obtain ⟨a, o, rfl, g, q⟩ := h
  cases (show u = Value.ref a from ry)
  exact d_in hu I g rx fun s' I' => ⟨.bl _, H, I', rfl, q⟩
theorem op_notInDc (hu : X.A.units + 1 < cLine) : OpR X (compareOp .NotIn) rNotInDc := by
  intro pins s σ H x y v u Q I rx ry h
  obtain ⟨a, o, rfl, g, q⟩ := h
  cases (show u = Value.ref a from ry)
  exact d_notIn hu I g rx fun s' I' => ⟨.bl _, H, I', rfl, q⟩
theorem op_inA (hu : X.A.units + 1 < cLine) : OpR X (compareOp .In) (rInA X.K) := OpR.or op_in_seq (op_inDc hu)
theorem op_notInA (hu : X.A.units + 1 < cLine) : OpR X (compareOp .NotIn) (rNotInA X.K) := OpR.or op_notIn_seq (op_notInDc hu)
def rIsA : R2 := fun x y H Q => (y = .non ∧ Q (.bl (decide (x = .non))) H) ∨ rIsB x y H Q
def rIsNotA : R2 := fun x y H Q => (y = .non ∧ Q (.bl (!decide (x = .non))) H) ∨ rNotB x y H Q
theorem op_isA : OpR X (compareOp .Is) rIsA := OpR.or op_isN op_isBl
theorem op_isNotA : OpR X (compareOp .IsNot) rIsNotA := OpR.or op_notN op_notBl
end
theorem os_in : OpSim T (copO .isin) (rInA T.K) := by
  intro x y z e w σ s v u rs hv hu Q q
  unfold copO at e
  cases y <;> simp only [Py.cop, Option.map_none] at e <;> first | (cases e; done) | skip
  · split at e
    · rename_i h
      cases e
      rw [Bool.and_eq_true] at h
      obtain ⟨p, xs, rfl, h1, r1⟩ := hu.tup' rs.toLabOk
      have k := hv.flat h.1
      refine .inl ⟨p, xs, rfl, .inr (SqT.of h1), k.flatV h.1, r1.flatVs h.2, ?_⟩
      rw [if_neg (by decide), r1.inV k h.1 h.2]
      exact Stp.here rs q (Res.d (.bl _))
    · cases e
  · split at e
    · rename_i h
      cases e
      rw [Bool.and_eq_true] at h
      obtain ⟨p, xs, rfl, h1, r1⟩ := hu.lst' rs.toLabOk
      have k := hv.flat h.1
      refine .inl ⟨p, xs, rfl, .inl (SqL.of h1), k.flatV h.1, r1.flatVs h.2, ?_⟩
      rw [if_neg (by decide), r1.inV k h.1 h.2]
      exact Stp.here rs q (Res.d (.bl _))
    · cases e
  · split at e
    · rename_i h
      cases e
      obtain ⟨p, xs, rfl, h1, r1⟩ := hu.dic' rs.toLabOk
      have hf : x.flat = true := by
        cases x <;> first | rfl | cases h
      obtain ⟨k, rfl, rfl⟩ := (hv.flat hf).key h
      refine .inr ⟨p, _, rfl, DGet.k h1, ?_⟩
      rcases r1.get k with ⟨a, b⟩ | ⟨d, v, a, b, _⟩
      · rw [b]
        rw [a] at q
        exact Stp.here rs q (Res.d (.bl _))
      · rw [b]
        rw [a] at q
        exact Stp.here rs q (Res.d (.bl _))
    · cases e
theorem os_notin : OpSim T (copO .notin) (rNotInA T.K) := by
  intro x y z e w σ s v u rs hv hu Q q
  unfold copO at e
  cases y <;> simp only [Py.cop, Option.map_none] at e <;> first | (cases e; done) | skip
  · split at e
    · rename_i h
      cases e
      rw [Bool.and_eq_true] at h
      obtain ⟨p, xs, rfl, h1, r1⟩ := hu.tup' rs.toLabOk
      have k := hv.flat h.1
      refine .inl ⟨p, xs, rfl, .inr (SqT.of h1), k.flatV h.1, r1.flatVs h.2, ?_⟩
      rw [if_pos rfl, r1.inV k h.1 h.2]
      exact Stp.here rs q (Res.d (.bl _))
    · cases e
  · split at e
    · rename_i h
      cases e
      rw [Bool.and_eq_true] at h
      obtain ⟨p, xs, rfl, h1, r1⟩ := hu.lst' rs.toLabOk
      have k := hv.flat h.1
      refine .inl ⟨p, xs, rfl, .inl (SqL.of h1), k.flatV h.1, r1.flatVs h.2, ?_⟩
      rw [if_pos rfl, r1.inV k h.1 h.2]
      exact Stp.here rs q (Res.d (.bl _))
    · cases e
  · split at e
    · rename_i h
      cases e
      obtain ⟨p, xs, rfl, h1, r1⟩ := hu.dic' rs.toLabOk
      have hf : x.flat = true := by
        cases x <;> first | rfl | cases h
      obtain ⟨k, rfl, rfl⟩ := (hv.flat hf).key h
      refine .inr ⟨p, _, rfl, DGet.k h1, ?_⟩
      rcases r1.get k with ⟨a, b⟩ | ⟨d, v, a, b, _⟩
      · rw [b]
        rw [a] at q
        exact Stp.here rs q (Res.d (.bl _))
      · rw [b]
        rw [a] at q
        exact Stp.here rs q (Res.d (.bl _))
    · cases e
theorem At.non_iff {w : Wd} {v : V} {d : Py.D} (h : At T w v d) : v = .non ↔ d = .non := by
  cases h with
  | g h => cases h <;> first | exact ⟨fun _ => rfl, fun _ => rfl⟩ | exact ⟨fun z => (nomatch z), fun z => (nomatch z)⟩
  | lst a b => exact ⟨fun z => (nomatch z), fun z => (nomatch z)⟩
  | dic a b => exact ⟨fun z => (nomatch z), fun z => (nomatch z)⟩
theorem os_is : OpSim T (copO .is) rIsA := by
  intro x y z e w σ s v u rs hv hu Q q
  unfold copO at e
  by_cases hy : y = .non
  · subst hy
    refine .inl ⟨hu.non_iff.mpr rfl, ?_⟩
    by_cases hx : x = .non
    · subst hx
      cases e
      rw [decide_eq_true (hv.non_iff.mpr rfl)]
      exact Stp.here rs q (Res.d (.bl _))
    · rw [decide_eq_false (fun z => hx (hv.non_iff.mp z))]
      have : Py.cop .is x .non = some false := by
        cases x <;> first | rfl | exact absurd rfl hx
      rw [this] at e
      cases e
      exact Stp.here rs q (Res.d (.bl _))
  · cases y <;> first | exact absurd rfl hy | (cases x <;> cases e <;> done) | skip
    rename_i b
    cases x <;> first | (cases e; done) | skip
    rename_i a
    cases e
    rw [hv.bl, hu.bl]
    refine .inr ⟨a, b, rfl, rfl, ?_⟩
    have : decide (a = b) = (a == b) := by cases a <;> cases b <;> rfl
    rw [this]
    exact Stp.here rs q (Res.d (.bl _))
theorem os_isnot : OpSim T (copO .isnot) rIsNotA := by
  intro x y z e w σ s v u rs hv hu Q q
  unfold copO at e
  by_cases hy : y = .non
  · subst hy
    refine .inl ⟨hu.non_iff.mpr rfl, ?_⟩
    by_cases hx : x = .non
    · subst hx
      cases e
      rw [decide_eq_true (hv.non_iff.mpr rfl)]
      exact Stp.here rs q (Res.d (.bl _))
    · rw [decide_eq_false (fun z => hx (hv.non_iff.mp z))]
      have : Py.cop .isnot x .non = some true := by
        cases x <;> first | rfl | exact absurd rfl hx
      rw [this] at e
      cases e
      exact Stp.here rs q (Res.d (.bl _))
  · cases y <;> first | exact absurd rfl hy | (cases x <;> cases e <;> done) | skip
    rename_i b
    cases x <;> first | (cases e; done) | skip
    rename_i a
    cases e
    rw [hv.bl, hu.bl]
    refine .inr ⟨a, b, rfl, rfl, ?_⟩
    have : decide (a = b) = (a == b) := by cases a <;> cases b <;> rfl
    rw [this]
    exact Stp.here rs q (Res.d (.bl _))
end PyS
end

section
set_option Elab.async false
set_option linter.all false
set_option maxRecDepth 100000
set_option maxHeartbeats 2000000
/-! S6: built-ins. -/
namespace PyS
open PySem L2
variable {T : Tb}
inductive Ats (T : Tb) (w : Wd) : List V → List Py.D → Prop
  | nil : Ats T w [] []
  | cons {v : V} {vs : List V} {d : Py.D} {ds : List Py.D} : At T w v d → Ats T w vs ds → Ats T w (v :: vs) (d :: ds)
def SimVs (T : Tb) (c : Py.Cx) (X : Cx) (es : List Expr) (Es : List Py.E) : Prop :=
  ∀ (w : Wd) (σ : L2.St) (s : Py.St) (ds : List Py.D) (s' : Py.St), RS T w σ s → Py.evVs c Es s = some (ds, s') →
    ∀ Q : List V → Hp → Prop, (∀ vs w', Stp w w' → RS T w' σ s' → (Py.E.quiet.go Es = true → GLe w.H w'.H) → Ats T w' vs ds → Q vs w'.H) → WA X es σ w.H Q
section
variable {c : Py.Cx} {X : Cx}
theorem simv_nil : SimVs T c X [] [] := by
  intro w σ s ds s' rs e Q q
  simp only [Py.evVs, Option.some.injEq, Prod.mk.injEq] at e
  obtain ⟨rfl, rfl⟩ := e
  exact WA.of pa_nil (q [] w (Stp.refl _) rs (fun _ => GLe.refl _) .nil)
theorem simv_cons {e : Expr} {es : List Expr} {E : Py.E} {Es : List Py.E} (n : notStar e = true) (h : SimE T c X e E) (hs : SimVs T c X es Es) : SimVs T c X (e :: es) (E :: Es) := by
  intro w σ s ds s' rs ev Q q
  simp only [Py.evVs] at ev
  split at ev
  · rename_i o s1 e1
    split at ev
    · rename_i hk
      split at ev
      · rename_i ds2 s2 e2
        cases e3 : o.flat with
        | none => rw [e3] at ev; cases ev
        | some d =>
          rw [e3] at ev
          simp only [Option.map_some, Option.some.injEq, Prod.mk.injEq] at ev
          obtain ⟨rfl, rfl⟩ := ev
          refine WA.of (pa_cons pe_self pa_self (starEach_not n es X.env)) ?_
          refine h true w σ s o s1 rs e1 _ fun v w1 st1 rs1 q1 p1 => ?_
          refine hs w1 σ s1 ds2 s2 rs1 e2 _ fun vs w2 st2 rs2 q2 r2 => ?_
          have hk' : o.isD = true ∨ GLe w1.H w2.H ∨ E.place = false := by
            rw [Bool.or_eq_true, Bool.or_eq_true] at hk
            rcases hk with (hk | hk) | hk
            · exact .inl hk
            · exact .inr (.inl (q2 hk))
            · refine .inr (.inr ?_)
              cases z : E.place with
              | false => rfl
              | true => rw [z] at hk; cases hk
          refine q (v :: vs) w2 (st1.trans st2) rs2 (fun qq => ?_) (.cons ((p1.keep st2 hk').at e3) r2)
          obtain ⟨qa, qb⟩ := quiet_go_cons qq
          exact (q1 qa).trans (q2 qb)
      · cases ev
    · cases ev
  · cases ev
/-- what a call's rule gives for a built-in -/
def BiSim (T : Tb) (b : Py.Bi) (r : List V → Hp → VK → Prop) : Prop := ∀ (ds : List Py.D) (z : Py.O), Py.bi b ds = some z → ∀ (w : Wd) (σ : L2.St) (s : Py.St) (vs : List V), RS T w σ s → Ats T w vs ds →
  ∀ Q : VK, (∀ v' w', Stp w w' → RS T w' σ s → GLe w.H w'.H → Res T w w' v' z → Q v' w'.H) → r vs w.H Q
theorem sim_bi {e : Expr} {es : List Expr} {E : Py.E} {Es : List Py.E} {b : Py.Bi} {r : List V → Hp → VK → Prop} {f : Expr} {pos : Pos} (p : PE X (.Call f (e :: es) [] pos) (tCB r (WA X (e :: es)))) (hb : BiSim T b r) (hs : SimVs T c X (e :: es) Es) :
    SimE T c X (.Call f (e :: es) [] pos) (.bi b Es) := by
  intro m w σ s o s' rs ev Q q
  simp only [Py.ev] at ev
  split at ev
  · rename_i ds s1 e1
    cases e2 : Py.bi b ds with
    | none => rw [e2] at ev; cases ev
    | some z =>
      rw [e2] at ev
      simp only [Option.map_some, Option.some.injEq, Prod.mk.injEq] at ev
      obtain ⟨rfl, rfl⟩ := ev
      refine WE.of p ?_
      refine hs w σ s ds s1 rs e1 _ fun vs w1 st1 rs1 q1 r1 => ?_
      refine hb ds z e2 w1 σ s1 vs rs1 r1 Q fun v' w2 st2 rs2 g2 r2 => ?_
      exact q v' w2 (st1.trans st2) rs2 (fun qq => (q1 (by simpa only [Py.E.quiet] using qq)).trans g2) (PO.of (r2.from st1))
  · cases ev
theorem Ats.one {w : Wd} {vs : List V} {d : Py.D} (h : Ats T w vs [d]) : ∃ v, vs = [v] ∧ At T w v d := by
  cases h with
  | cons a b =>
    cases b
    exact ⟨_, rfl, a⟩
theorem Ats.two {w : Wd} {vs : List V} {d e : Py.D} (h : Ats T w vs [d, e]) : ∃ v u, vs = [v, u] ∧ At T w v d ∧ At T w u e := by
  cases h with
  | cons a b =>
    obtain ⟨u, rfl, h⟩ := b.one
    exact ⟨_, u, rfl, a, h⟩
theorem At.scr' {w : Wd} {v : V} {ds : List Py.D} (k : LabOk w) (h : At T w v (.scr ds)) : ∃ a xs, v = .ref a ∧ SqL T.K w.H a xs ∧ Reps T w.G w.φ xs ds := by
  cases h with
  | g h =>
    cases h with
    | scr a b => exact ⟨_, _, rfl, (show GLe w.G w.H from k.gh).sqL a, b⟩
abbrev CR1 := List V → Hp → VK → Prop
def rLenA (K : PySem.W.Frag) : CR1 := fun xs H Q => ∃ p ys, xs = [.ref p] ∧ (SqL K H p ys ∨ SqT K H p ys) ∧ Q (.int ys.length) H
theorem cb_len : CallR X (.builtin "len") (rLenA X.K) := call_len_seq
theorem bs_len : BiSim T .len (rLenA T.K) := by
  intro ds z e w σ s vs rs h Q q
  match ds, e with
  | [.lst l], e =>
    cases e
    obtain ⟨v, rfl, hv⟩ := h.one
    obtain ⟨a, xs, rfl, h1, r1⟩ := hv.lst' rs.toLabOk
    exact ⟨a, xs, rfl, .inl (SqL.of h1), by rw [r1.length]; exact Stp.here rs q (Res.d (.int _))⟩
  | [.tup l], e =>
    cases e
    obtain ⟨v, rfl, hv⟩ := h.one
    obtain ⟨a, xs, rfl, h1, r1⟩ := hv.tup' rs.toLabOk
    exact ⟨a, xs, rfl, .inr (SqT.of h1), by rw [r1.length]; exact Stp.here rs q (Res.d (.int _))⟩
  | [.scr l], e =>
    cases e
    obtain ⟨v, rfl, hv⟩ := h.one
    obtain ⟨a, xs, rfl, h1, r1⟩ := hv.scr' rs.toLabOk
    exact ⟨a, xs, rfl, .inl h1, by rw [r1.length]; exact Stp.here rs q (Res.d (.int _))⟩
def rAbs : CR1 := fun xs H Q => ∃ i, xs = [.int i] ∧ Q (.int (if i < 0 then -i else i)) H
theorem cb_abs : CallR X (.builtin "abs") rAbs := call_abs
theorem bs_abs : BiSim T .abs rAbs := by
  intro ds z e w σ s vs rs h Q q
  match ds, e with
  | [.int i], e =>
    cases e
    obtain ⟨v, rfl, hv⟩ := h.one
    rw [hv.int]
    refine ⟨i, rfl, ?_⟩
    have : (if i < 0 then -i else i) = (i.natAbs : Int) := by split <;> omega
    rw [this]
    exact Stp.here rs q (Res.d (.int _))
def rInt : CR1 := fun xs H Q => (∃ i, xs = [.int i] ∧ Q (.int i) H) ∨ ∃ k, xs = [.bl k] ∧ Q (.int (if k then 1 else 0)) H
theorem cb_int : CallR X (.type "int") rInt := call_int1
theorem bs_int : BiSim T .int rInt := by
  intro ds z e w σ s vs rs h Q q
  match ds, e with
  | [.int i], e =>
    cases e
    obtain ⟨v, rfl, hv⟩ := h.one
    rw [hv.int]
    exact .inl ⟨i, rfl, Stp.here rs q (Res.d (.int _))⟩
  | [.bl i], e =>
    cases e
    obtain ⟨v, rfl, hv⟩ := h.one
    rw [hv.bl]
    exact .inr ⟨i, rfl, Stp.here rs q (Res.d (.int _))⟩
def rListA (K : PySem.W.Frag) : CR1 := fun xs H Q => ∃ p ys, xs = [.ref p] ∧ (SqL K H p ys ∨ SqT K H p ys) ∧ ∀ l, H l = none → Q (.ref l) (upd H l (.lst ys))
theorem cb_list : CallR X (.type "list") (rListA X.K) := call_list_of
theorem bs_list : BiSim T .list (rListA T.K) := by
  intro ds z e w σ s vs rs h Q q
  have fin : ∀ (xs : List V) (l : List Py.D), Reps T w.G w.φ xs l → (∀ v' w', Stp w w' → RS T w' σ s → GLe w.H w'.H → Res T w w' v' (.lst (l.map .d)) → Q v' w'.H) → ∀ p, w.H p = none → Q (.ref p) (upd w.H p (.lst xs)) := fun xs l r q p hp => by
    obtain ⟨a1, a2⟩ := rs.alloc hp (.lst xs)
    exact q (.ref p) _ a1 a2 (upd_gle hp) (rs.newL hp r)
  match ds, e with
  | [.lst l], e =>
    cases e
    obtain ⟨v, rfl, hv⟩ := h.one
    obtain ⟨a, xs, rfl, h1, r1⟩ := hv.lst' rs.toLabOk
    exact ⟨a, xs, rfl, .inl (SqL.of h1), fin xs l r1 q⟩
  | [.tup l], e =>
    cases e
    obtain ⟨v, rfl, hv⟩ := h.one
    obtain ⟨a, xs, rfl, h1, r1⟩ := hv.tup' rs.toLabOk
    exact ⟨a, xs, rfl, .inr (SqT.of h1), fin xs l r1 q⟩
def rTupleA (K : PySem.W.Frag) : CR1 := fun xs H Q => ∃ p ys, xs = [.ref p] ∧ ((SqL K H p ys ∧ ∀ l, H l = none → Q (.ref l) (upd H l (.tup ys))) ∨ (SqT K H p ys ∧ Q (.ref p) H))
theorem cb_tuple : CallR X (.type "tuple") (rTupleA X.K) := call_tuple_of
theorem bs_tuple : BiSim T .tuple (rTupleA T.K) := by
  intro ds z e w σ s vs rs h Q q
  match ds, e with
  | [.lst l], e =>
    cases e
    obtain ⟨v, rfl, hv⟩ := h.one
    obtain ⟨a, xs, rfl, h1, r1⟩ := hv.lst' rs.toLabOk
    refine ⟨a, xs, rfl, .inl ⟨SqL.of h1, fun p hp => ?_⟩⟩
    obtain ⟨w2, h2, st2, rs2, r2⟩ := rs.newT hp r1
    rw [← h2]
    exact q _ w2 st2 rs2 (by rw [h2]; exact upd_gle hp) (Res.d r2)
  | [.tup l], e =>
    cases e
    obtain ⟨v, rfl, hv⟩ := h.one
    have g1 : Rep T w.G w.φ v (.tup l) := by
      cases hv with
      | g h => exact h
    obtain ⟨a, xs, rfl, h1, r1⟩ := hv.tup' rs.toLabOk
    exact ⟨a, xs, rfl, .inr ⟨SqT.of h1, Stp.here rs q (Res.d g1)⟩⟩
end
end PyS
namespace PyS
open PySem PySem.Spec PyProof.Rows L2
variable {T : Tb}
section
variable {c : Py.Cx} {X : Cx}
/-! ### sum, all, any, min -/
def rSumT : CR1 := fun vs H Q => ∃ (a : Addr) (ns : List Int), vs = [V.ref a] ∧ H a = some (.tup (ns.map V.int)) ∧ Q (.int ns.sum) H
theorem cb_sumT (hc : X.calm = true) : CallR X (.builtin "sum") rSumT := by
  intro pins s σ H vs us Q I r h
  obtain ⟨a, ns, rfl, hs, q⟩ := h
  obtain ⟨_, its, rv, ht⟩ := (show ObjOk X.prog X.w H s.heap a (.tup (ns.map V.int)) from I.hok a _ hs)
  rw [Vals.ref1 r]
  have hi := rv.ints
  obtain ⟨xs, e⟩ := hi.allInts.items
  have hn : numsOf (intItems xs).toList = ns := by rw [← e]; exact hi.numsOf
  rw [nums_intItems] at hn
  rw [e] at ht
  refine PySem.W.ktm_sumG (I.ok.hd hc) ht fun h' tk t' hk => ?_
  rw [preSum_eq, List.take_of_length_le (by simp), hn]
  exact ⟨.int _, H, I.kept hk, ⟨_, rfl⟩, q⟩
def rSumA (K : PySem.W.Frag) : CR1 := fun vs H Q => rSum K vs H Q ∨ rSumT vs H Q
theorem cb_sum (hc : X.calm = true) : CallR X (.builtin "sum") (rSumA X.K) := CallR.or (cr_sum hc) (cb_sumT hc)
theorem bs_sum : BiSim T .sum (rSumA T.K) := by
  intro ds z e w σ s vs rs h Q q
  match ds, e with
  | [.lst l], e =>
    simp only [Py.bi] at e
    cases e2 : Py.intsD l with
    | none => rw [e2] at e; cases e
    | some ns =>
      rw [e2] at e
      cases e
      obtain ⟨v, rfl, hv⟩ := h.one
      obtain ⟨a, xs, rfl, h1, r1⟩ := hv.lst' rs.toLabOk
      rw [r1.intsD e2] at h1
      exact .inl ⟨a, ns, rfl, SqL.of h1, Stp.here rs q (Res.d (.int _))⟩
  | [.tup l], e =>
    simp only [Py.bi] at e
    cases e2 : Py.intsD l with
    | none => rw [e2] at e; cases e
    | some ns =>
      rw [e2] at e
      cases e
      obtain ⟨v, rfl, hv⟩ := h.one
      obtain ⟨a, xs, rfl, h1, r1⟩ := hv.tup' rs.toLabOk
      rw [r1.intsD e2] at h1
      exact .inr ⟨a, ns, rfl, h1, Stp.here rs q (Res.d (.int _))⟩
theorem cb_all (hc : X.calm = true) : CallR X (.builtin "all") (rAll X.K) := cr_all hc
theorem cb_any (hc : X.calm = true) : CallR X (.builtin "any") (rAny X.K) := cr_any hc
theorem bs_all : BiSim T .all (rAll T.K) := by
  intro ds z e w σ s vs rs h Q q
  match ds, e with
  | [.lst l], e =>
    simp only [Py.bi] at e
    cases e2 : Py.bls l with
    | none => rw [e2] at e; cases e
    | some ns =>
      rw [e2] at e
      cases e
      obtain ⟨v, rfl, hv⟩ := h.one
      obtain ⟨a, xs, rfl, h1, r1⟩ := hv.lst' rs.toLabOk
      rw [r1.bls e2] at h1
      exact ⟨a, ns, rfl, SqL.of h1, Stp.here rs q (Res.d (.bl _))⟩
theorem bs_any : BiSim T .any (rAny T.K) := by
  intro ds z e w σ s vs rs h Q q
  match ds, e with
  | [.lst l], e =>
    simp only [Py.bi] at e
    cases e2 : Py.bls l with
    | none => rw [e2] at e; cases e
    | some ns =>
      rw [e2] at e
      cases e
      obtain ⟨v, rfl, hv⟩ := h.one
      obtain ⟨a, xs, rfl, h1, r1⟩ := hv.lst' rs.toLabOk
      rw [r1.bls e2] at h1
      exact ⟨a, ns, rfl, SqL.of h1, Stp.here rs q (Res.d (.bl _))⟩
/-- the least of some intsD -/
theorem least_fold : ∀ (r : List Int) (n : Int), r.foldl min n ∈ n :: r ∧ ∀ y ∈ n :: r, r.foldl min n ≤ y
  | [], n => ⟨by simp, by simp⟩
  | x :: r, n => by
    obtain ⟨h1, h2⟩ := least_fold r (min n x)
    refine ⟨?_, fun y hy => ?_⟩
    · rcases List.mem_cons.mp h1 with h | h
      · rw [List.foldl_cons, h]
        rcases Int.le_total n x with z | z
        · rw [Int.min_eq_left z]; simp
        · rw [Int.min_eq_right z]; simp
      · rw [List.foldl_cons]
        exact List.mem_cons_of_mem _ (List.mem_cons_of_mem _ h)
    · rw [List.foldl_cons]
      have hm : (r.foldl min (min n x)) ≤ min n x := h2 _ List.mem_cons_self
      rcases List.mem_cons.mp hy with e | hy
      · subst e
        exact Int.le_trans hm (Int.min_le_left _ _)
      · rcases List.mem_cons.mp hy with e | hy
        · subst e
          exact Int.le_trans hm (Int.min_le_right _ _)
        · exact h2 y (List.mem_cons_of_mem _ hy)
theorem great_fold : ∀ (r : List Int) (n : Int), r.foldl max n ∈ n :: r ∧ ∀ y ∈ n :: r, y ≤ r.foldl max n
  | [], n => ⟨by simp, by simp⟩
  | x :: r, n => by
    obtain ⟨h1, h2⟩ := great_fold r (max n x)
    refine ⟨?_, fun y hy => ?_⟩
    · rcases List.mem_cons.mp h1 with h | h
      · rw [List.foldl_cons, h]
        rcases Int.le_total n x with z | z
        · rw [Int.max_eq_right z]; simp
        · rw [Int.max_eq_left z]; simp
      · rw [List.foldl_cons]
        exact List.mem_cons_of_mem _ (List.mem_cons_of_mem _ h)
    · rw [List.foldl_cons]
      have hm : max n x ≤ r.foldl max (max n x) := h2 _ List.mem_cons_self
      rcases List.mem_cons.mp hy with e | hy
      · subst e
        exact Int.le_trans (Int.le_max_left _ _) hm
      · rcases List.mem_cons.mp hy with e | hy
        · subst e
          exact Int.le_trans (Int.le_max_right _ _) hm
        · exact h2 y (List.mem_cons_of_mem _ hy)
theorem holdAll_ints {h : Heap} : ∀ {us : List Value} {ns : List Int}, Vals (ns.map V.int) us → PySem.W.HoldAll h us ns
  | _, [], .nil => ⟨_, ReadsAll.nil⟩
  | _, n :: ns, .cons r t => by
    obtain ⟨tk, rfl⟩ := r
    obtain ⟨as, h1⟩ := holdAll_ints (h := h) t
    exact ⟨_, ReadsAll.cons (Reads.int n tk) h1⟩
theorem minOf_int : ∀ (xs : List Int) (x : Int), PySem.W.minOf x xs = xs.foldl min x
  | [], _ => rfl
  | y :: r, x => by
    have ih := minOf_int r (min x y)
    have e : (if PySem.W.DatumOrd.lt y x = true then y else x) = min x y := by
      show (if decide (y < x) = true then y else x) = min x y
      by_cases h : y < x
      · rw [if_pos (decide_eq_true h), Int.min_eq_right (Int.le_of_lt h)]
      · rw [if_neg (by rw [decide_eq_false h]; decide), Int.min_eq_left (Int.not_lt.mp h)]
    rw [List.foldl_cons, ← ih]
    unfold PySem.W.minOf
    rw [List.foldl_cons, e]
theorem maxOf_int : ∀ (xs : List Int) (x : Int), PySem.W.maxOf x xs = xs.foldl max x
  | [], _ => rfl
  | y :: r, x => by
    have ih := maxOf_int r (max x y)
    have e : (if PySem.W.DatumOrd.lt x y = true then y else x) = max x y := by
      show (if decide (x < y) = true then y else x) = max x y
      by_cases h : x < y
      · rw [if_pos (decide_eq_true h), Int.max_eq_right (Int.le_of_lt h)]
      · rw [if_neg (by rw [decide_eq_false h]; decide), Int.max_eq_left (Int.not_lt.mp h)]
    rw [List.foldl_cons, ← ih]
    unfold PySem.W.maxOf
    rw [List.foldl_cons, e]
def rMinT (f : Int → Int → Int) : CR1 := fun vs H Q => ∃ (a : Addr) (n : Int) (ns : List Int), vs = [V.ref a] ∧ H a = some (.tup ((n :: ns).map V.int)) ∧ Q (.int (ns.foldl f n)) H
theorem cb_minT (hc : X.calm = true) (hu : X.A.units + 64 < cLine) : CallR X (.builtin "min") (rMinT min) := by
  intro pins s σ H vs us Q I r h
  obtain ⟨a, n, ns, rfl, hs, q⟩ := h
  obtain ⟨_, its, rv, ht⟩ := (show ObjOk X.prog X.w H s.heap a (.tup ((n :: ns).map V.int)) from I.hok a _ hs)
  rw [Vals.ref1 r]
  refine PySem.W.min_tuple_datum (x := n) (xs := ns) (I.ok.hd hc) ht (by have := holdAll_ints (h := s.heap) rv; simpa using this) (by show X.A.units + 1 + 0 < cLine; omega) fun i v h' tk hi hh hk => ?_
  obtain ⟨as, hr⟩ := hh
  rw [minOf_int] at hr
  cases hr
  exact ⟨.int _, H, I.kept hk, ⟨_, rfl⟩, q⟩
theorem cb_maxT (hc : X.calm = true) (hu : X.A.units + 64 < cLine) : CallR X (.builtin "max") (rMinT max) := by
  intro pins s σ H vs us Q I r h
  obtain ⟨a, n, ns, rfl, hs, q⟩ := h
  obtain ⟨_, its, rv, ht⟩ := (show ObjOk X.prog X.w H s.heap a (.tup ((n :: ns).map V.int)) from I.hok a _ hs)
  rw [Vals.ref1 r]
  refine PySem.W.max_tuple_datum (x := n) (xs := ns) (I.ok.hd hc) ht (by have := holdAll_ints (h := s.heap) rv; simpa using this) (by show X.A.units + 1 + 0 < cLine; omega) fun i v h' tk hi hh hk => ?_
  obtain ⟨as, hr⟩ := hh
  rw [maxOf_int] at hr
  cases hr
  exact ⟨.int _, H, I.kept hk, ⟨_, rfl⟩, q⟩
def rMin2 : CR1 := fun xs H Q => ∃ i j, xs = [.int i, .int j] ∧ Q (.int (if j < i then j else i)) H
def rMax2 : CR1 := fun xs H Q => ∃ i j, xs = [.int i, .int j] ∧ Q (.int (if j > i then j else i)) H
def rMinA (K : PySem.W.Frag) : CR1 := fun vs H Q => rMin2 vs H Q ∨ (L2.rMin K vs H Q ∨ rMinT min vs H Q)
def rMaxA (K : PySem.W.Frag) : CR1 := fun vs H Q => rMax2 vs H Q ∨ (L2.rMax K vs H Q ∨ rMinT max vs H Q)
theorem cb_min (hc : X.calm = true) (hu : X.A.units + 64 < cLine) : CallR X (.builtin "min") (rMinA X.K) := CallR.or (call_min2 hc) (CallR.or (cr_min hc) (cb_minT hc hu))
theorem cb_max (hc : X.calm = true) (hu : X.A.units + 64 < cLine) : CallR X (.builtin "max") (rMaxA X.K) := CallR.or (call_max2 hc) (CallR.or (cr_max hc) (cb_maxT hc hu))
theorem bs_min : BiSim T .min (rMinA T.K) := by
  intro ds z e w σ s vs rs h Q q
  match ds, e with
  | [.int i, .int j], e =>
    cases e
    obtain ⟨v, u, rfl, hv, hu⟩ := h.two
    rw [hv.int, hu.int]
    exact .inl ⟨i, j, rfl, Stp.here rs q (Res.d (.int _))⟩
  | [.lst l], e =>
    simp only [Py.bi] at e
    cases e2 : Py.intsD l with
    | none => rw [e2] at e; cases e
    | some ns =>
      rw [e2] at e
      simp only [Option.bind_some] at e
      cases ns with
      | nil => cases e
      | cons n r =>
        cases e
        obtain ⟨v, rfl, hv⟩ := h.one
        obtain ⟨a, xs, rfl, h1, r1⟩ := hv.lst' rs.toLabOk
        rw [r1.intsD e2] at h1
        refine .inr (.inl ⟨a, n :: r, rfl, SqL.of h1, by simp, fun m hm hl => ?_⟩)
        obtain ⟨l1, l2⟩ := least_fold r n
        have : m = r.foldl min n := Int.le_antisymm (hl _ l1) (l2 _ hm)
        subst this
        exact Stp.here rs q (Res.d (.int _))
  | [.tup l], e =>
    simp only [Py.bi] at e
    cases e2 : Py.intsD l with
    | none => rw [e2] at e; cases e
    | some ns =>
      rw [e2] at e
      simp only [Option.bind_some] at e
      cases ns with
      | nil => cases e
      | cons n r =>
        cases e
        obtain ⟨v, rfl, hv⟩ := h.one
        obtain ⟨a, xs, rfl, h1, r1⟩ := hv.tup' rs.toLabOk
        rw [r1.intsD e2] at h1
        exact .inr (.inr ⟨a, n, r, rfl, h1, Stp.here rs q (Res.d (.int _))⟩)
theorem bs_max : BiSim T .max (rMaxA T.K) := by
  intro ds z e w σ s vs rs h Q q
  match ds, e with
  | [.int i, .int j], e =>
    cases e
    obtain ⟨v, u, rfl, hv, hu⟩ := h.two
    rw [hv.int, hu.int]
    exact .inl ⟨i, j, rfl, Stp.here rs q (Res.d (.int _))⟩
  | [.lst l], e =>
    simp only [Py.bi] at e
    cases e2 : Py.intsD l with
    | none => rw [e2] at e; cases e
    | some ns =>
      rw [e2] at e
      simp only [Option.bind_some] at e
      cases ns with
      | nil => cases e
      | cons n r =>
        cases e
        obtain ⟨v, rfl, hv⟩ := h.one
        obtain ⟨a, xs, rfl, h1, r1⟩ := hv.lst' rs.toLabOk
        rw [r1.intsD e2] at h1
        refine .inr (.inl ⟨a, n :: r, rfl, SqL.of h1, by simp, fun m hm hl => ?_⟩)
        obtain ⟨l1, l2⟩ := great_fold r n
        have : m = r.foldl max n := Int.le_antisymm (l2 _ hm) (hl _ l1)
        subst this
        exact Stp.here rs q (Res.d (.int _))
  | [.tup l], e =>
    simp only [Py.bi] at e
    cases e2 : Py.intsD l with
    | none => rw [e2] at e; cases e
    | some ns =>
      rw [e2] at e
      simp only [Option.bind_some] at e
      cases ns with
      | nil => cases e
      | cons n r =>
        cases e
        obtain ⟨v, rfl, hv⟩ := h.one
        obtain ⟨a, xs, rfl, h1, r1⟩ := hv.tup' rs.toLabOk
        rw [r1.intsD e2] at h1
        exact .inr (.inr ⟨a, n, r, rfl, h1, Stp.here rs q (Res.d (.int _))⟩)
/-! ### isinstance -/
/-- what is known of the text's own classes of instances -/
structure ClsF (T : Tb) (c : Nat) (C : Addr) : Prop where
  cl : Cls T.K C
  ha : PySem.W.findIn T.K (.ref C) "__class__" = some (some (.builtin "object.__class__"))
  hn : PySem.W.specialIn T.K (.builtin "object.__class__") "__get__" = some (some (.builtin "getset_descriptor.__get__"))
  htk : PySem.W.takesIn T.K (.builtin "object.__class__") = some true
  hm : PySem.W.mroIn T.K C (.type "object") = some true
  /-- no built-in value is an instance of it -/
  no : ∀ n ∈ ["NoneType", "bool", "int", "str", "tuple", "list", "dict"], PySem.W.kitOne T.K (.type n) (.ref C) = some false
  /-- its instances are none of a built-in class -/
  un : ∀ n ∈ ["int", "bool", "str", "tuple", "list", "dict"], PySem.W.kitOne T.K (.ref C) (.type n) = some false
/-- all own classes that instances are made of -/
structure Clss (T : Tb) : Prop where
  xi : ∀ q C, T.xc q = some C → ExcC T.K C
  xx : ∀ q q' C C', T.xc q = some C → T.xc q' = some C' → PySem.W.kitOne T.K (.ref C) (.ref C') = some (q == q')
  xo : ∀ q c C C', T.xc q = some C → T.cls c = some C' → PySem.W.kitOne T.K (.ref C) (.ref C') = some (q == c)
  ox : ∀ c q C C', T.cls c = some C → T.xc q = some C' → PySem.W.kitOne T.K (.ref C) (.ref C') = some (c == q)
  xn : ∀ q C a, T.xc q = some C → a ∈ ["NoneType", "bool", "int", "str", "tuple", "list", "dict"] → PySem.W.kitOne T.K (.type a) (.ref C) = some false
  inj : ∀ f g, T.nm f = T.nm g → f = g
  na : ∀ c C f, T.cls c = some C → f < T.na → NoAttr T.K C (T.nm f)
  one : ∀ c C, T.cls c = some C → ClsF T c C
  two : ∀ c c' C C', T.cls c = some C → T.cls c' = some C' → PySem.W.kitOne T.K (.ref C) (.ref C') = some (c == c')
theorem At.ty {w : Wd} (k : LabOk w) {v : V} {d : Py.D} {n : String} (h : At T w v d) (e : Py.tyN d = some n) : TyX T.K w.H v (.type n) := by
  cases h with
  | g h =>
    cases h <;> cases e <;> first
      | exact .base .non
      | exact .base (.bl _)
      | exact .base (.int _)
      | exact .base (.str _)
      | exact .base (.tup (k.gh _ _ (by assumption)))
      | exact .base (.lst (k.gh _ _ (by assumption)))
      | exact .base (.dK (k.gh _ _ (by assumption)))
  | lst a b =>
    cases e
    exact .base (.lst a)
  | dic a b =>
    cases e
    exact .base (.dK a)
theorem kit_names {K : PySem.W.Frag} {a b : String} (ha : a ∈ ["NoneType", "bool", "int", "str", "tuple", "list", "dict"]) (hb : b ∈ Py.tyNames) : PySem.W.kitOne K (.type a) (.type b) = some (a == b || (a == "bool" && b == "int")) := by
  refine kit_ty ?_
  simp only [Py.tyNames, List.mem_cons, List.not_mem_nil, or_false] at ha hb
  rcases ha with rfl | rfl | rfl | rfl | rfl | rfl | rfl <;> rcases hb with rfl | rfl | rfl | rfl | rfl | rfl <;> decide +kernel
theorem tyN_mem {d : Py.D} {a : String} (h : Py.tyN d = some a) : a ∈ ["NoneType", "bool", "int", "str", "tuple", "list", "dict"] := by
  cases d <;> cases h <;> decide
theorem At.insT {w : Wd} (k : LabOk w) (F : Clss T) {v : V} {c : Nat} {l : List (Nat × Py.D)} (h : At T w v (.ins c l)) : ∃ C, T.cls c = some C ∧ TyX T.K w.H v (.ref C) := by
  cases h with
  | g h =>
    cases h with
    | ins a b r =>
      have f := F.one _ _ a
      exact ⟨_, a, .base (.ins (k.gh _ _ b) f.cl f.ha f.hn f.htk f.hm)⟩
/-- one built-in class -/
theorem isTy_kit {w : Wd} (k : LabOk w) (F : Clss T) {v : V} {d : Py.D} (h : At T w v d) {n : String} {b : Bool} (e : Py.isTy n d = some b) : ∃ t, TyX T.K w.H v t ∧ PySem.W.kitOne T.K t (.type n) = some b ∧ ∀ n' b', Py.isTy n' d = some b' → PySem.W.kitOne T.K t (.type n') = some b' := by
  have main : ∃ t, TyX T.K w.H v t ∧ ∀ n' b', Py.isTy n' d = some b' → PySem.W.kitOne T.K t (.type n') = some b' := by
    by_cases hi : ∃ c l, d = .ins c l
    · obtain ⟨c, l, rfl⟩ := hi
      obtain ⟨C, hC, ty⟩ := h.insT k F
      refine ⟨_, ty, fun n' b' e' => ?_⟩
      unfold Py.isTy at e'
      split at e'
      · rename_i hm
        cases e'
        exact (F.one _ _ hC).un n' hm
      · cases e'
    · cases ht : Py.tyN d with
      | none =>
        unfold Py.isTy at e
        split at e
        · split at e
          · exact absurd ⟨_, _, rfl⟩ hi
          · rw [ht] at e
            cases e
        · cases e
      | some a =>
        refine ⟨_, h.ty k ht, fun n' b' e' => ?_⟩
        unfold Py.isTy at e'
        split at e'
        · rename_i hm
          split at e'
          · exact absurd ⟨_, _, rfl⟩ hi
          · rw [ht] at e'
            cases e'
            exact kit_names (tyN_mem ht) hm
        · cases e'
  obtain ⟨t, ty, f⟩ := main
  exact ⟨t, ty, f n b e, f⟩
theorem anyN_kit {t : Value} {d : Py.D} {K : PySem.W.Frag} (f : ∀ n' b', Py.isTy n' d = some b' → PySem.W.kitOne K t (.type n') = some b') : ∀ {ns : List String} {b : Bool}, Py.anyN d ns = some b → PySem.W.kitAny K t (ns.map Value.type) = some b
  | [], b, e => by
    cases e
    rfl
  | n :: r, b, e => by
    rw [Py.anyN] at e
    split at e
    · rename_i h1
      cases e
      rw [List.map_cons, PySem.W.kitAny, f n _ h1]
    · rename_i h1
      rw [List.map_cons, PySem.W.kitAny, f n _ h1]
      exact anyN_kit f e
    · cases e
theorem tyNs_of : ∀ {l : List Py.D} {ns : List String}, Py.tyNs l = some ns → l = ns.map .ty
  | [], ns, e => by
    cases e
    rfl
  | .ty n :: r, ns, e => by
    rw [Py.tyNs] at e
    cases h : Py.tyNs r with
    | none => rw [h] at e; cases e
    | some z =>
      rw [h] at e
      cases e
      rw [tyNs_of h]
      rfl
  | .non :: _, _, e => by cases e
  | .bl _ :: _, _, e => by cases e
  | .int _ :: _, _, e => by cases e
  | .str _ :: _, _, e => by cases e
  | .tup _ :: _, _, e => by cases e
  | .lst _ :: _, _, e => by cases e
  | .dic _ :: _, _, e => by cases e
  | .ins _ _ :: _, _, e => by cases e
  | .fn _ :: _, _, e => by cases e
  | .cls _ :: _, _, e => by cases e
  | .cell _ :: _, _, e => by cases e
  | .scr _ :: _, _, e => by cases e
  | .exn _ :: _, _, e => by cases e
  | .tab _ :: _, _, e => by cases e
theorem reps_ty {G : Hp} {φ : List Addr} : ∀ {ns : List String} {vs : List V}, Reps T G φ vs (ns.map .ty) → vs = ns.map V.ty
  | [], _, .nil => rfl
  | n :: ns, _, .cons (.ty _) b => by
    rw [reps_ty b]
    rfl
theorem clsV_ty : ∀ ns : List String, Paired ClsV (ns.map V.ty) (ns.map Value.type)
  | [] => .nil
  | n :: ns => .cons (.ty n) (clsV_ty ns)
/-- isinstance(e, c), e an error that is held as a value -/
def rIsX (K : PySem.W.Frag) : CR1 := fun vs H Q => ∃ (a D : Addr) (y : V) (yv : Value) (b : Bool), vs = [.ref a, y] ∧ H a = some (ExC D a) ∧ ExcC K D ∧ (∀ u, RelV y u → u = yv) ∧ PySem.W.kitOne K (.ref D) yv = some b ∧ Q (.bl b) H
theorem call_isX : CallR X (.builtin "isinstance") (rIsX X.K) := by
  intro pins s σ H xs us Q I r h
  obtain ⟨a, D, y, yv, b, rfl, hH, F, hy, e, q⟩ := h
  match us, r with
  | [_, _], .cons rx (.cons ry .nil) =>
    cases rx
    obtain rfl := hy _ ry
    obtain ⟨⟨oe, vs, hget, ⟨z1, z2⟩, hd⟩, _, _⟩ := I.hok a _ hH
    have J : PySem.W.InstAt s.heap a oe D none := by
      obtain ⟨oc, od, oda, osl⟩ := oe
      dsimp only at z1 z2 hd
      subst z1 z2 hd
      exact ⟨hget, rfl, rfl, trivial⟩
    exact PySem.W.kia_one (PySem.W.handS_kitx_exc F.hg F.hk F.hs F.hd F.ha F.hn F.ht F.hm) I.kIn J e (fun z => nomatch z) fun tk => ⟨.bl b, H, I.kept (t' := tk) fun _ _ z => z, rfl, q⟩
def rIsA1 (K : PySem.W.Frag) : CR1 := fun vs H Q => (rIsi K vs H Q ∨ rIsiT K vs H Q) ∨ rIsX K vs H Q
theorem cb_isi : CallR X (.builtin "isinstance") (rIsA1 X.K) := CallR.or (CallR.or call_isi call_isiT) call_isX
theorem bs_isi (F : Clss T) : BiSim T .isinst (rIsA1 T.K) := by
  intro ds z e w σ s vs rs h Q q
  match ds, e with
  | [x, t], e =>
    simp only [Py.bi] at e
    cases e2 : Py.isInst x t with
    | none => rw [e2] at e; cases e
    | some b =>
      rw [e2] at e
      cases e
      obtain ⟨v, u, rfl, hv, hu⟩ := h.two
      have fin := Stp.here rs q (Res.d (.bl b))
      cases t with
      | ty n =>
        have hu' : u = .ty n := by
          cases hu with
          | g h => cases h; rfl
        subst hu'
        obtain ⟨t', ty, k, _⟩ := isTy_kit rs.toLabOk F hv e2
        exact .inl (.inl ⟨v, .ty n, t', .type n, b, rfl, .ty n, ty, k, fin⟩)
      | cls c =>
        obtain ⟨C, rfl, hI, hE, hO⟩ : ∃ C, u = .ref C ∧ (∀ c' C', T.cls c' = some C' → PySem.W.kitOne T.K (.ref C') (.ref C) = some (c' == c)) ∧ (∀ q C', T.xc q = some C' → PySem.W.kitOne T.K (.ref C') (.ref C) = some (q == c)) ∧
            ∀ a ∈ ["NoneType", "bool", "int", "str", "tuple", "list", "dict"], PySem.W.kitOne T.K (.type a) (.ref C) = some false := by
          cases hu with
          | g h =>
          cases h with
          | @cls C _ hC => exact ⟨C, rfl, fun _ _ z => F.two _ _ _ _ z hC, fun _ _ z => F.xo _ _ _ _ z hC, (F.one _ _ hC).no⟩
          | @xcl C _ hC => exact ⟨C, rfl, fun _ _ z => F.ox _ _ _ _ z hC, fun _ _ z => F.xx _ _ _ _ z hC, fun a z => F.xn _ _ a hC z⟩
        by_cases hi : ∃ c' l, x = .ins c' l
        · obtain ⟨c', l, rfl⟩ := hi
          cases e2
          obtain ⟨C', hC', ty⟩ := hv.insT rs.toLabOk F
          exact .inl (.inl ⟨v, .ref C, _, .ref C, _, rfl, .own C, ty, hI _ _ hC', fin⟩)
        by_cases hx : ∃ q, x = .exn q
        · obtain ⟨q, rfl⟩ := hx
          cases e2
          cases hv with
          | g h =>
          cases h with
          | @exn p C' _ hq hp => exact .inr ⟨p, C', .ref C, .ref C, _, rfl, rs.gh _ _ hp, F.xi _ _ hq, fun _ z => z, hE _ _ hq, fin⟩
        · have e3 : (Py.tyN x).map (fun _ => false) = some b := by
            cases x <;> first | exact e2 | exact absurd ⟨_, _, rfl⟩ hi | exact absurd ⟨_, rfl⟩ hx
          cases e4 : Py.tyN x with
          | none => rw [e4] at e3; cases e3
          | some a =>
            rw [e4] at e3
            cases e3
            exact .inl (.inl ⟨v, .ref C, _, .ref C, _, rfl, .own C, hv.ty rs.toLabOk e4, hO a (tyN_mem e4), fin⟩)
      | tup l =>
        simp only [Py.isInst] at e2
        cases e3 : Py.tyNs l with
        | none => rw [e3] at e2; cases e2
        | some ns =>
          rw [e3] at e2
          cases ns with
          | nil => cases e2
          | cons n r =>
          replace e2 : Py.anyN x (n :: r) = some b := e2
          have := tyNs_of e3
          subst this
          obtain ⟨a, xs, rfl, h1, r1⟩ := hu.tup' rs.toLabOk
          have := reps_ty r1
          subst this
          have main : ∃ t', TyX T.K w.H v t' ∧ ∀ n' b', Py.isTy n' x = some b' → PySem.W.kitOne T.K t' (.type n') = some b' := by
            have e2' := e2
            rw [Py.anyN] at e2'
            cases e5 : Py.isTy n x with
            | none => rw [e5] at e2'; cases e2'
            | some b5 =>
              obtain ⟨t', ty, _, k⟩ := isTy_kit rs.toLabOk F hv e5
              exact ⟨t', ty, k⟩
          obtain ⟨t', ty, k⟩ := main
          exact .inl (.inr ⟨v, a, _, t', _, b, rfl, h1, clsV_ty (n :: r), ty, anyN_kit k e2, fin⟩)
      | non => cases e2
      | bl _ => cases e2
      | int _ => cases e2
      | str _ => cases e2
      | lst _ => cases e2
      | dic _ => cases e2
      | ins _ _ => cases e2
      | fn _ => cases e2
      | cell _ => cases e2
      | scr _ => cases e2
      | exn _ => cases e2
      | tab _ => cases e2
end
end PyS
end

section
set_option Elab.async false
set_option linter.all false
set_option maxRecDepth 100000
set_option maxHeartbeats 2000000
/-! S7: items, slices, attributes, chains, dict displays. -/
namespace PyS
open PySem L2
variable {T : Tb}
section
variable {c : Py.Cx} {X : Cx}
theorem RepOs.get {w : Wd} {r : Root} : ∀ {os : List Py.O} {π : List Nat} {j n : Nat} {vs : List V} {o : Py.O}, RepOs T w r π j vs os → os[n]? = some o → ∃ v π', vs[n]? = some v ∧ RepO T w r π' v o
  | [], _, _, _, _, _, .nil, h => by simp at h
  | _ :: _, _, _, 0, _, _, .cons a b, h => by
    simp at h
    subst h
    exact ⟨_, _, rfl, a⟩
  | _ :: _, _, _, n + 1, _, _, .cons a b, h => by
    obtain ⟨v, π', h1, h2⟩ := b.get (n := n) (by simpa using h)
    exact ⟨v, π', by simpa using h1, h2⟩
theorem RepOs.length {w : Wd} {r : Root} : ∀ {os : List Py.O} {π : List Nat} {j : Nat} {vs : List V}, RepOs T w r π j vs os → vs.length = os.length
  | [], _, _, _, .nil => rfl
  | _ :: _, _, _, _, .cons a b => by rw [List.length_cons, List.length_cons, b.length]
theorem RepOk.find {w : Wd} {r : Root} (k : Key) : ∀ {os : List (Py.D × Py.O)} {π : List Nat} {j : Nat} {vs : List (Key × V)} {o : Py.O}, RepOk T w r π j vs os → (os.find? fun p => Py.D.eqv p.1 (kD k)).map (·.2) = some o → ∃ v π', valV vs k = some v ∧ RepO T w r π' v o
  | _, _, _, _, _, .nil, h => by cases h
  | _, _, _, _, _, @RepOk.cons _ _ _ π j k' v' vs o' os a b, h => by
    rw [List.find?_cons, kD_eqv] at h
    by_cases e : k' = k
    · rw [decide_eq_true e] at h
      cases h
      exact ⟨v', _, valV_pos (p := (k', v')) e, a⟩
    · rw [decide_eq_false e] at h
      obtain ⟨v, π', h1, h2⟩ := b.find k h
      exact ⟨v, π', (valV_neg (p := (k', v')) e).trans h1, h2⟩
def dicO : Py.O → Bool
  | .d (.dic _) | .dic _ => true
  | _ => false
/-- an item by a key: what the heap has there -/
def ItemAt (T : Tb) (w : Wd) (b : Bool) (v u : V) (o : Py.O) : Prop :=
  (b = false ∧ ∃ (p : Addr) (xs : List V) (i : Int) (z : V), v = .ref p ∧ u = .int i ∧ (w.H p = some (.lst xs) ∨ w.H p = some (.tup xs)) ∧ L2.atI xs i = some z ∧ View T w z o) ∨
  (b = true ∧ ∃ (p : Addr) (kvs : List (Key × V)) (k : Key) (z : V), v = .ref p ∧ w.H p = some (.dK kvs) ∧ u = kV k ∧ valV kvs k = some z ∧ View T w z o)
theorem view_d {w : Wd} {v : V} {x : Py.D} (h : Rep T w.G w.φ v x) : View T w v (.d x) := ⟨fun _ => none, .tmp, [], .d h⟩
theorem View.item {w : Wd} (lk : LabOk w) {v u : V} {oa o : Py.O} {kd : Py.D} (h : View T w v oa) (hk : Rep T w.G w.φ u kd) (e : Py.item oa kd = some o) : ItemAt T w (dicO oa) v u o := by
  obtain ⟨l, r, π, h⟩ := h
  cases h with
  | @d π v x h =>
    cases h with
    | @tup a xs ds ha hr =>
      cases kd <;> first | (cases e; done) | skip
      rename_i i
      cases hk
      simp only [Py.item] at e
      cases e1 : (Py.ixN ds.length i).bind (ds[·]?) with
      | none => rw [e1] at e; cases e
      | some d =>
        rw [e1] at e
        cases e
        obtain ⟨j, e2, e3⟩ := Option.bind_eq_some_iff.mp e1
        obtain ⟨z, z1, z2⟩ := hr.get e3
        refine .inl ⟨rfl, a, xs, i, z, rfl, rfl, .inr (lk.gh _ _ ha), ?_, view_d z2⟩
        unfold L2.atI
        rw [hr.length]
        exact Option.bind_eq_some_iff.mpr ⟨j, e2, z1⟩
    | @lst a xs ds ha hr =>
      cases kd <;> first | (cases e; done) | skip
      rename_i i
      cases hk
      simp only [Py.item] at e
      cases e1 : (Py.ixN ds.length i).bind (ds[·]?) with
      | none => rw [e1] at e; cases e
      | some d =>
        rw [e1] at e
        cases e
        obtain ⟨j, e2, e3⟩ := Option.bind_eq_some_iff.mp e1
        obtain ⟨z, z1, z2⟩ := hr.get e3
        refine .inl ⟨rfl, a, xs, i, z, rfl, rfl, .inl (lk.gh _ _ ha), ?_, view_d z2⟩
        unfold L2.atI
        rw [hr.length]
        exact Option.bind_eq_some_iff.mpr ⟨j, e2, z1⟩
    | @dic a kvs ds ha hr =>
      simp only [Py.item] at e
      split at e
      · rename_i hkey
        obtain ⟨k, rfl, rfl⟩ := hk.key hkey
        rcases hr.get k with ⟨h1, _⟩ | ⟨d, z, h1, h2, h3⟩
        · rw [h1] at e
          cases e
        · rw [h1] at e
          cases e
          exact .inr ⟨rfl, a, kvs, k, z, rfl, lk.gh _ _ ha, rfl, h2, view_d h3⟩
      · cases e
    | _ => cases e
  | @lst π a xs os h1 h2 h3 =>
    cases kd <;> first | (cases e; done) | skip
    rename_i i
    cases hk
    simp only [Py.item] at e
    obtain ⟨j, e2, e3⟩ := Option.bind_eq_some_iff.mp e
    obtain ⟨z, π', z1, z2⟩ := h3.get e3
    refine .inl ⟨rfl, a, xs, i, z, rfl, rfl, .inl h2, ?_, ⟨l, r, π', z2⟩⟩
    unfold L2.atI
    rw [h3.length]
    exact Option.bind_eq_some_iff.mpr ⟨j, e2, z1⟩
  | @dic π a kvs os h1 h2 h3 =>
    simp only [Py.item] at e
    split at e
    · rename_i hkey
      obtain ⟨k, rfl, rfl⟩ := hk.key hkey
      obtain ⟨z, π', z1, z2⟩ := h3.find k e
      exact .inr ⟨rfl, a, kvs, k, z, rfl, h2, rfl, z1, ⟨l, r, π', z2⟩⟩
    · cases e
  | ins h1 h2 h3 h4 => cases e
  | tab _ _ _ _ => cases e
def notSlice : Expr → Bool
  | .Slice _ _ _ _ => false
  | _ => true
theorem plainIx {b : Expr} (h : notSlice b = true) : PlainIx b := by
  intro o i
  cases b <;> first | rfl | cases h
theorem View.d {w : Wd} {v : V} {x : Py.D} (h : View T w v (.d x)) : Rep T w.G w.φ v x := by
  obtain ⟨l, r, π, q⟩ := h
  cases q with
  | d q => exact q
theorem sim_idx {a i : Expr} {A I : Py.E} {pos : Pos} (hu : X.A.units + 64 < cLine) (n : notSlice i = true) (ha : SimE T c X a A) (hi : SimE T c X i I) : SimE T c X (.Subscript a i pos) (.idx A I) := by
  intro m w σ s o s' rs ev Q q
  simp only [Py.ev] at ev
  split at ev
  · rename_i oa s1 e1
    split at ev
    · rename_i hk
      split at ev
      · rename_i kd s2 e2
        cases e3 : Py.item oa kd with
        | none => rw [e3] at ev; cases ev
        | some z =>
          rw [e3] at ev
          simp only at ev
          split at ev
          · rename_i hm
            simp only [Option.some.injEq, Prod.mk.injEq] at ev
            obtain ⟨rfl, rfl⟩ := ev
            -- both parts evaluated, the way of the subscript is open
            have two : ∀ (R : V → V → Hp → Prop), (∀ v u w2, Stp w w2 → RS T w2 σ s2 → (A.quiet = true → I.quiet = true → GLe w.H w2.H) → ItemAt T w2 (dicO oa) v u z → R v u w2.H) → WE X a σ w.H fun v H1 => WE X i σ H1 fun u H2 => R v u H2 := by
              intro R hR
              refine ha true w σ s oa s1 rs e1 _ fun v w1 st1 rs1 q1 p1 => ?_
              refine hi false w1 σ s1 _ s2 rs1 e2 _ fun u w2 st2 rs2 q2 p2 => ?_
              exact hR v u w2 (st1.trans st2) rs2 (fun qa qb => (q1 qa).trans (q2 qb)) ((p1.keep st2 (keep_of hk q2)).item rs2.toLabOk p2.res.of_d e3)
            have fin : ∀ w2 x, Stp w w2 → RS T w2 σ s2 → (A.quiet = true → I.quiet = true → GLe w.H w2.H) → View T w2 x z → Q x w2.H := by
              intro w2 x st2 rs2 g2 vx
              refine q x w2 st2 rs2 (fun qq => ?_) ?_
              · simp only [Py.E.quiet, Bool.and_eq_true] at qq
                exact g2 qq.1 qq.2
              · cases m with
                | true => exact vx
                | false =>
                  cases z with
                  | d z => exact Res.d vx.d
                  | lst _ => cases hm
                  | dic _ => cases hm
                  | ins _ _ => cases hm
                  | tab _ => cases hm
            cases hd : dicO oa with
            | true =>
              refine WE.of (pe_dget (by omega) pe_self pe_self (plainIx n)) ?_
              refine two (fun v u H2 => ∃ a v', v = .ref a ∧ DGet H2 a u (some v') ∧ Q v' H2) fun v u w2 st2 rs2 g2 it => ?_
              rw [hd] at it
              rcases it with ⟨hb, _⟩ | ⟨_, p, kvs, k, x, rfl, hp, rfl, hx, vx⟩
              · cases hb
              · refine ⟨p, x, rfl, ?_, fin w2 x st2 rs2 g2 vx⟩
                rw [← hx]
                exact DGet.k hp
            | false =>
              refine WE.of (pe_ix ix_seq pe_self pe_self (plainIx n)) ?_
              refine two (fun v u H2 => rIx X.K v u H2 Q) fun v u w2 st2 rs2 g2 it => ?_
              rw [hd] at it
              rcases it with ⟨_, p, xs, j, x, rfl, rfl, hp, hx, vx⟩ | ⟨hb, _⟩
              · have := fin w2 x st2 rs2 g2 vx
                rcases hp with hp | hp
                · exact .inl ⟨p, xs, j, x, rfl, rfl, SqL.of hp, hx, this⟩
                · exact .inr (.inl ⟨p, xs, j, x, rfl, rfl, SqT.of hp, hx, this⟩)
              · cases hb
          · cases ev
      · cases ev
    · cases ev
  · cases ev

/-! ### slices -/
def SimO (T : Tb) (c : Py.Cx) (X : Cx) (e : Option Expr) (E : Option Py.E) : Prop :=
  ∃ t : TO, L2.PO X e t ∧ ∀ (w : Wd) (σ : L2.St) (s : Py.St) (i : Option Int) (s' : Py.St), RS T w σ s → Py.evo c E s = some (i, s') →
    ∀ Q : Option Int → Hp → Prop, (∀ w', Stp w w' → RS T w' σ s' → (Py.E.quietO E = true → GLe w.H w'.H) → Q i w'.H) → t σ w.H Q
theorem simo_none : SimO T c X none none := ⟨_, po_none, fun w σ s i s' rs ev Q q => by
  simp only [Py.evo, Option.some.injEq, Prod.mk.injEq] at ev
  obtain ⟨rfl, rfl⟩ := ev
  exact q w (Stp.refl w) rs fun _ => GLe.refl _⟩
theorem simo_some {e : Expr} {E : Py.E} (h : SimE T c X e E) : SimO T c X (some e) (some E) := ⟨_, po_some pe_self, fun w σ s i s' rs ev Q q => by
  simp only [Py.evo] at ev
  split at ev
  · rename_i j s1 e1
    simp only [Option.some.injEq, Prod.mk.injEq] at ev
    obtain ⟨rfl, rfl⟩ := ev
    exact h false w σ s _ _ rs e1 _ fun v w1 st1 rs1 q1 p1 => ⟨j, p1.res.int, q w1 st1 rs1 q1⟩
  · cases ev⟩
def rSlAll (K : PySem.W.Frag) : V → Option Int → Option Int → Hp → VK → Prop := fun x lo hi H Q => rSlL K x lo hi H Q ∨ rSlA K x lo hi H Q
theorem sl_all : SlR X (rSlAll X.K) := SlR.or sl_list sl_tupA
theorem cut_of {G : Hp} {φ : List Addr} {xs : List V} {ds : List Py.D} (h : Reps T G φ xs ds) (lo hi : Option Int) : Reps T G φ (cutV xs lo hi) (Py.cut ds lo hi) := by
  unfold cutV Py.cut
  rw [h.length]
  exact (h.drop _).take _
theorem cut_whole {α : Type} {xs : List α} {lo hi : Option Int} (h : HT.sIx xs.length 0 lo = 0 ∧ HT.sIx xs.length xs.length hi = xs.length) : Py.cut xs lo hi = xs := by
  unfold Py.cut
  have h1 : Py.sIx xs.length 0 lo = 0 := h.1
  have h2 : Py.sIx xs.length xs.length hi = xs.length := h.2
  rw [h1, h2, List.drop_zero, Nat.sub_zero, List.take_length]
theorem sim_slc {a : Expr} {lo hi : Option Expr} {A : Py.E} {Lo Hi : Option Py.E} {p2 pos : Pos} (ha : SimE T c X a A) (hl : SimO T c X lo Lo) (hh : SimO T c X hi Hi) (hK : X.K = T.K) : SimE T c X (.Subscript a (.Slice lo hi none p2) pos) (.slc A Lo Hi) := by
  intro m w σ s o s' rs ev Q q
  obtain ⟨tl, pl, hl⟩ := hl
  obtain ⟨th, ph, hh⟩ := hh
  simp only [Py.ev] at ev
  split at ev
  · rename_i oa s1 e1
    split at ev
    · rename_i hk
      split at ev
      · rename_i l s2 e2
        split at ev
        · rename_i h s3 e3
          refine WE.of (pe_slice sl_all pe_self pl ph) ?_
          refine ha true w σ s oa s1 rs e1 _ fun v w1 st1 rs1 q1 p1 => ?_
          refine hl w1 σ s1 l s2 rs1 e2 _ fun w2 st2 rs2 q2 => ?_
          refine hh w2 σ s2 h s3 rs2 e3 _ fun w3 st3 rs3 q3 => ?_
          have st := (st1.trans st2).trans st3
          have hk' : oa.isD = true ∨ GLe w1.H w3.H ∨ A.place = false := by
            rw [Bool.or_eq_true, Bool.or_eq_true, Bool.and_eq_true] at hk
            rcases hk with (hk | hk) | hk
            · exact .inl hk
            · exact .inr (.inl ((q2 hk.1).trans (q3 hk.2)))
            · refine .inr (.inr ?_)
              cases z : A.place with
              | false => rfl
              | true => rw [z] at hk; cases hk
          have vw := p1.keep (st2.trans st3) hk'
          have hq : Qt (.slc A Lo Hi) w w3 := fun qq => by simp only [Py.E.quiet] at qq; cases qq
          split at ev
          · rename_i xs hf
            simp only [Option.some.injEq, Prod.mk.injEq] at ev
            obtain ⟨rfl, rfl⟩ := ev
            obtain ⟨p, ys, rfl, h1, r1⟩ := (vw.at hf).lst' rs3.toLabOk
            refine .inl ⟨p, ys, rfl, SqL.of h1, fun p2 hp2 => ?_⟩
            obtain ⟨a1, a2⟩ := rs3.alloc hp2 (.lst (cutV ys l h))
            exact q (.ref p2) _ (st.trans a1) a2 (fun qq => by simp only [Py.E.quiet] at qq; cases qq) (PO.of ((rs3.newL hp2 (cut_of r1 l h)).from st))
          · rename_i xs hf
            simp only [Option.some.injEq, Prod.mk.injEq] at ev
            obtain ⟨rfl, rfl⟩ := ev
            have g1 : Rep T w3.G w3.φ v (.tup xs) := by
              cases vw.at hf with
              | g h => exact h
            obtain ⟨p, ys, rfl, h1, r1⟩ := (vw.at hf).tup' rs3.toLabOk
            refine .inr ⟨p, ys, rfl, SqT.of h1, fun hw => ?_, fun hw p2 hp2 => ?_⟩
            · rw [r1.length] at hw
              refine q (.ref p) w3 st rs3 hq (PO.of ?_)
              rw [cut_whole hw]
              exact Res.d g1
            · obtain ⟨w4, h4, st4, rs4, r4⟩ := rs3.newT hp2 (cut_of r1 l h)
              rw [← h4]
              exact q _ w4 (st.trans st4) rs4 (fun qq => by simp only [Py.E.quiet] at qq; cases qq) (PO.of (Res.d r4))
          · cases ev
        · cases ev
      · cases ev
    · cases ev
  · cases ev
/-! ### attributes -/
theorem RepF.get (inj : ∀ f g, T.nm f = T.nm g → f = g) {G : Hp} {φ : List Addr} {f : Nat} {d : Py.D} : ∀ {fs : List (Str × V)} {l : List (Nat × Py.D)}, RepF T G φ fs l → l.lookup f = some d → ∃ v, fs.lookup (T.nm f) = some v ∧ Rep T G φ v d
  | _, _, .nil, h => by cases h
  | _, _, @RepF.cons _ _ _ g v vs d' ds a b, h => by
    by_cases e : f = g
    · subst e
      simp only [List.lookup_cons, beq_self_eq_true] at h ⊢
      cases h
      exact ⟨v, rfl, a⟩
    · have e1 : (f == g) = false := beq_eq_false_iff_ne.mpr e
      have e2 : (T.nm f == T.nm g) = false := beq_eq_false_iff_ne.mpr fun z => e (inj _ _ z)
      simp only [List.lookup_cons, e1] at h
      simp only [List.lookup_cons, e2]
      exact b.get inj h
theorem RepOf.get (inj : ∀ f g, T.nm f = T.nm g → f = g) {w : Wd} {r : Root} {f : Nat} {d : Py.O} : ∀ {fs : List (Str × V)} {l : List (Nat × Py.O)} {π : List Nat} {j : Nat}, RepOf T w r π j fs l → l.lookup f = some d → ∃ v π', fs.lookup (T.nm f) = some v ∧ RepO T w r π' v d
  | _, _, _, _, .nil, h => by cases h
  | _, _, _, _, @RepOf.cons _ _ _ _ _ g v vs d' ds a b, h => by
    by_cases e : f = g
    · subst e
      simp only [List.lookup_cons, beq_self_eq_true] at h ⊢
      cases h
      exact ⟨v, _, rfl, a⟩
    · have e1 : (f == g) = false := beq_eq_false_iff_ne.mpr e
      have e2 : (T.nm f == T.nm g) = false := beq_eq_false_iff_ne.mpr fun z => e (inj _ _ z)
      simp only [List.lookup_cons, e1] at h
      simp only [List.lookup_cons, e2]
      exact b.get inj h
theorem sim_attr {a : Expr} {A : Py.E} {f : Nat} {pos : Pos} (F : Clss T) (hK : X.K = T.K) (hf : f < T.na) (hb : attributeBase a (T.nm f) X.env (eval a X.env) = eval a X.env) (ha : SimE T c X a A) : SimE T c X (.Attribute a (T.nm f) pos) (.attr A f) := by
  intro m w σ s o s' rs ev Q q
  simp only [Py.ev] at ev
  have main : ∀ oa s1, Py.ev c true A s = some (oa, s1) → (∃ z, (∀ v w1, RS T w1 σ s1 → View T w1 v oa → ∃ p k C dx fs x, v = .ref p ∧ T.cls k = some C ∧ w1.H p = some (.ins C dx fs) ∧ fs.lookup (T.nm f) = some x ∧ View T w1 x z) ∧ (m || z.isD) = true ∧ o = z ∧ s' = s1) → WE X (.Attribute a (T.nm f) pos) σ w.H Q := by
    intro oa s1 e1 ⟨z, hz, hm, eo, es⟩
    subst eo es
    refine WE.of (pe_fld pe_self hb) ?_
    refine ha true w σ s oa s' rs e1 _ fun v w1 st1 rs1 q1 p1 => ?_
    obtain ⟨p, k, C, dx, fs, x, rfl, hC, hp, hl, vx⟩ := hz v w1 rs1 p1.view
    rw [hK]
    refine ⟨p, C, dx, fs, x, rfl, hp, (F.one k C hC).cl, F.na k C f hC hf, hl, q x w1 st1 rs1 (fun qq => q1 (by simpa only [Py.E.quiet] using qq)) ?_⟩
    cases m with
    | true => exact vx
    | false =>
      cases o with
      | d z => exact Res.d vx.d
      | lst _ => cases hm
      | dic _ => cases hm
      | ins _ _ => cases hm
      | tab _ => cases hm
  split at ev
  · rename_i d s1 e1
    cases h2 : Py.attrOf f d with
    | none => rw [h2] at ev; cases ev
    | some y =>
      rw [h2] at ev
      simp only [Option.map_some, Option.some.injEq, Prod.mk.injEq] at ev
      obtain ⟨rfl, rfl⟩ := ev
      refine main _ _ e1 ⟨.d y, fun v w1 rs1 vw => ?_, by simp [Py.O.isD], rfl, rfl⟩
      have r := vw.d
      cases d <;> first | (cases h2; done) | skip
      cases r with
      | ins hC hG hF =>
        obtain ⟨x, x1, x2⟩ := hF.get F.inj h2
        exact ⟨_, _, _, _, _, x, rfl, hC, rs1.gh _ _ hG, x1, view_d x2⟩
  · rename_i k l s1 e1
    split at ev
    · rename_i z h2
      split at ev
      · rename_i hm
        simp only [Option.some.injEq, Prod.mk.injEq] at ev
        obtain ⟨rfl, rfl⟩ := ev
        refine main _ _ e1 ⟨z, fun v w1 rs1 vw => ?_, hm, rfl, rfl⟩
        obtain ⟨lb, r, π, vw⟩ := vw
        cases vw with
        | ins h1 hC hG hF =>
          obtain ⟨x, π', x1, x2⟩ := hF.get F.inj h2
          exact ⟨_, _, _, _, _, x, rfl, hC, hG, x1, ⟨lb, r, π', x2⟩⟩
      · cases ev
    · cases ev
  · cases ev
/-! ### chains -/
theorem ev_chain {op op' : Py.Cop} {A B C : Py.E} {s s' : Py.St} {o : Py.O} {m : Bool} (ev : Py.ev c m (.chain op op' A B C) s = some (o, s')) :
    ∃ x s1 y s2 b, Py.ev c false A s = some (.d x, s1) ∧ Py.ev c false B s1 = some (.d y, s2) ∧ Py.cop op x y = some b ∧
      ((b = false ∧ o = .d (.bl false) ∧ s' = s2) ∨ (b = true ∧ ∃ z b', Py.ev c false C s2 = some (.d z, s') ∧ Py.cop op' y z = some b' ∧ o = .d (.bl b'))) := by
  simp only [Py.ev] at ev
  split at ev
  · rename_i x s1 e1
    split at ev
    · rename_i y s2 e2
      split at ev
      · rename_i e3
        split at ev
        · rename_i z s3 e4
          cases e5 : Py.cop op' y z with
          | none => rw [e5] at ev; cases ev
          | some b' =>
            rw [e5] at ev
            simp only [Option.map_some, Option.some.injEq, Prod.mk.injEq] at ev
            obtain ⟨rfl, rfl⟩ := ev
            exact ⟨x, s1, y, s2, true, e1, e2, e3, .inr ⟨rfl, z, b', e4, e5, rfl⟩⟩
        · cases ev
      · rename_i e3
        simp only [Option.some.injEq, Prod.mk.injEq] at ev
        obtain ⟨rfl, rfl⟩ := ev
        exact ⟨x, s1, y, s2, false, e1, e2, e3, .inl ⟨rfl, rfl, rfl⟩⟩
      · cases ev
    · cases ev
  · cases ev
theorem lastMarks_of {op op' : CmpOp} {b c' : Expr} (h : notSet c' = true) : lastMarks [op, op'] [b, c'] = false := nomark' h op'
theorem chain_run {a b d : Expr} {A B C : Py.E} {op op' : Py.Cop} {r r' : R2} (hf : OpSim T (copO op) r) (hf' : OpSim T (copO op') r') (ha : SimE T c X a A) (hb : SimE T c X b B) (hc : SimE T c X d C)
    {w : Wd} {σ : L2.St} {s s' : Py.St} {z : Bool} {m : Bool} (rs : RS T w σ s) (ev : Py.ev c m (.chain op op' A B C) s = some (.d (.bl z), s')) {Q : VK} (q : ∀ w', Stp w w' → RS T w' σ s' → Q (.bl z) w'.H) : tChain r r' (WE X a) (WE X b) (WE X d) σ w.H Q := by
  obtain ⟨x, s1, y, s2, b', e1, e2, e3, e4⟩ := ev_chain ev
  refine ha false w σ s _ _ rs e1 _ fun v w1 st1 rs1 q1 p1 => ?_
  refine hb false w1 σ s1 _ _ rs1 e2 _ fun u w2 st2 rs2 q2 p2 => ?_
  have r1 := p1.res.of_d.mono st2.g st2.f
  have r2 := p2.res.of_d
  refine hf x y (.d (.bl b')) (by unfold copO; rw [e3]; rfl) w2 σ s2 v u rs2 (.g r1) (.g r2) _ fun v' w3 st3 rs3 g3 r3 => ?_
  refine ⟨b', r3.bl, ?_⟩
  rcases e4 with ⟨rfl, e5, rfl⟩ | ⟨rfl, y2, b2, e5, e6, e7⟩
  · cases e5
    rw [if_neg (by decide)]
    exact q w3 ((st1.trans st2).trans st3) rs3
  · cases e7
    rw [if_pos rfl]
    refine hc false w3 σ s2 _ _ rs3 e5 _ fun u2 w4 st4 rs4 q4 p4 => ?_
    refine hf' y y2 (.d (.bl z)) (by unfold copO; rw [e6]; rfl) w4 σ s' u u2 rs4 (.g ((r2.mono st3.g st3.f).mono st4.g st4.f)) (.g p4.res.of_d) _ fun v5 w5 st5 rs5 g5 r5 => ?_
    rw [r5.bl]
    exact q w5 ((((st1.trans st2).trans st3).trans st4).trans st5) rs5
theorem sim_chain {a b d : Expr} {A B C : Py.E} {op op' : Py.Cop} {p p' : CmpOp} {pos : Pos} {r r' : R2} (ho : OpR X (compareOp p) r) (ho' : OpR X (compareOp p') r') (hf : OpSim T (copO op) r) (hf' : OpSim T (copO op') r') (hn : notSet d = true) (ha : SimE T c X a A) (hb : SimE T c X b B) (hc : SimE T c X d C) :
    SimE T c X (.Compare a [p, p'] [b, d] pos) (.chain op op' A B C) := by
  intro m w σ s o s' rs ev Q q
  refine WE.of (pe_chain ho ho' pe_self pe_self pe_self (lastMarks_of hn)) ?_
  obtain ⟨x, s1, y, s2, b', e1, e2, e3, e4⟩ := ev_chain ev
  have : ∃ z, o = .d (.bl z) := by
    rcases e4 with ⟨_, e5, _⟩ | ⟨_, y2, b2, _, _, e7⟩
    · exact ⟨_, e5⟩
    · exact ⟨_, e7⟩
  obtain ⟨z, rfl⟩ := this
  exact chain_run hf hf' ha hb hc rs ev fun w' st' rs' => q _ w' st' rs' (fun qq => by simp only [Py.E.quiet] at qq; cases qq) (PO.of (Res.d (.bl _)))
theorem simT_chain {a b d : Expr} {A B C : Py.E} {op op' : Py.Cop} {p p' : CmpOp} {pos : Pos} {r r' : R2} (ho : OpR X (compareOp p) r) (ho' : OpR X (compareOp p') r') (hf : OpSim T (copO op) r) (hf' : OpSim T (copO op') r') (hn : notSet d = true) (ha : SimE T c X a A) (hb : SimE T c X b B) (hc : SimE T c X d C) :
    SimT T c X (.Compare a [p, p'] [b, d] pos) (.chain op op' A B C) := by
  intro w σ s z s' rs ev Q q
  refine WT.of (pt_chain ho ho' pe_self pe_self pe_self (lastMarks_of hn)) ?_
  exact chain_run hf hf' ha hb hc rs ev fun w' st' rs' => ⟨z, rfl, q w' st' rs' (fun qq => by simp only [Py.E.quiet] at qq; cases qq)⟩
end
end PyS
end

section
set_option Elab.async false
set_option linter.all false
set_option maxRecDepth 100000
set_option maxHeartbeats 2000000
/-! S8: calls of defs. -/
namespace PyS
open PySem L2
variable {T : Tb}
/-- the cells alone are known to the callee -/
def cellsL (l : Lab) : Lab := fun a => match l a with
  | some (.cell n, π) => some (.cell n, π)
  | _ => none
def hideE (w : Wd) : Wd := { w with lab := cellsL w.lab }
theorem cellsL_some {l : Lab} {a : Addr} {x : Root × List Nat} (h : cellsL l a = some x) : l a = some x ∧ ∃ n, x.1 = .cell n := by
  unfold cellsL at h
  split at h
  · rename_i n π e
    cases h
    exact ⟨e, n, rfl⟩
  · cases h
theorem cellsL_cell {l : Lab} {a : Addr} {n : Nat} {π : List Nat} (h : l a = some (.cell n, π)) : cellsL l a = some (.cell n, π) := by
  unfold cellsL
  rw [h]
theorem cellsL_slot {l : Lab} {a : Addr} {i : Nat} {π : List Nat} (h : l a = some (.slot i, π)) : cellsL l a = none := by
  unfold cellsL
  rw [h]
theorem cellsL_none {l : Lab} {a : Addr} (h : l a = none) : cellsL l a = none := by
  unfold cellsL
  rw [h]
/-- labels behind a call: the caller's own again -/
def unhide (w w' : Wd) : Wd := { w' with lab := fun a => match w.lab a with
  | some (.slot i, π) => some (.slot i, π)
  | _ => w'.lab a }
theorem unhide_slot {w w' : Wd} {a : Addr} {i : Nat} {π : List Nat} (h : w.lab a = some (.slot i, π)) : (unhide w w').lab a = some (.slot i, π) := by
  show (match w.lab a with | some (.slot i, π) => some (Root.slot i, π) | _ => w'.lab a) = _
  rw [h]
theorem unhide_other {w w' : Wd} {a : Addr} (h : ∀ i π, w.lab a ≠ some (.slot i, π)) : (unhide w w').lab a = w'.lab a := by
  show (match w.lab a with | some (.slot i, π) => some (Root.slot i, π) | _ => w'.lab a) = _
  split
  · rename_i i π e
    exact absurd e (h i π)
  · rfl
theorem RS.hide {w : Wd} {σ : L2.St} {s : Py.St} (rs : RS T w σ s) : RS T (hideE w) [] ⟨[], s.sto⟩ := by
  refine ⟨⟨rs.gh, fun a x e => rs.lg a x (cellsL_some e).1⟩, fun i o h => ?_, fun n o h => ?_, rs.len, rfl⟩
  · simp at h
  · obtain ⟨a, h1, h2⟩ := rs.sto n o h
    refine ⟨a, h1, RepO.move ?_ h2⟩
    exact ⟨GLe.refl _, PLe.refl _, fun a π q => ⟨cellsL_cell q, fun _ z => z⟩⟩
/-- behind the call -/
theorem RS.back {w w' : Wd} {σ : L2.St} {s : Py.St} {sto : List Py.O} (rs : RS T w σ s) (st : Stp (hideE w) w') (rs' : RS T w' [] ⟨[], sto⟩) :
    Stp w (unhide w w') ∧ RS T (unhide w w') σ { s with sto := sto } ∧ ∀ v o, Res T (hideE w) w' v o → Res T w (unhide w w') v o := by
  have hs : ∀ {a i π}, w.lab a = some (.slot i, π) → ∃ u, w.H a = some u ∧ w'.H a = some u ∧ w'.lab a = none ∧ w'.G a = none := fun {a i π} e => by
    cases z : w.H a with
    | none => exact absurd z (rs.lg a _ e).2
    | some u =>
      obtain ⟨h1, h2, h3⟩ := st.h a u z (cellsL_slot e)
      exact ⟨u, rfl, h1, h2, h3.trans (rs.lg a _ e).1⟩
  have dec : ∀ a, (∃ i π, w.lab a = some (.slot i, π)) ∨ ∀ i π, w.lab a ≠ some (.slot i, π) := fun a => by
    by_cases h : ∃ i π, w.lab a = some (.slot i, π)
    · exact .inl h
    · exact .inr fun i π e => h ⟨i, π, e⟩
  refine ⟨⟨st.g, st.f, fun a u hu hn => ?_, st.t⟩, ⟨⟨rs'.gh, fun a x e => ?_⟩, fun i o h => ?_, fun n o h => ?_, rs'.len, rs.el⟩, fun v o hr => ?_⟩
  · obtain ⟨h1, h2, h3⟩ := st.h a u hu (cellsL_none hn)
    refine ⟨h1, ?_, h3⟩
    rw [unhide_other (fun i π e => by rw [hn] at e; cases e)]
    exact h2
  · rcases dec a with ⟨i, π, q⟩ | q
    · obtain ⟨u, h0, h1, h2, h3⟩ := hs q
      exact ⟨h3, fun z => by rw [show w'.H a = none from z] at h1; cases h1⟩
    · rw [unhide_other q] at e
      exact rs'.lg a x e
  · obtain ⟨v, h1, h2⟩ := rs.env i o h
    refine ⟨v, h1, RepO.move ?_ h2⟩
    refine ⟨st.g, st.f, fun a π q => ⟨unhide_slot q, fun u hu => ?_⟩⟩
    obtain ⟨u', h0, h1, _⟩ := hs q
    rw [h0] at hu
    cases hu
    exact h1
  · obtain ⟨a, h1, h2⟩ := rs'.sto n o h
    refine ⟨a, h1, RepO.move ?_ h2⟩
    refine ⟨GLe.refl _, PLe.refl _, fun a π q => ⟨?_, fun _ z => z⟩⟩
    rw [unhide_other fun i π' e => ?_]
    · exact q
    · obtain ⟨u, h0, h1, h2, h3⟩ := hs e
      rw [h2] at q
      cases q
  · obtain ⟨l, a, r⟩ := hr
    refine ⟨l, fun p x e => ?_, r⟩
    obtain ⟨a1, a2, a3, a4, a5⟩ := a p x e
    have a5' : w.H p = none ∨ w.lab p ≠ none := by
      rcases a5 with z | z
      · exact .inl z
      · refine .inr fun q => z ?_
        exact cellsL_none q
    refine ⟨a1, ?_, a3, a4, a5'⟩
    rw [unhide_other fun i π q => ?_]
    · exact a2
    · rcases a5 with z | z
      · exact (rs.lg p _ q).2 z
      · exact z (cellsL_slot q)
/-- a def's promise: what the interpreter tells -/
def spF (T : Tb) (call : Nat → List Py.D → List Py.O → Option (Py.O × List Py.O)) (f n : Nat) : Sp := fun vs H Q _ => vs.length = n ∧ ∃ (w : Wd) (ds : List Py.D) (sto : List Py.O) (o : Py.O) (sto' : List Py.O), w.H = H ∧ RS T w [] ⟨[], sto⟩ ∧ Reps T w.G w.φ vs ds ∧
  call f ds sto = some (o, sto') ∧ ∀ v w', Stp w w' → RS T w' [] ⟨[], sto'⟩ → Res T w w' v o → Q v w'.H
/-- a class's promise: its __init__ -/
def spM (T : Tb) (make : Nat → List Py.D → List Py.O → Option (List (Nat × Py.D) × List Py.O)) (q n : Nat) : Sp := fun vs H Q _ => vs.length = n ∧ ∃ (w : Wd) (x : Addr) (us : List V) (ds : List Py.D) (sto : List Py.O) (l : List (Nat × Py.D)) (sto' : List Py.O), vs = .ref x :: us ∧ w.H = H ∧ RS T w [] ⟨[], sto⟩ ∧
  w.lab x = some (.slot 0, []) ∧ RepO T w (.slot 0) [] (.ref x) (.ins q []) ∧ (∀ a i π, w.lab a = some (.slot i, π) → a = x) ∧ Reps T w.G w.φ us ds ∧ make q ds sto = some (l, sto') ∧ ∀ w', Stp w w' → RS T w' [] ⟨[], sto'⟩ → Rep T w'.G w'.φ (.ref x) (.ins q l) → Q .non w'.H
/-- what is known of a def that is called -/
structure FnF (T : Tb) (c : Py.Cx) (X : Cx) (k : Nat) (f : Nat) (a : Addr) : Prop where
  ex : ∃ (fd : FuncData) (ps : List Str), FnOk X.prog X.w X.K X.mg X.base CX0 k a fd ps (spF T c.call f ps.length) ∧ Binds X.K fd ps [] ∧ ∀ ds sto r, c.call f ds sto = some r → ds.length = ps.length
  kp : PySem.W.keepIn X.K (.ref a) = true
section
variable {c : Py.Cx} {X : Cx}
theorem sim_call {e : Expr} {es : List Expr} {Es : List Py.E} {f k : Nat} {a : Addr} {x : Str} {p pos : Pos} (F : FnF T c X k f a) (hr : Room k X.A) (hg : Gl X x) (hm : X.mg x = some (.ref a)) (hd : (x == ("__debug__" : Str)) = false) (n : notStar e = true) (hns : (backTo pos (starEach es X.env)).any (·.1) = false)
    (hs : SimEs T c X (e :: es) Es) : SimE T c X (.Call (.Name x p) (e :: es) [] pos) (.call f Es) := by
  intro m w σ s o s' rs ev Q q
  simp only [Py.ev] at ev
  split at ev
  · rename_i ds s1 e1
    split at ev
    · rename_i r sto e2
      simp only [Option.some.injEq, Prod.mk.injEq] at ev
      obtain ⟨rfl, rfl⟩ := ev
      obtain ⟨fd, ps, G, b, ar⟩ := F.ex
      refine WE.of (pe_call (dvs := []) (ds := []) G hr hg hm F.kp b .nil pass0 pa_self hd (starEach_not n es X.env) hns) ?_
      refine hs w σ s ds s1 rs e1 _ fun vs w1 st1 rs1 q1 r1 => ?_
      have hl : vs.length = ps.length := r1.length.trans (ar _ _ _ e2)
      rw [List.append_nil]
      refine ⟨hl, hideE w1, ds, s1.sto, r, sto, rfl, rs1.hide, r1, e2, fun v w2 st2 rs2 r2 => ?_⟩
      obtain ⟨b1, b2, b3⟩ := rs1.back st2 rs2
      exact q v (unhide w1 w2) (st1.trans b1) b2 (fun qq => by simp only [Py.E.quiet] at qq; cases qq) (PO.of ((b3 v r r2).from st1))
    · cases ev
  · cases ev
/-! ### keywords -/
theorem evs_append : ∀ (A B : List Py.E) (s : Py.St), Py.evs c (A ++ B) s = match Py.evs c A s with
    | some (ds, s1) => match Py.evs c B s1 with
      | some (es, s2) => some (ds ++ es, s2)
      | none => none
    | none => none
  | [], B, s => by
    simp only [List.nil_append, Py.evs]
    cases Py.evs c B s with
    | none => rfl
    | some p => rfl
  | a :: A, B, s => by
    have ih := evs_append A B
    by_cases h : ∃ e, a = .star e
    · obtain ⟨e, rfl⟩ := h
      rw [List.cons_append, Py.evs, Py.evs]
      cases Py.ev c false e s with
      | none => rfl
      | some p =>
        obtain ⟨o, s1⟩ := p
        simp only
        cases Py.seqOf o.toD with
        | none => rfl
        | some l =>
          simp only
          rw [ih]
          cases Py.evs c A s1 with
          | none => rfl
          | some p2 =>
            obtain ⟨ds, s2⟩ := p2
            simp only
            cases Py.evs c B s2 with
            | none => rfl
            | some p3 => simp [List.append_assoc]
    · have hn : isStarE a = false := by
        cases a <;> first | rfl | exact absurd ⟨_, rfl⟩ h
      rw [List.cons_append, evs_cons hn, evs_cons hn]
      cases Py.ev c false a s with
      | none => rfl
      | some p =>
        obtain ⟨o, s1⟩ := p
        simp only
        rw [ih]
        cases Py.evs c A s1 with
        | none => rfl
        | some p2 =>
          obtain ⟨ds, s2⟩ := p2
          simp only
          cases Py.evs c B s2 with
          | none => rfl
          | some p3 => rfl
def WK (X : Cx) (kws : List Keyword) : TA := fun σ H Q => ∀ (pos : Pos) (pins : List (Addr × Obj)) (s : Shared), Inv X pins σ H s → wpAny (model X.prog X.w) X.A (evalAll ((backToKw pos (keywordEach kws X.env)).map (·.2))) (AP X pins σ Q) X.xe s
theorem pk_self {kws : List Keyword} : PK X kws (WK X kws) := ⟨fun pos pins s σ H Q I h => h pos pins s I⟩
theorem WK.of {kws : List Keyword} {t : TA} (p : PK X kws t) {σ : L2.St} {H : Hp} {Q : List V → Hp → Prop} (h : t σ H Q) : WK X kws σ H Q := fun pos pins s I => p.run pos pins s σ H Q I h
def SimKs (T : Tb) (c : Py.Cx) (X : Cx) (kws : List Keyword) (Es : List Py.E) : Prop :=
  ∀ (w : Wd) (σ : L2.St) (s : Py.St) (ds : List Py.D) (s' : Py.St), RS T w σ s → Py.evs c Es s = some (ds, s') →
    ∀ Q : List V → Hp → Prop, (∀ vs w', Stp w w' → RS T w' σ s' → Reps T w'.G w'.φ vs ds → Q vs w'.H) → WK X kws σ w.H Q
theorem simk_nil : SimKs T c X [] [] := by
  intro w σ s ds s' rs e Q q
  simp only [Py.evs, Option.some.injEq, Prod.mk.injEq] at e
  obtain ⟨rfl, rfl⟩ := e
  exact WK.of pk_nil (q [] w (Stp.refl _) rs .nil)
theorem simk_cons {e : Expr} {nm : Option Str} {kpos : Pos} {kws : List Keyword} {E : Py.E} {Es : List Py.E} (n' : isStarE E = false) (h : SimE T c X e E) (hs : SimKs T c X kws Es) : SimKs T c X (⟨nm, e, kpos⟩ :: kws) (E :: Es) := by
  intro w σ s ds s' rs ev Q q
  rw [evs_cons n'] at ev
  cases e1 : Py.ev c false E s with
  | none => rw [e1] at ev; cases ev
  | some p =>
    obtain ⟨o, s1⟩ := p
    rw [e1] at ev
    simp only at ev
    cases e2 : Py.evs c Es s1 with
    | none => rw [e2] at ev; cases ev
    | some p2 =>
      obtain ⟨ds2, s2⟩ := p2
      rw [e2] at ev
      simp only [Option.some.injEq, Prod.mk.injEq] at ev
      obtain ⟨rfl, rfl⟩ := ev
      refine WK.of (pk_cons pe_self pk_self) ?_
      refine h false w σ s o s1 rs e1 _ fun v w1 st1 rs1 q1 p1 => ?_
      obtain ⟨w2, h2, st2, rs2, r2, f2, g2, l2⟩ := p1.res.toD st1 rs1
      rw [← h2]
      refine hs w2 σ s1 ds2 s2 rs2 e2 _ fun vs w3 st3 rs3 r3 => ?_
      exact q (v :: vs) w3 (st2.trans st3) rs3 (.cons (r2.mono st3.g st3.f) r3)
/-- the arguments put in the parameters' order -/
def pick {α : Type} (pm : List Nat) (d : α) (xs : List α) : List α := pm.map fun j => xs.getD j d
theorem reps_getD {G : Hp} {φ : List Addr} {vs : List V} {ds : List Py.D} (h : Reps T G φ vs ds) {j : Nat} {d : Py.D} (e : ds[j]? = some d) : Rep T G φ (vs.getD j .non) d := by
  obtain ⟨v, h1, h2⟩ := h.get e
  rw [List.getD_eq_getElem?_getD, h1]
  exact h2
theorem reps_pick {G : Hp} {φ : List Addr} {vs : List V} {ds : List Py.D} (h : Reps T G φ vs ds) : ∀ {pm : List Nat} {as : List Py.D}, pm.mapM (ds[·]?) = some as → Reps T G φ (pick pm .non vs) as
  | [], as, e => by
    cases e
    exact .nil
  | j :: pm, as, e => by
    rw [List.mapM_cons] at e
    cases e1 : ds[j]? with
    | none => rw [e1] at e; cases e
    | some d =>
      rw [e1] at e
      cases e2 : pm.mapM (ds[·]?) with
      | none =>
        simp only [Option.bind_eq_bind, Option.bind_some] at e
        rw [e2] at e
        cases e
      | some r =>
        simp only [Option.bind_eq_bind, Option.bind_some] at e
        rw [e2] at e
        cases e
        exact .cons (reps_getD h e1) (reps_pick h e2)
/-- how a call with keywords binds: n positional values, keywords named ks; pm the parameters' places -/
def KwF (K : PySem.W.Frag) (fd : FuncData) (ps : List Str) (n : Nat) (ks : List Str) (pm : List Nat) : Prop :=
  ∀ (s : Shared) (us ws : List Value), us.length = n → ws.length = ks.length → BindsTo s fd ⟨us, ks.zip ws⟩ (ps.zip (pick pm Value.none (us ++ ws)))
structure FnK (T : Tb) (c : Py.Cx) (X : Cx) (k : Nat) (f : Nat) (a : Addr) (n : Nat) (ks : List Str) (pm : List Nat) : Prop where
  ex : ∃ (fd : FuncData) (ps : List Str), FnOk X.prog X.w X.K X.mg X.base CX0 k a fd ps (spF T c.call f ps.length) ∧ KwF X.K fd ps n ks pm ∧ pm.length = ps.length
  kp : PySem.W.keepIn X.K (.ref a) = true
theorem vals_getD : ∀ {xs : List V} {us : List Value} (j : Nat), Vals xs us → RelV (xs.getD j .non) (us.getD j .none)
  | _, _, _, .nil => by simp; rfl
  | _, _, 0, .cons r _ => by simpa using r
  | _, _, j + 1, .cons _ t => by
    have := vals_getD j t
    simpa using this
theorem vals_pick {xs : List V} {us : List Value} (r : Vals xs us) : ∀ pm : List Nat, Vals (pick pm .non xs) (pick pm .none us)
  | [] => .nil
  | j :: pm => .cons (vals_getD j r) (vals_pick r pm)
theorem kbn_of {K : PySem.W.Frag} {fd : FuncData} {ps : List Str} {n : Nat} {ks : List Str} {pm : List Nat} (h : KwF K fd ps n ks pm) : KBn K fd ps n ks (fun us ws => pick pm Value.none (us ++ ws)) (fun vs zs => pick pm V.non (vs ++ zs)) :=
  ⟨fun s us ws _ l1 l2 => h s us ws l1 l2, fun r1 r2 => vals_pick (r1.append r2) pm⟩
theorem pe_callN0 {CX : CXT} {k : Nat} {f : Addr} {fd : FuncData} {ps ks : List Str} {sp : Sp} {E : XK} {x : Str} {p pos : Pos} {kws : List Keyword} {tk : TA} {g : List Value → List Value → List Value} {gV : List V → List V → List V}
    (F : FnOk X.prog X.w X.K X.mg X.base CX k f fd ps sp) (hr : Room k X.A) (hg : Gl X x) (hm : X.mg x = some (.ref f)) (hk : PySem.W.keepIn X.K (.ref f) = true) (hb : KBn X.K fd ps 0 ks g gV) (hx : Passes CX X E)
    (hkw : PK X kws tk) (hall : (backToKw pos (keywordEach kws X.env)).all (·.1.isSome) = true) (hks : (backToKw pos (keywordEach kws X.env)).filterMap (·.1) = ks)
    (hdb : (x == ("__debug__" : Str)) = false)
    (hpl : ((backTo pos (starEach [] X.env)).any (·.1) || (backToKw pos (keywordEach kws X.env)).any (·.1.isNone)) = false) :
    PE X (.Call (.Name x p) [] kws pos) (fun σ H Q => tk σ H fun zs H2 => zs.length = ks.length ∧ sp (gV [] zs) H2 Q E) := by
  refine ⟨fun pins s σ H Q I h => ?_⟩
  refine wpAny_Call_Name_kw (ld_glob I hg hm ?_ hdb)
  refine PySem.W.callWith_KW0 (h₀ := X.base) I.ok.mod.kin hk hall ?_ hpl
  refine thn (hkw.run pos pins s σ H _ I h) fun ws s2 ⟨zs, H2, I2, rz, l2, q2⟩ => ⟨I2.kIn, ?_⟩
  rw [hks]
  exact run_fnN (us := []) (vs := []) F hr hb hx I2 .nil rz rfl l2 q2
theorem reps_len {G : Hp} {φ : List Addr} {vs : List V} {ds : List Py.D} (h : Reps T G φ vs ds) : vs.length = ds.length := h.length
theorem evs_len : ∀ {Es : List Py.E} {s : Py.St} {ds : List Py.D} {s' : Py.St}, (Es.all fun E => !isStarE E) = true → Py.evs c Es s = some (ds, s') → ds.length = Es.length
  | [], s, ds, s', _, e => by
    simp only [Py.evs, Option.some.injEq, Prod.mk.injEq] at e
    rw [← e.1]
    rfl
  | E :: Es, s, ds, s', h, e => by
    rw [List.all_cons, Bool.and_eq_true] at h
    rw [evs_cons (by simpa using h.1)] at e
    split at e
    · split at e
      · rename_i o s1 e1 ds2 s2 e2
        simp only [Option.some.injEq, Prod.mk.injEq] at e
        rw [← e.1, List.length_cons, List.length_cons, evs_len h.2 e2]
      · cases e
    · cases e
/-- f(e, .., k = v, ..) -/
theorem sim_calk {e : Expr} {es : List Expr} {kws : List Keyword} {Es Ks : List Py.E} {f k : Nat} {a : Addr} {x : Str} {p pos : Pos} {ks : List Str} {pm : List Nat} (F : FnK T c X k f a (e :: es).length ks pm) (hr : Room k X.A) (hg : Gl X x) (hm : X.mg x = some (.ref a)) (hd : (x == ("__debug__" : Str)) = false) (n : notStar e = true)
    (hall : (backToKw pos (keywordEach kws X.env)).all (·.1.isSome) = true) (hks : (backToKw pos (keywordEach kws X.env)).filterMap (·.1) = ks)
    (hpl : ((backTo pos (starEach (e :: es) X.env)).any (·.1) || (backToKw pos (keywordEach kws X.env)).any (·.1.isNone)) = false) (hl : Es.length = (e :: es).length) (hl2 : Ks.length = ks.length) (hst : (Es.all fun E => !isStarE E) = true) (hst2 : (Ks.all fun E => !isStarE E) = true)
    (hs : SimEs T c X (e :: es) Es) (hk : SimKs T c X kws Ks) : SimE T c X (.Call (.Name x p) (e :: es) kws pos) (.calk f pm (Es ++ Ks)) := by
  intro m w σ s o s' rs ev Q q
  simp only [Py.ev] at ev
  rw [evs_append] at ev
  cases e1 : Py.evs c Es s with
  | none => rw [e1] at ev; cases ev
  | some pp =>
    obtain ⟨ds, s1⟩ := pp
    rw [e1] at ev
    simp only at ev
    cases e2 : Py.evs c Ks s1 with
    | none => rw [e2] at ev; cases ev
    | some pp2 =>
      obtain ⟨ds2, s2⟩ := pp2
      rw [e2] at ev
      simp only at ev
      split at ev
      · rename_i as e3
        split at ev
        · rename_i r sto e4
          simp only [Option.some.injEq, Prod.mk.injEq] at ev
          obtain ⟨rfl, rfl⟩ := ev
          obtain ⟨fd, ps, G, b, lp⟩ := F.ex
          refine WE.of (pe_callN G hr hg hm F.kp (kbn_of b) pass0 pa_self pk_self hall hks hd (starEach_not n es X.env) hpl) ?_
          refine hs w σ s ds s1 rs e1 _ fun vs w1 st1 rs1 q1 r1 => ?_
          refine hk w1 σ s1 ds2 s2 rs1 e2 _ fun zs w2 st2 rs2 r2 => ?_
          have r1' := r1.mono st2.g st2.f
          refine ⟨by rw [r1.length, evs_len hst e1, hl], by rw [r2.length, evs_len hst2 e2, hl2], by rw [← lp]; unfold pick; rw [List.length_map], hideE w2, as, s2.sto, r, sto, rfl, rs2.hide, reps_pick (r1'.append r2) e3, e4, fun v w3 st3 rs3 r3 => ?_⟩
          obtain ⟨b1, b2, b3⟩ := rs2.back st3 rs3
          exact q v (unhide w2 w3) ((st1.trans st2).trans b1) b2 (fun qq => by simp only [Py.E.quiet] at qq; cases qq) (PO.of ((b3 v r r3).from (st1.trans st2)))
        · cases ev
      · cases ev
theorem sim_calk0 {kws : List Keyword} {Ks : List Py.E} {f k : Nat} {a : Addr} {x : Str} {p pos : Pos} {ks : List Str} {pm : List Nat} (F : FnK T c X k f a 0 ks pm) (hr : Room k X.A) (hg : Gl X x) (hm : X.mg x = some (.ref a)) (hd : (x == ("__debug__" : Str)) = false)
    (hall : (backToKw pos (keywordEach kws X.env)).all (·.1.isSome) = true) (hks : (backToKw pos (keywordEach kws X.env)).filterMap (·.1) = ks)
    (hpl : ((backTo pos (starEach [] X.env)).any (·.1) || (backToKw pos (keywordEach kws X.env)).any (·.1.isNone)) = false) (hl2 : Ks.length = ks.length) (hst2 : (Ks.all fun E => !isStarE E) = true)
    (hk : SimKs T c X kws Ks) : SimE T c X (.Call (.Name x p) [] kws pos) (.calk f pm Ks) := by
  intro m w σ s o s' rs ev Q q
  simp only [Py.ev] at ev
  split at ev
  · rename_i ds s1 e1
    split at ev
    · rename_i as e3
      split at ev
      · rename_i r sto e4
        simp only [Option.some.injEq, Prod.mk.injEq] at ev
        obtain ⟨rfl, rfl⟩ := ev
        obtain ⟨fd, ps, G, b, lp⟩ := F.ex
        refine WE.of (pe_callN0 G hr hg hm F.kp (kbn_of b) pass0 pk_self hall hks hd hpl) ?_
        refine hk w σ s ds s1 rs e1 _ fun zs w2 st2 rs2 r2 => ?_
        refine ⟨by rw [r2.length, evs_len hst2 e1, hl2], by rw [← lp]; unfold pick; rw [List.length_map], hideE w2, as, s1.sto, r, sto, rfl, rs2.hide, reps_pick r2 e3, e4, fun v w3 st3 rs3 r3 => ?_⟩
        obtain ⟨b1, b2, b3⟩ := rs2.back st3 rs3
        exact q v (unhide w2 w3) (st2.trans b1) b2 (fun qq => by simp only [Py.E.quiet] at qq; cases qq) (PO.of ((b3 v r r3).from st2))
      · cases ev
    · cases ev
  · cases ev
/-! ### a new instance -/
structure MkF (T : Tb) (c : Py.Cx) (X : Cx) (k : Nat) (q : Nat) (C : Addr) : Prop where
  ex : ∃ (f : Addr) (fd : FuncData) (ps : List Str), Mk X.K C f ∧ FnOk X.prog X.w X.K X.mg X.base CX0 k f fd ps (spM T c.make q ps.length) ∧ Binds X.K fd ps [] ∧ ∀ ds sto r, c.make q ds sto = some r → ds.length + 1 = ps.length
  cls : T.cls q = some C
theorem sim_mk {e : Expr} {es : List Expr} {Es : List Py.E} {qc k : Nat} {C : Addr} {x : Str} {p pos : Pos} (F : MkF T c X k qc C) (hr : Room (k + 1) X.A) (hg : Gl X x) (hm : X.mg x = some (.ref C)) (hd : (x == ("__debug__" : Str)) = false) (n : notStar e = true) (hns : (backTo pos (starEach es X.env)).any (·.1) = false)
    (hs : SimEs T c X (e :: es) Es) : SimE T c X (.Call (.Name x p) (e :: es) [] pos) (.mk qc Es) := by
  intro m w σ s o s' rs ev Q q
  simp only [Py.ev] at ev
  split at ev
  · rename_i ds s1 e1
    split at ev
    · rename_i l sto e2
      simp only [Option.some.injEq, Prod.mk.injEq] at ev
      obtain ⟨rfl, rfl⟩ := ev
      obtain ⟨f, fd, ps, M, G, b, ar⟩ := F.ex
      refine WE.of (pe_make (dvs := []) (ds := []) M G hr hg hm b .nil pass0 pa_self hd (starEach_not n es X.env) hns) ?_
      refine hs w σ s ds s1 rs e1 _ fun vs w1 st1 rs1 q1 r1 => ?_
      intro y dx hy hdx hne
      rw [List.append_nil]
      have hH : GLe w1.H (upd (upd w1.H dx (.own y)) y (.ins C dx [])) := fun a u h => by
        rw [upd_ne (ne_of_none h hy), upd_ne (ne_of_none h hdx)]
        exact h
      have hcy : cellsL w1.lab y = none := by
        cases z : cellsL w1.lab y with
        | none => rfl
        | some r => exact absurd hy (rs1.lg y r (cellsL_some z).1).2
      have hGy : w1.G y = none := by
        cases z : w1.G y with
        | none => rfl
        | some u => rw [rs1.gh y u z] at hy; cases hy
      let w2 : Wd := { w1 with H := upd (upd w1.H dx (.own y)) y (.ins C dx []), lab := fun a => if a = y then some (.slot 0, []) else cellsL w1.lab a }
      have l1 : w2.lab y = some (.slot 0, []) := if_pos rfl
      have l2 : ∀ {a}, a ≠ y → w2.lab a = cellsL w1.lab a := fun {a} h => if_neg h
      have rs2 : RS T w2 [] ⟨[], s1.sto⟩ := by
        refine ⟨⟨fun a u h => hH a u (rs1.gh a u h), fun a r h => ?_⟩, fun i u h => by simp at h, fun j u h => ?_, rs1.len, rfl⟩
        · by_cases ha : a = y
          · subst ha
            exact ⟨hGy, by show upd (upd w1.H dx (.own a)) a (.ins C dx []) a ≠ none; rw [upd_same]; exact fun z => nomatch z⟩
          · rw [l2 ha] at h
            obtain ⟨z1, z2⟩ := rs1.lg a r (cellsL_some h).1
            exact ⟨z1, gle_ne hH z2⟩
        · obtain ⟨a, h1, h2⟩ := rs1.sto j u h
          refine ⟨a, h1, RepO.move ?_ h2⟩
          refine ⟨GLe.refl _, PLe.refl _, fun b π z => ⟨?_, fun o h => hH b o h⟩⟩
          rw [l2 fun z2 => ?_]
          · exact cellsL_cell z
          · subst z2
            exact (rs1.lg b _ z).2 hy
      have st2 : Stp (hideE w1) w2 := by
        refine ⟨GLe.refl _, PLe.refl _, fun a u h hn => ⟨hH a u h, ?_, rfl⟩, fun a h => gle_ne hH h⟩
        rw [l2 (ne_of_none h hy)]
        exact hn
      refine ⟨?_, w2, y, vs, ds, s1.sto, l, sto, rfl, rfl, rs2, l1, .ins l1 F.cls upd_same .nil, fun a i π h => ?_, r1, e2, fun w3 st3 rs3 r3 => ⟨rfl, ?_⟩⟩
      · rw [List.length_cons, r1.length]
        exact ar _ _ _ e2
      · by_cases ha : a = y
        · exact ha
        · rw [l2 ha] at h
          obtain ⟨_, n, hn⟩ := cellsL_some h
          cases hn
      · obtain ⟨b1, b2, b3⟩ := rs1.back (st2.trans st3) rs3
        exact q (.ref y) (unhide w1 w3) (st1.trans b1) b2 (fun qq => by simp only [Py.E.quiet] at qq; cases qq) (PO.of (Res.d r3))
    · cases ev
  · cases ev
end
end PyS
end

section
set_option Elab.async false
set_option linter.all false
set_option maxRecDepth 100000
set_option maxHeartbeats 2000000
/-! Z1: zip of two lists or tuples, to any target. -/
namespace PyS
open PySem PySem.Spec PyProof.Rows L2
abbrev IsZg (h : Heap) (zw TIw TOw : Addr) (f0 : Value) (f1 : Bool) : Prop :=
  h.get? zw = some { cls := .type "zip", dict := none, data := .fields #[f0, .bool f1, .bool false, .ref TIw, .ref TOw], slots := #[] }
section
variable {prog : Program} {w : World} {A : Around} {E : Value → Shared → Prop} {s : Shared} {zw TIw TOw i1w i2w : Addr} {fp1 fp2 : List Addr} {n1w n2w i : Nat} {P1 P2 : Nat → Value → Prop} {St1 St2 : Nat → Heap → Prop} {a1w a2w : Value} {f0 : Value} {f1 : Bool}
/-- nothing out, or the pair at T -/
def Outs (f0 : Value) : Prop := f0 = .none ∨ ∃ T : Addr, f0 = rawInt (T : Int)
theorem own_zip {Qw : Bool → Shared → Prop} (hfw : Outs f0) (hzw : IsZg s.heap zw TIw TOw f0 f1) (h1 : Qw true s) (h2 : ∀ hw', IsZg hw' zw TIw TOw f0 true → Heap.SameBut zw s.heap hw' → Qw false { s with heap := hw' }) :
    wpAny (model prog w) A (Builtin.SmallTypes.ownedTupleIsFree (.ref zw)) Qw E s := by
  unfold Builtin.SmallTypes.ownedTupleIsFree
  rcases hfw with ew | ⟨T, ew⟩
  · subst ew
    exact wpAny_bind (wpAny_field hzw rfl (x := .none) rfl (wpAny_pure h1))
  · subst ew
    refine wpAny_bind (wpAny_field hzw rfl (x := rawInt (T : Int)) rfl ?_)
    show wpAny _ _ (loadIfAlive ((T : Int).toNat) >>= _) _ _ _
    rw [Int.toNat_natCast]
    have alive : ∀ {Qw : Option Obj → Shared → Prop}, Qw (s.heap.get? T) s → wpAny (model prog w) A (loadIfAlive T) Qw E s := fun {Qw} h _ _ _ => h
    refine wpAny_bind (alive ?_)
    cases hTw : s.heap.get? T with
    | none =>
      simp only [Option.isNone_none, if_true]
      exact wpAny_pure h1
    | some oT =>
      simp only [Option.isNone_some, Bool.false_eq_true, if_false]
      refine wpAny_bind (wpAny_field hzw rfl (x := .bool f1) rfl ?_)
      cases f1 with
      | true =>
        rw [if_neg (show ¬ ((Value.bool true != Value.bool true) = true) from Bool.false_ne_true)]
        exact wpAny_pure (h2 s.heap hzw (Heap.SameBut.refl _ _))
      | false =>
        rw [if_pos (show (Value.bool false != Value.bool true) = true from rfl)]
        exact wpAny_bind (wpAny_setField_rec hzw (by simp) fun h₁ hz₁ hs₁ => wpAny_pure (h2 h₁ hz₁ hs₁))
theorem zg_item {Qw : Value → Shared → Prop} (hfw : Outs f0) (Sw : ZipSep2 zw TIw TOw i1w i2w fp1 fp2) (D1w : Draws prog w A i1w fp1 n1w P1 St1) (D2w : Draws prog w A i2w fp2 n2w P2 St2)
    (hzw : IsZg s.heap zw TIw TOw f0 f1) (hTIw : IsTupOf2 s.heap TIw (.ref i1w) (.ref i2w)) (hTOw : IsTupOf2 s.heap TOw a1w a2w) (st1w : St1 i s.heap) (st2w : St2 i s.heap) (hlt1 : i < n1w) (hlt2 : i < n2w)
    (hQ : ∀ x1w x2w hw' tkw g0w g1w b1 b2, P1 i x1w → P2 i x2w → Outs g0w → IsZg hw' zw TIw TOw g0w g1w → IsTupOf2 hw' TOw b1 b2 → St1 (i + 1) hw' → St2 (i + 1) hw' → IsTupOf2 hw' s.heap.objs.size x1w x2w → hw'.objs.size = s.heap.objs.size + 1 →
      (∀ c o, c ≠ zw → c ≠ TOw → c ≠ i1w → c ≠ i2w → s.heap.get? c = some o → hw'.get? c = some o) → Qw (.ref s.heap.objs.size) { s with heap := hw', toks := tkw }) :
    wpAny (model prog w) A (Builtin.«zip.__next__» ⟨[.ref zw], []⟩) (fun fin s' => ∃ v, fin = .done (.ret v) ∧ Qw v s') E s := by
  obtain ⟨hpw, gw, dw, tk0w, osw⟩ := s
  show wpAny _ _ (field (.ref zw) 2 >>= _) _ _ _
  refine wpAny_bind (wpAny_field hzw rfl (x := .bool false) rfl ?_)
  show wpAny _ _ (field (.ref zw) 3 >>= _) _ _ _
  refine wpAny_bind (wpAny_field hzw rfl (x := .ref TIw) rfl ?_)
  refine wpAny_bind (wpAny_seqItems hTIw rfl ?_)
  show wpAny _ _ (Builtin.SmallTypes.ownedTupleIsFree (.ref zw) >>= _) _ _ _
  refine wpAny_bind (own_zip hfw hzw ?_ fun h₁ hz₁ hs₁ => ?_)
  · simp only [if_true]
    refine wpAny_bind (wpAny_rule ?_)
    refine wpAny_bind (wpAny_field hzw rfl (x := .ref TOw) rfl ?_)
    refine wpAny_bind (wpAny_setField_rec hzw (by simp) fun g0w hz0w hs0w => ?_)
    replace hz0w : IsZg g0w zw TIw TOw .ellipsis f1 := hz0w
    replace hs0w : Heap.SameBut zw hpw g0w := hs0w
    refine wpAny_bind ?_
    simp only [List.zipIdx_cons, List.zipIdx_nil, List.forIn_cons, List.forIn_nil]
    refine wpAny_bind (wpAny_bind (wpAny_onRaise ?_))
    show wpAny _ _ (Builtin.SmallTypes.nextOf (.ref i1w) >>= _) _ _ ⟨g0w, gw, dw, tk0w, osw⟩
    refine wpAny_bind (D1w.item i _ _ _ hlt1 (D1w.over st1w hs0w Sw.zf1) fun x1w p1w tk1w hx1 sn1w hp1w => wpAny_pure ?_)
    replace hp1w : Heap.SameBut i1w g0w p1w := hp1w
    have hU1w : IsTupOf2 p1w TOw a1w a2w := hp1w.extBut _ _ Sw.Ti1 (hs0w.extBut _ _ Sw.TOz hTOw)
    refine wpAny_bind (wpAny_seqItems (s := ⟨p1w, gw, dw, tk1w, osw⟩) hU1w rfl ?_)
    refine wpAny_bind (updateSeq_IsTupOf2 (s := ⟨p1w, gw, dw, tk1w, osw⟩) hU1w fun g1w hT1w hs1w => ?_)
    replace hT1w : IsTupOf2 g1w TOw x1w a2w := hT1w
    replace hs1w : Heap.SameBut TOw p1w g1w := hs1w
    refine wpAny_bind (wpAny_letGo (wpAny_pure ?_))
    refine wpAny_bind (wpAny_bind (wpAny_onRaise ?_))
    show wpAny _ _ (Builtin.SmallTypes.nextOf (.ref i2w) >>= _) _ _ ⟨g1w, gw, dw, tk1w, osw⟩
    refine wpAny_bind (D2w.item i _ _ _ hlt2 (D2w.over (D2w.over (D2w.over st2w hs0w Sw.zf2) hp1w Sw.sep1_2) hs1w Sw.Tf2) fun x2w p2w tk2w hx2 sn2w hp2w => wpAny_pure ?_)
    replace hp2w : Heap.SameBut i2w g1w p2w := hp2w
    have hU2w : IsTupOf2 p2w TOw x1w a2w := hp2w.extBut _ _ Sw.Ti2 hT1w
    refine wpAny_bind (wpAny_seqItems (s := ⟨p2w, gw, dw, tk2w, osw⟩) hU2w rfl ?_)
    refine wpAny_bind (updateSeq_IsTupOf2 (s := ⟨p2w, gw, dw, tk2w, osw⟩) hU2w fun g2w hT2w hs2w => ?_)
    replace hT2w : IsTupOf2 g2w TOw x1w x2w := hT2w
    replace hs2w : Heap.SameBut TOw p2w g2w := hs2w
    refine wpAny_bind (wpAny_letGo (wpAny_pure (wpAny_pure ?_)))
    refine wpAny_bind (wpAny_seqItems (s := ⟨g2w, gw, dw, tk2w, osw⟩) hT2w rfl ?_)
    refine wpAny_bind (wpAny_newTuple ?_)
    have hszw : g2w.objs.size = hpw.objs.size := by rw [hs2w.1, hp2w.1, hs1w.1, hp1w.1, hs0w.1]
    have hzzw : IsZg g2w zw TIw TOw .ellipsis f1 := (hs2w.extBut _ _ Sw.TOz.symm (hp2w.extBut _ _ Sw.zi2 (hs1w.extBut _ _ Sw.TOz.symm (hp1w.extBut _ _ Sw.zi1 hz0w))))
    have hkkw : ∀ c o, c ≠ zw → c ≠ TOw → c ≠ i1w → c ≠ i2w → hpw.get? c = some o → g2w.get? c = some o := fun c o cz cT c1 c2 ew =>
      (hs2w.extBut _ _ cT (hp2w.extBut _ _ c2 (hs1w.extBut _ _ cT (hp1w.extBut _ _ c1 (hs0w.extBut _ _ cz ew)))))
    have hj1w : St1 (i + 1) g2w := (D1w.over (D1w.over (D1w.over sn1w hs1w Sw.Tf1) hp2w Sw.sep2_1) hs2w Sw.Tf1)
    have hj2w : St2 (i + 1) g2w := (D2w.over sn2w hs2w Sw.Tf2)
    have hzltw : zw < g2w.objs.size := Heap.lt_size hzzw
    show wpAny _ _ (Builtin.SmallTypes.ownedTupleHandOut (.ref zw) (.ref g2w.objs.size) >>= _) _ _ ⟨g2w.push { cls := .type "tuple", data := .seq #[x1w, x2w] }, gw, dw, tk2w, osw⟩
    refine wpAny_bind ?_
    unfold Builtin.SmallTypes.ownedTupleHandOut
    have hz₆ : IsZg (g2w.push { cls := .type "tuple", data := .seq #[x1w, x2w] }) zw TIw TOw .ellipsis f1 := Heap.get?_push_of_some _ hzzw
    refine wpAny_bind (wpAny_setField_rec hz₆ (by simp) fun h₇ hz₇ hs₇ => ?_)
    replace hz₇ : IsZg h₇ zw TIw TOw (rawInt g2w.objs.size) f1 := hz₇
    refine wpAny_setField_rec hz₇ (by simp) fun h₈ hz₈ hs₈ => ?_
    replace hz₈ : IsZg h₈ zw TIw TOw (rawInt g2w.objs.size) false := hz₈
    replace hs₇ : Heap.SameBut zw (g2w.push { cls := .type "tuple", data := .seq #[x1w, x2w] }) h₇ := hs₇
    replace hs₈ : Heap.SameBut zw h₇ h₈ := hs₈
    have upw : ∀ c o, c ≠ zw → g2w.get? c = some o → h₈.get? c = some o := fun c o c1 ew => hs₈.extBut _ _ c1 (hs₇.extBut _ _ c1 (Heap.get?_push_of_some _ ew))
    have hT₈ : IsTupOf2 h₈ g2w.objs.size x1w x2w := hs₈.extBut _ _ (Nat.ne_of_gt hzltw) (hs₇.extBut _ _ (Nat.ne_of_gt hzltw) (Heap.get?_push_size _ rfl))
    have hz8 : h₈.objs.size = g2w.objs.size + 1 := by rw [hs₈.1, hs₇.1, Heap.size_push]
    rw [hszw] at hz₈ hT₈ hz8
    refine wpAny_pure ⟨_, rfl, ?_⟩
    show Qw (.ref g2w.objs.size) ⟨h₈, gw, dw, tk2w, osw⟩
    rw [hszw]
    exact hQ x1w x2w h₈ tk2w _ _ _ _ hx1 hx2 (.inr ⟨_, rfl⟩) hz₈ (upw _ _ Sw.TOz hT2w) (D1w.frame _ _ _ hj1w fun b hbw o ew => upw b o (fun qw => Sw.zf1 (qw ▸ hbw)) ew) (D2w.frame _ _ _ hj2w fun b hbw o ew => upw b o (fun qw => Sw.zf2 (qw ▸ hbw)) ew) hT₈ hz8 fun c o cz cT c1 c2 ew => upw c o cz (hkkw c o cz cT c1 c2 ew)
  · simp only [Bool.false_eq_true, if_false]
    replace hs₁ : Heap.SameBut zw hpw h₁ := hs₁
    refine wpAny_bind ?_
    rw [← Array.forIn_toList]
    simp only [List.forIn_cons, List.forIn_nil]
    refine wpAny_bind (wpAny_bind (wpAny_holding ?_))
    show wpAny _ _ (Builtin.SmallTypes.nextOf (.ref i1w) >>= _) _ _ ⟨h₁, gw, dw, tk0w, osw⟩
    refine wpAny_bind (D1w.item i ⟨h₁, gw, dw, tk0w, osw⟩ _ _ hlt1 (D1w.over st1w hs₁ Sw.zf1) fun x1w p1w tk1w hx1 sn1w hp1w => wpAny_pure ?_)
    replace hp1w : Heap.SameBut i1w h₁ p1w := hp1w
    refine wpAny_pure ?_
    refine wpAny_bind (wpAny_bind (wpAny_holding ?_))
    show wpAny _ _ (Builtin.SmallTypes.nextOf (.ref i2w) >>= _) _ _ ⟨p1w, gw, dw, tk1w, osw⟩
    refine wpAny_bind (D2w.item i ⟨p1w, gw, dw, tk1w, osw⟩ _ _ hlt2 (D2w.over (D2w.over st2w hs₁ Sw.zf2) hp1w Sw.sep1_2) fun x2w p2w tk2w hx2 sn2w hp2w => wpAny_pure ?_)
    replace hp2w : Heap.SameBut i2w p1w p2w := hp2w
    refine wpAny_pure (wpAny_pure ?_)
    show wpAny _ _ (newTuple [x1w, x2w] >>= _) _ _ _
    refine wpAny_bind (wpAny_newTuple ?_)
    have hszw : p2w.objs.size = hpw.objs.size := by rw [hp2w.1, hp1w.1, hs₁.1]
    have hz₃ : IsZg p2w zw TIw TOw f0 true := hp2w.extBut _ _ Sw.zi2 (hp1w.extBut _ _ Sw.zi1 hz₁)
    have hkkw : ∀ c o, c ≠ zw → c ≠ i1w → c ≠ i2w → hpw.get? c = some o → p2w.get? c = some o := fun c o c1 c2 c3 ew => hp2w.extBut _ _ c3 (hp1w.extBut _ _ c2 (hs₁.extBut _ _ c1 ew))
    have hTO3 : IsTupOf2 p2w TOw a1w a2w := hkkw _ _ Sw.TOz Sw.Ti1 Sw.Ti2 hTOw
    have hj1w : St1 (i + 1) p2w := D1w.over sn1w hp2w Sw.sep2_1
    refine wpAny_pure ⟨_, rfl, ?_⟩
    show Qw (.ref p2w.objs.size) ⟨p2w.push { cls := .type "tuple", data := .seq #[x1w, x2w] }, gw, dw, tk2w, osw⟩
    have hpr : IsTupOf2 (p2w.push { cls := .type "tuple", data := .seq #[x1w, x2w] }) p2w.objs.size x1w x2w := Heap.get?_push_size _ rfl
    have hz4 : (p2w.push { cls := .type "tuple", data := .seq #[x1w, x2w] }).objs.size = p2w.objs.size + 1 := Heap.size_push ..
    rw [hszw] at hpr hz4 ⊢
    exact hQ x1w x2w _ tk2w _ _ _ _ hx1 hx2 hfw (Heap.get?_push_of_some _ hz₃) (Heap.get?_push_of_some _ hTO3) (D1w.frame _ _ _ hj1w fun b hbw o ew => Heap.get?_push_of_some _ ew) (D2w.frame _ _ _ sn2w fun b hbw o ew => Heap.get?_push_of_some _ ew) hpr hz4 fun c o cz cT c1 c2 ew => Heap.get?_push_of_some _ (hkkw c o cz c1 c2 ew)
theorem zg_end {Qw : Fin → Shared → Prop} (hfw : Outs f0) (Sw : ZipSep2 zw TIw TOw i1w i2w fp1 fp2) (D1w : Draws prog w A i1w fp1 n1w P1 St1) (D2w : Draws prog w A i2w fp2 n2w P2 St2)
    (hzw : IsZg s.heap zw TIw TOw f0 f1) (hTIw : IsTupOf2 s.heap TIw (.ref i1w) (.ref i2w)) (hTOw : IsTupOf2 s.heap TOw a1w a2w) (st1w : St1 i s.heap) (st2w : St2 i s.heap) (hle1 : i ≤ n1w) (hle2 : i ≤ n2w) (hend : i = n1w ∨ i = n2w)
    (hE : ∀ hw' tkw ew, (∀ c o, c ≠ zw → c ≠ TOw → c ≠ i1w → c ≠ i2w → s.heap.get? c = some o → hw'.get? c = some o) → (∃ o, hw'.get? ew = some o ∧ o.cls = .type "StopIteration") → E (.ref ew) { s with heap := hw', toks := tkw }) :
    wpAny (model prog w) A (Builtin.«zip.__next__» ⟨[.ref zw], []⟩) Qw E s := by
  obtain ⟨hpw, gw, dw, tk0w, osw⟩ := s
  show wpAny _ _ (field (.ref zw) 2 >>= _) _ _ _
  refine wpAny_bind (wpAny_field hzw rfl (x := .bool false) rfl ?_)
  show wpAny _ _ (field (.ref zw) 3 >>= _) _ _ _
  refine wpAny_bind (wpAny_field hzw rfl (x := .ref TIw) rfl ?_)
  refine wpAny_bind (wpAny_seqItems hTIw rfl ?_)
  show wpAny _ _ (Builtin.SmallTypes.ownedTupleIsFree (.ref zw) >>= _) _ _ _
  refine wpAny_bind (own_zip hfw hzw ?_ fun h₁ hz₁ hs₁ => ?_)
  · simp only [if_true]
    refine wpAny_bind (wpAny_rule ?_)
    refine wpAny_bind (wpAny_field hzw rfl (x := .ref TOw) rfl ?_)
    refine wpAny_bind (wpAny_setField_rec hzw (by simp) fun g0w hz0w hs0w => ?_)
    replace hz0w : IsZg g0w zw TIw TOw .ellipsis f1 := hz0w
    replace hs0w : Heap.SameBut zw hpw g0w := hs0w
    refine wpAny_bind ?_
    simp only [List.zipIdx_cons, List.zipIdx_nil, List.forIn_cons, List.forIn_nil]
    refine wpAny_bind (wpAny_bind (wpAny_onRaise ?_))
    show wpAny _ _ (Builtin.SmallTypes.nextOf (.ref i1w) >>= _) _ _ ⟨g0w, gw, dw, tk0w, osw⟩
    by_cases hlt1 : i < n1w
    · refine wpAny_bind (D1w.item i _ _ _ hlt1 (D1w.over st1w hs0w Sw.zf1) fun x1w p1w tk1w hx1 sn1w hp1w => wpAny_pure ?_)
      replace hp1w : Heap.SameBut i1w g0w p1w := hp1w
      have hU1w : IsTupOf2 p1w TOw a1w a2w := hp1w.extBut _ _ Sw.Ti1 (hs0w.extBut _ _ Sw.TOz hTOw)
      refine wpAny_bind (wpAny_seqItems (s := ⟨p1w, gw, dw, tk1w, osw⟩) hU1w rfl ?_)
      refine wpAny_bind (updateSeq_IsTupOf2 (s := ⟨p1w, gw, dw, tk1w, osw⟩) hU1w fun g1w hT1w hs1w => ?_)
      replace hT1w : IsTupOf2 g1w TOw x1w a2w := hT1w
      replace hs1w : Heap.SameBut TOw p1w g1w := hs1w
      refine wpAny_bind (wpAny_letGo (wpAny_pure ?_))
      have hi2 : i = n2w := by omega
      refine wpAny_bind (wpAny_bind (wpAny_onRaise ?_))
      show wpAny _ _ (Builtin.SmallTypes.nextOf (.ref i2w) >>= _) _ _ ⟨g1w, gw, dw, tk1w, osw⟩
      refine wpAny_bind (D2w.done ⟨g1w, gw, dw, tk1w, osw⟩ _ _ (by rw [← hi2]; exact (D2w.over (D2w.over (D2w.over st2w hs0w Sw.zf2) hp1w Sw.sep1_2) hs1w Sw.Tf2)) fun qw ew hqw hew => ?_)
      replace hqw : Heap.ExtBut i2w g1w qw := hqw
      obtain ⟨oew, hoew, hce⟩ := hew
      replace hoew : qw.get? ew = some oew := hoew
      have hzq : IsZg qw zw TIw TOw .ellipsis f1 := hqw _ _ Sw.zi2 (hs1w.extBut _ _ Sw.TOz.symm (hp1w.extBut _ _ Sw.zi1 hz0w))
      have hez : ew ≠ zw := fun x => by subst x; rw [hzq] at hoew; cases hoew; simp at hce
      refine wpAny_setField_rec (s := ⟨qw, gw, dw, tk1w, osw⟩) hzq (by simp) fun q' _ hq' => ?_
      replace hq' : Heap.SameBut zw qw q' := hq'
      exact hE q' tk1w ew (fun c o cz cT c1 c2 x => hq'.extBut _ _ cz (hqw _ _ c2 (hs1w.extBut _ _ cT (hp1w.extBut _ _ c1 (hs0w.extBut _ _ cz x))))) ⟨oew, hq'.extBut _ _ hez hoew, hce⟩
    · have hi1 : i = n1w := by omega
      refine wpAny_bind (D1w.done ⟨g0w, gw, dw, tk0w, osw⟩ _ _ (by rw [← hi1]; exact (D1w.over st1w hs0w Sw.zf1)) fun qw ew hqw hew => ?_)
      replace hqw : Heap.ExtBut i1w g0w qw := hqw
      obtain ⟨oew, hoew, hce⟩ := hew
      replace hoew : qw.get? ew = some oew := hoew
      have hzq : IsZg qw zw TIw TOw .ellipsis f1 := hqw _ _ Sw.zi1 hz0w
      have hez : ew ≠ zw := fun x => by subst x; rw [hzq] at hoew; cases hoew; simp at hce
      refine wpAny_setField_rec (s := ⟨qw, gw, dw, tk0w, osw⟩) hzq (by simp) fun q' _ hq' => ?_
      replace hq' : Heap.SameBut zw qw q' := hq'
      exact hE q' tk0w ew (fun c o cz cT c1 c2 x => hq'.extBut _ _ cz (hqw _ _ c1 (hs0w.extBut _ _ cz x))) ⟨oew, hq'.extBut _ _ hez hoew, hce⟩
  · simp only [Bool.false_eq_true, if_false]
    replace hs₁ : Heap.SameBut zw hpw h₁ := hs₁
    refine wpAny_bind ?_
    rw [← Array.forIn_toList]
    simp only [List.forIn_cons, List.forIn_nil]
    refine wpAny_bind (wpAny_bind (wpAny_holding ?_))
    show wpAny _ _ (Builtin.SmallTypes.nextOf (.ref i1w) >>= _) _ _ ⟨h₁, gw, dw, tk0w, osw⟩
    by_cases hlt1 : i < n1w
    · refine wpAny_bind (D1w.item i ⟨h₁, gw, dw, tk0w, osw⟩ _ _ hlt1 (D1w.over st1w hs₁ Sw.zf1) fun x1w p1w tk1w hx1 sn1w hp1w => wpAny_pure ?_)
      replace hp1w : Heap.SameBut i1w h₁ p1w := hp1w
      refine wpAny_pure ?_
      have hi2 : i = n2w := by omega
      refine wpAny_bind (wpAny_bind (wpAny_holding ?_))
      show wpAny _ _ (Builtin.SmallTypes.nextOf (.ref i2w) >>= _) _ _ ⟨p1w, gw, dw, tk1w, osw⟩
      refine wpAny_bind (D2w.done ⟨p1w, gw, dw, tk1w, osw⟩ _ _ (by rw [← hi2]; exact (D2w.over (D2w.over st2w hs₁ Sw.zf2) hp1w Sw.sep1_2)) fun qw ew hqw hew => ?_)
      replace hqw : Heap.ExtBut i2w p1w qw := hqw
      exact hE qw tk1w ew (fun c o cz cT c1 c2 x => hqw _ _ c2 (hp1w.extBut _ _ c1 (hs₁.extBut _ _ cz x))) hew
    · have hi1 : i = n1w := by omega
      refine wpAny_bind (D1w.done ⟨h₁, gw, dw, tk0w, osw⟩ _ _ (by rw [← hi1]; exact (D1w.over st1w hs₁ Sw.zf1)) fun qw ew hqw hew => ?_)
      replace hqw : Heap.ExtBut i1w h₁ qw := hqw
      exact hE qw tk0w ew (fun c o cz cT c1 c2 x => hqw _ _ c1 (hs₁.extBut _ _ cz x)) hew
theorem zg_pyNext_item {Qw : Option Value → Shared → Prop} (hfw : Outs f0) (Sw : ZipSep2 zw TIw TOw i1w i2w fp1 fp2) (D1w : Draws prog w A.in1 i1w fp1 n1w P1 St1) (D2w : Draws prog w A.in1 i2w fp2 n2w P2 St2)
    (hzw : IsZg s.heap zw TIw TOw f0 f1) (hTIw : IsTupOf2 s.heap TIw (.ref i1w) (.ref i2w)) (hTOw : IsTupOf2 s.heap TOw a1w a2w) (st1w : St1 i s.heap) (st2w : St2 i s.heap) (hlt1 : i < n1w) (hlt2 : i < n2w)
    (hQ : ∀ x1w x2w hw' tkw g0w g1w b1 b2, P1 i x1w → P2 i x2w → Outs g0w → IsZg hw' zw TIw TOw g0w g1w → IsTupOf2 hw' TOw b1 b2 → St1 (i + 1) hw' → St2 (i + 1) hw' → IsTupOf2 hw' s.heap.objs.size x1w x2w → hw'.objs.size = s.heap.objs.size + 1 →
      (∀ c o, c ≠ zw → c ≠ TOw → c ≠ i1w → c ≠ i2w → s.heap.get? c = some o → hw'.get? c = some o) → Qw (some (.ref s.heap.objs.size)) { s with heap := hw', toks := tkw }) :
    wpAny (model prog w) A (pyNext (.ref zw)) Qw E s := by
  have hTw : s.TypeIs (.ref zw) "zip" := ⟨_, hzw, rfl⟩
  unfold pyNext
  exact wpAny_bind (wpAny_attempt (wpAny_callSpecial?_slot (name := Str.ofString "__next__") hTw F.slot_zip_next
    (wpAny_call_entry F.slot_zip_next hTw F.entry_zip_next
      (zg_item hfw Sw D1w D2w hzw hTIw hTOw st1w st2w hlt1 hlt2 fun x1w x2w hw' tkw g0w g1w b1 b2 y1 y2 y3 y4 y5 y6 y7 y8 y9 y10 => wpAny_pure (hQ x1w x2w hw' tkw g0w g1w b1 b2 y1 y2 y3 y4 y5 y6 y7 y8 y9 y10)) (F.args_zip_next_1 _))))
theorem zg_pyNext_end {Qw : Option Value → Shared → Prop} (hfw : Outs f0) (Sw : ZipSep2 zw TIw TOw i1w i2w fp1 fp2) (D1w : Draws prog w A.in1 i1w fp1 n1w P1 St1) (D2w : Draws prog w A.in1 i2w fp2 n2w P2 St2)
    (hzw : IsZg s.heap zw TIw TOw f0 f1) (hTIw : IsTupOf2 s.heap TIw (.ref i1w) (.ref i2w)) (hTOw : IsTupOf2 s.heap TOw a1w a2w) (st1w : St1 i s.heap) (st2w : St2 i s.heap) (hle1 : i ≤ n1w) (hle2 : i ≤ n2w) (hend : i = n1w ∨ i = n2w)
    (hQ : ∀ hw' tkw, (∀ c o, c ≠ zw → c ≠ TOw → c ≠ i1w → c ≠ i2w → s.heap.get? c = some o → hw'.get? c = some o) → Qw none { s with heap := hw', toks := tkw }) : wpAny (model prog w) A (pyNext (.ref zw)) Qw E s := by
  have hTw : s.TypeIs (.ref zw) "zip" := ⟨_, hzw, rfl⟩
  unfold pyNext
  refine wpAny_bind (wpAny_attempt (wpAny_callSpecial?_slot (name := Str.ofString "__next__") hTw F.slot_zip_next
    (wpAny_call_entry F.slot_zip_next hTw F.entry_zip_next (zg_end hfw Sw D1w D2w hzw hTIw hTOw st1w st2w hle1 hle2 hend fun hw' tkw ew hkw hew => ?_) (F.args_zip_next_1 _))))
  obtain ⟨o, ho, hcw⟩ := hew
  refine wpAny_bind (wpAny_isInstance (T := "StopIteration") (b := true) ⟨o, ho, hcw⟩ isSubtype_stop ?_)
  exact wpAny_pure (hQ _ _ hkw)
/-- a target of one name, or of several -/
theorem zg_letGo {tg : Expr} {T : Addr} {Qw : Unit → Shared → Prop} (ht : (∃ y p, tg = .Name y p) ∨ ∃ es k p, tg = .Tuple es k p) (hfw : Outs f0) (hzw : IsZg s.heap zw TIw TOw f0 f1)
    (hQ : ∀ hw' g0w, Outs g0w → IsZg hw' zw TIw TOw g0w f1 → Heap.SameBut zw s.heap hw' → Qw () { s with heap := hw' }) : wpAny (model prog w) A (letOwnedTupleGo tg (.ref zw) (.ref T)) Qw E s := by
  rcases ht with ⟨y, p, ew⟩ | ⟨es, k, p, ew⟩
  · subst ew
    exact wpAny_pure (hQ s.heap f0 hfw hzw (Heap.SameBut.refl _ _))
  · subst ew
    unfold letOwnedTupleGo
    refine wpAny_bind (wpAny_load hzw ?_)
    show wpAny _ _ (if (["enumerate", "zip", "dict_itemiterator", "dict_reverseitemiterator", "odict_iterator", "itertools.zip_longest", "itertools.pairwise"].contains "zip" &&
        (#[f0, .bool f1, .bool false, .ref TIw, .ref TOw] : Array Value)[0]? == some (rawInt T)) = true then _ else _) Qw E s
    split
    · refine wpAny_bind (wpAny_rule ?_)
      show wpAny _ _ (setField (.ref zw) 0 .none) Qw E s
      exact wpAny_setField_rec hzw (by simp) fun hw' hz' hs' => hQ hw' .none (.inl rfl) hz' hs'
    · exact wpAny_pure (hQ s.heap f0 hfw hzw (Heap.SameBut.refl _ _))
theorem zg_pyIter {Qw : Value → Shared → Prop} (hzw : IsZg s.heap zw TIw TOw f0 f1) (h : Qw (.ref zw) s) : wpAny (model prog w) A (pyIter (.ref zw)) Qw E s := by
  have hTw : s.TypeIs (.ref zw) "zip" := ⟨_, hzw, rfl⟩
  refine wpAny_pyIter_slot hTw F.slot_zip_iter (wpAny_call_entry F.slot_zip_iter hTw F.entry_zip_iter ?_ (F.args_zip_iter_1 _))
  show wpAny _ _ (ret (.ref zw)) _ _ s
  exact wpAny_pure ⟨_, rfl, "zip", _, hTw, F.slot_zip_next.lookup, h⟩
end
end PyS
end

section
set_option Elab.async false
set_option linter.all false
set_option maxRecDepth 100000
set_option maxHeartbeats 2000000
/-! Z2: what is walked: lists and tuples, zip and enumerate over them. -/
namespace PyS
open PySem PySem.Spec PyProof.Rows L2
open AutoSeq1 (wpAny_loadPart')
/-- a tuple (k), a list -/
def Sq2 (k : Bool) (K : PySem.W.Frag) (H : Hp) (a : Addr) (xs : List V) : Prop := if k then SqT K H a xs else SqL K H a xs
def Is2 (k : Bool) (h : Heap) (a : Addr) (items : Array Value) : Prop := if k then h.IsTuple a items else h.IsList a items
def It2 (k : Bool) (h : Heap) (itw a : Addr) (i : Nat) : Prop := if k then h.IsTupleIter itw a i else h.IsListIter itw a i
def obj2 (k : Bool) (a : Addr) : Obj := if k then { cls := .type "tuple_iterator", data := .fields #[.ref a, .int 0 0] } else { cls := .type "list_iterator", data := .fields #[.ref a, .int 0 0] }
theorem It2.ob {k : Bool} {h : Heap} {itw a : Addr} {i : Nat} (x : It2 k h itw a i) : ∃ o, h.get? itw = some o ∧ ∀ v, o.data ≠ .cell v := by
  cases k with
  | true =>
    obtain ⟨o, ew, _, dw⟩ := (x : h.IsTupleIter itw a i)
    exact ⟨o, ew, fun v zw => by rw [dw] at zw; cases zw⟩
  | false =>
    obtain ⟨o, ew, _, dw⟩ := (x : h.IsListIter itw a i)
    exact ⟨o, ew, fun v zw => by rw [dw] at zw; cases zw⟩
theorem It2.at {k : Bool} {h hw' : Heap} {itw a : Addr} {i : Nat} (x : It2 k h itw a i) (y : ∀ o, h.get? itw = some o → hw'.get? itw = some o) : It2 k hw' itw a i := by
  cases k with
  | true => exact Heap.IsTupleIter.at (x : h.IsTupleIter itw a i) y
  | false => exact Heap.IsListIter.at (x : h.IsListIter itw a i) y
theorem It2.new {k : Bool} {h : Heap} {itw a : Addr} (x : h.get? itw = some (obj2 k a)) : It2 k h itw a 0 := by
  cases k with
  | true => exact ⟨_, x, rfl, rfl⟩
  | false => exact ⟨_, x, rfl, rfl⟩
theorem draws2 {prog : Program} {w : World} {A : Around} (hh : A.handled = none) (k : Bool) (itw a : Addr) (hne : a ≠ itw) (items : Array Value) :
    Draws prog w A itw [itw, a] items.size (fun i v => items[i]? = some v) (fun i h => It2 k h itw a i ∧ Is2 k h a items) := by
  cases k with
  | true => exact Draws.tuple hh itw a hne items
  | false => exact Draws.list hh itw a hne items
theorem begins2 (k : Bool) (a : Addr) (items : Array Value) : Begins (.ref a) (obj2 k a) fun h => Is2 k h a items := by
  cases k with
  | true => exact begins_tuple a items
  | false => exact begins_list a items
section
variable {X : Cx} {pinsw : List (Addr × Obj)} {σ : L2.St} {H : Hp} {s : Shared}
theorem Inv.sq2 {k : Bool} {a : Addr} {xs : List V} (I : Inv X pinsw σ H s) (h : Sq2 k X.K H a xs) : ∃ its : List Value, Vals xs its ∧ Is2 k s.heap a its.toArray ∧ a < s.heap.objs.size := by
  cases k with
  | true =>
    obtain ⟨its, r, p, _⟩ := I.tuple (show SqT X.K H a xs from h)
    have p' : s.heap.IsTuple a its.toArray := p
    obtain ⟨o, ew, _⟩ := id p'
    exact ⟨its, r, p', Heap.lt_size ew⟩
  | false =>
    obtain ⟨its, r, p, _⟩ := I.list (show SqL X.K H a xs from h)
    exact ⟨its, r, p.isList, p.lt⟩
theorem Inv.inj2 {k : Bool} {a : Addr} {xs ys : List V} (I : Inv X pinsw σ H s) (h : Sq2 k X.K H a xs) (hw' : Sq2 k X.K H a ys) : xs = ys := by
  cases k with
  | true => exact I.tuple_inj (show SqT X.K H a xs from h) (show SqT X.K H a ys from hw')
  | false => exact I.list_inj (show SqL X.K H a xs from h) (show SqL X.K H a ys from hw')
end
theorem GLe.sq2 {G G' : Hp} (ew : GLe G G') {K : PySem.W.Frag} {k : Bool} {a : Addr} {xs : List V} (h : Sq2 k K G a xs) : Sq2 k K G' a xs := by
  cases k with
  | true => exact ew.sqT h
  | false => exact ew.sqL h

/-! ### zip -/
def ItZ (K : PySem.W.Frag) (ka kb : Bool) (a b : Addr) : It :=
  ⟨fun i H => ∃ (xs ys : List V) (x y : V), Sq2 ka K H a xs ∧ Sq2 kb K H b ys ∧ xs[i]? = some x ∧ ys[i]? = some y,
    fun i H v H' => ∃ p x y, v = .ref p ∧ H p = none ∧ H' = upd H p (.tup [x, y]) ∧ (∀ xs, Sq2 ka K H a xs → xs[i]? = some x) ∧ ∀ ys, Sq2 kb K H b ys → ys[i]? = some y,
    fun i H => ∃ xs ys : List V, Sq2 ka K H a xs ∧ Sq2 kb K H b ys ∧ i ≤ xs.length ∧ i ≤ ys.length ∧ (i = xs.length ∨ i = ys.length)⟩
def okTg (tg : Expr) : Prop := (∃ y p, tg = .Name y p) ∨ ∃ es k p, tg = .Tuple es k p
theorem turn_zg {P : Program} {w : World} {K : PySem.W.Frag} {tg : Expr} (ht : okTg tg) {ka kb : Bool} {a b zw TI TOw i1w i2w : Addr} (Sw : ZipSep2 zw TI TOw i1w i2w [i1w, a] [i2w, b]) (na : a ≠ i1w) (nb : b ≠ i2w) :
    Turn P w K tg (ItZ K ka kb a b) [zw, TI, TOw, i1w, i2w] zw (fun i h => (∃ f0 f1, Outs f0 ∧ IsZg h zw TI TOw f0 f1) ∧ IsTupOf2 h TI (.ref i1w) (.ref i2w) ∧ (∃ x y, IsTupOf2 h TOw x y) ∧ It2 ka h i1w a i ∧ It2 kb h i2w b i) where
  mem := by simp
  obj := fun i h stw c hcw => by
    obtain ⟨⟨f0, f1, _, hzw⟩, hTIw, ⟨x, y, hTOw⟩, h1, h2⟩ := stw
    have ew' : c = zw ∨ c = TI ∨ c = TOw ∨ c = i1w ∨ c = i2w := by simpa using hcw
    rcases ew' with qw | qw | qw | qw | qw
    · rw [qw]; exact ⟨_, hzw, fun v qw => nomatch qw⟩
    · rw [qw]; exact ⟨_, hTIw, fun v qw => nomatch qw⟩
    · rw [qw]; exact ⟨_, hTOw, fun v qw => nomatch qw⟩
    · rw [qw]; exact h1.ob
    · rw [qw]; exact h2.ob
  keep := fun i h hw' stw k => by
    obtain ⟨⟨f0, f1, f2, hzw⟩, hTIw, ⟨x, y, hTOw⟩, h1, h2⟩ := stw
    exact ⟨⟨f0, f1, f2, k zw (by simp) _ hzw⟩, k TI (by simp) _ hTIw, ⟨x, y, k TOw (by simp) _ hTOw⟩, h1.at fun o qw => k i1w (by simp) o qw, h2.at fun o qw => k i2w (by simp) o qw⟩
  item := by
    intro X hPw hww hKw hcw i pinsw s σ H E I hfw stw hgw
    subst hPw hww hKw
    obtain ⟨⟨f0, f1, fo, hzw⟩, hTIw, ⟨x0, y0, hTOw⟩, h1, h2⟩ := stw
    obtain ⟨xs, ys, x, y, hqx, hqy, hx, hy⟩ := hgw
    obtain ⟨its, rvw, p, _⟩ := Inv.sq2 I hqx
    obtain ⟨its2, rv2w, p2w, _⟩ := Inv.sq2 I hqy
    obtain ⟨uw, huw, ruw⟩ := rvw.get hx
    obtain ⟨u2w, hu2w, ru2w⟩ := rv2w.get hy
    have hzlw : zw < s.heap.objs.size := Heap.lt_size hzw
    have hh : X.A.in1.handled = none := I.ok.hd hcw
    refine zg_pyNext_item fo Sw (draws2 hh ka i1w a na its.toArray) (draws2 hh kb i2w b nb its2.toArray) hzw hTIw hTOw ⟨h1, p⟩ ⟨h2, p2w⟩ (by
        have := (List.getElem?_eq_some_iff.mp huw).1
        simpa using this) (by
        have := (List.getElem?_eq_some_iff.mp hu2w).1
        simpa using this) fun x1w x2w hw' tkw g0w g1w b1 b2 hx1 hx2 go z' TO' s1' s2' hTw hszw hkw => ?_
    have e1 : x1w = uw := by
      rw [show its.toArray[i]? = some uw by simpa using huw] at hx1
      exact (Option.some.inj hx1).symm
    have e2 : x2w = u2w := by
      rw [show its2.toArray[i]? = some u2w by simpa using hu2w] at hx2
      exact (Option.some.inj hx2).symm
    subst e1 e2
    refine ⟨_, rfl, zg_letGo (s := { s with heap := hw', toks := tkw }) ht go z' fun h'' k0 ko z'' sbw => ?_⟩
    have hT2w : h''.get? s.heap.objs.size = some { cls := .type "tuple", data := .seq #[x1w, x2w] } := (sbw.2 _ (Nat.ne_of_gt hzlw)).trans hTw
    have neww : ObjOk X.prog X.w (upd H s.heap.objs.size (.tup [x, y])) h'' s.heap.objs.size (.tup [x, y]) :=
      ⟨by show 2 ≤ sizeLine; decide, [x1w, x2w], .cons ruw (.cons ru2w .nil), ⟨_, hT2w, rfl, _, rfl⟩⟩
    have I1w : Inv X pinsw σ (upd H s.heap.objs.size (.tup [x, y])) { s with heap := h'', toks := tkw } :=
      I.turnedNew (t' := tkw) (ch := [zw, TI, TOw, i1w, i2w]) (fun c o hbw qw => (sbw.2 c (fun q' => hbw (by simp [q']))).trans (hkw c o (fun q' => hbw (by simp [q'])) (fun q' => hbw (by simp [q'])) (fun q' => hbw (by simp [q'])) (fun q' => hbw (by simp [q'])) qw)) hfw (Nat.le_refl _) neww
    refine ⟨.ref s.heap.objs.size, _, I1w, rfl, ⟨_, x, y, rfl, I.hok.fresh (Nat.le_refl _), rfl, fun l hl => by rw [Inv.inj2 I hl hqx]; exact hx, fun l hl => by rw [Inv.inj2 I hl hqy]; exact hy⟩, ⟨⟨k0, g1w, ko, z''⟩, ?_, ⟨b1, b2, ?_⟩, ?_, ?_⟩, fun c hcm => ?_⟩
    · exact (sbw.2 _ Sw.TIz).trans (hkw _ _ Sw.TIz Sw.TITO Sw.TIi1 Sw.TIi2 hTIw)
    · exact (sbw.2 _ Sw.TOz).trans TO'
    · exact s1'.1.at fun o qw => (sbw.2 _ Sw.zi1.symm).trans qw
    · exact s2'.1.at fun o qw => (sbw.2 _ Sw.zi2.symm).trans qw
    · have hltw : c < s.heap.objs.size := by
        have ew' : c = zw ∨ c = TI ∨ c = TOw ∨ c = i1w ∨ c = i2w := by simpa using hcm
        rcases ew' with qw | qw | qw | qw | qw
        · rw [qw]; exact hzlw
        · rw [qw]; exact Heap.lt_size hTIw
        · rw [qw]; exact Heap.lt_size hTOw
        · rw [qw]; obtain ⟨_, e1, _⟩ := h1.ob; exact Heap.lt_size e1
        · rw [qw]; obtain ⟨_, e2, _⟩ := h2.ob; exact Heap.lt_size e2
      rw [upd_ne (Nat.ne_of_lt hltw)]
      exact (hfw c hcm).1
  done := by
    intro X hPw hww hKw hcw i pinsw s σ H E I hfw stw hgw
    subst hPw hww hKw
    obtain ⟨⟨f0, f1, fo, hzw⟩, hTIw, ⟨x0, y0, hTOw⟩, h1, h2⟩ := stw
    obtain ⟨xs, ys, hqx, hqy, l1, l2, le⟩ := hgw
    obtain ⟨its, rvw, p, _⟩ := Inv.sq2 I hqx
    obtain ⟨its2, rv2w, p2w, _⟩ := Inv.sq2 I hqy
    have l3 := rvw.length
    have l4 := rv2w.length
    have hh : X.A.in1.handled = none := I.ok.hd hcw
    refine zg_pyNext_end fo Sw (draws2 hh ka i1w a na its.toArray) (draws2 hh kb i2w b nb its2.toArray) hzw hTIw hTOw ⟨h1, p⟩ ⟨h2, p2w⟩ (by simp; omega) (by simp; omega) (by simp; omega) fun hw' tkw hkw => ⟨rfl, I.turnedL (t' := tkw) (ch := [zw, TI, TOw, i1w, i2w]) (fun c o hbw qw =>
      hkw c o (fun q' => hbw (by simp [q'])) (fun q' => hbw (by simp [q'])) (fun q' => hbw (by simp [q'])) (fun q' => hbw (by simp [q'])) qw) hfw⟩
  self := fun A i s Qw E stw h => by
    obtain ⟨⟨f0, f1, _, hzw⟩, _⟩ := stw
    exact zg_pyIter hzw h
def iZg (K : PySem.W.Frag) (ta : TA) : TI := fun σ H R => ta σ H fun vsw H1w => ∃ ka kb a b xs ys, vsw = [.ref a, .ref b] ∧ Sq2 ka K H1w a xs ∧ Sq2 kb K H1w b ys ∧ R (ItZ K ka kb a b) H1w
theorem pi_zg {X : Cx} {tg : Expr} (ht : okTg tg) {ew e2 : Expr} {ta : TA} {p pos : Pos} (hgw : Gl X "zip") (hm : X.mg "zip" = none) (ha : PA X [ew, e2] ta)
    (hs : starEach [ew, e2] X.env = (false, eval ew X.env) :: starEach [e2] X.env) (hpl : (backTo pos (starEach [e2] X.env)).any (·.1) = false) :
    PI X tg (.Call (.Name "zip" p) [ew, e2] [] pos) (iZg X.K ta) := by
  refine ⟨fun pinsw s σ H R I h => ?_⟩
  refine Call_ (ld_blt I hgw hm PyProof.Rows.boot_zip (PyProof.Rows.callWith_type1 (thn (ha.run pos pinsw s σ H _ I h) fun usw s1 ⟨vsw, H1w, I1w, r1w, q1⟩ => ?_) hs hpl))
  obtain ⟨ka, kb, a, b, xs, ys, ex, hqx, hqy, qw⟩ := q1
  subst ex
  cases r1w with
  | cons r rr =>
    cases rr with
    | cons r' rr =>
      cases rr
      cases r
      cases r'
      have fresh5 : ∀ c, c ∈ [s1.heap.objs.size + 4, s1.heap.objs.size + 2, s1.heap.objs.size + 3, s1.heap.objs.size, s1.heap.objs.size + 1] → FpOk X pinsw H1w c := fun c hcm => by
        have ew' : c = s1.heap.objs.size + 4 ∨ c = s1.heap.objs.size + 2 ∨ c = s1.heap.objs.size + 3 ∨ c = s1.heap.objs.size ∨ c = s1.heap.objs.size + 1 := by simpa using hcm
        have hlew : s1.heap.objs.size ≤ c := by
          rcases ew' with zw | zw | zw | zw | zw
          · rw [zw]; exact Nat.le_add_right _ _
          · rw [zw]; exact Nat.le_add_right _ _
          · rw [zw]; exact Nat.le_add_right _ _
          · rw [zw]; exact Nat.le_refl _
          · rw [zw]; exact Nat.le_add_right _ _
        exact I1w.fpOk hlew (I1w.hok.fresh hlew)
      obtain ⟨its, rvw, p1w, la⟩ := Inv.sq2 I1w hqx
      obtain ⟨its2, rv2w, p2w, lb⟩ := Inv.sq2 I1w hqy
      refine zip_begins2 (begins2 ka a its.toArray) (begins2 kb b its2.toArray) p1w p2w fun hw' hzw hTIw hTOw h1 h2 hszw hkw => zg_pyIter (f1 := false) hzw ?_
      have I2w : Inv X pinsw σ H1w { s1 with heap := hw' } := I1w.kept (t' := s1.toks) hkw
      refine ⟨s1.heap.objs.size + 4, [s1.heap.objs.size + 4, s1.heap.objs.size + 2, s1.heap.objs.size + 3, s1.heap.objs.size, s1.heap.objs.size + 1], _, _, H1w, rfl, I2w, turn_zg ht (zip_sep2 (fp1 := [a]) (fp2 := [b]) (fun c hcw => ?_) fun c hcw => ?_) (Nat.ne_of_lt la) (Nat.ne_of_lt (Nat.lt_succ_of_lt lb)), ⟨⟨.none, false, .inl rfl, hzw⟩, hTIw, ⟨_, _, hTOw⟩, It2.new h1, It2.new h2⟩, fresh5, qw⟩
      · rw [List.mem_singleton.mp hcw]; exact la
      · rw [List.mem_singleton.mp hcw]; exact lb

/-! ### enumerate -/
def ItN (K : PySem.W.Frag) (k : Bool) (a : Addr) : It :=
  ⟨fun i H => ∃ (xs : List V) (x : V), Sq2 k K H a xs ∧ xs[i]? = some x, fun i H v H' => ∃ p x, v = .ref p ∧ H p = none ∧ H' = upd H p (.tup [.int (i : Nat), x]) ∧ ∀ xs, Sq2 k K H a xs → xs[i]? = some x, fun i H => ∃ xs : List V, Sq2 k K H a xs ∧ i = xs.length⟩
theorem turn_en {P : Program} {w : World} {K : PySem.W.Frag} {elts : List Expr} {kk : Nat} {tpos : Pos} {k : Bool} {a ew itw : Addr} (ne : ew ≠ itw) (na : a ≠ itw) (nb : ew ≠ a) :
    Turn P w K (.Tuple elts kk tpos) (ItN K k a) [ew, itw] ew (fun i h => (∃ old, IsEnum h ew itw ((i : Nat) : Int) old) ∧ It2 k h itw a i) where
  mem := by simp
  obj := fun i h stw b hbw => by
    obtain ⟨⟨old, hew⟩, hi⟩ := stw
    have ew' : b = ew ∨ b = itw := by simpa using hbw
    rcases ew' with zw | zw
    · rw [zw]; exact ⟨_, hew, fun v qw => nomatch qw⟩
    · rw [zw]; exact hi.ob
  keep := fun i h hw' stw qw => by
    obtain ⟨⟨old, hew⟩, hi⟩ := stw
    exact ⟨⟨old, qw ew (by simp) _ hew⟩, hi.at fun o zw => qw itw (by simp) o zw⟩
  item := by
    intro X hPw hww hKw hcw i pinsw s σ H E I hfw stw hgw
    subst hPw hww hKw
    obtain ⟨⟨old, hew⟩, hit⟩ := stw
    obtain ⟨xs, x, hqw, hx⟩ := hgw
    obtain ⟨its, rvw, p, _⟩ := Inv.sq2 I hqw
    obtain ⟨uw, huw, ruw⟩ := rvw.get hx
    have helw : ew < s.heap.objs.size := Heap.lt_size hew
    have hil : itw < s.heap.objs.size := by obtain ⟨_, qw, _⟩ := hit.ob; exact Heap.lt_size qw
    have hh : X.A.in1.handled = none := I.ok.hd hcw
    refine wpAny_pyNext_enum_itemC (draws2 hh k itw a na its.toArray) hew ⟨hit, p⟩ (by
        have := (List.getElem?_eq_some_iff.mp huw).1
        simpa using this) ne (by simp [ne, nb]) fun x1w hw' tkw hx1 ho st' hTw hszw hkw => ?_
    have e1 : x1w = uw := by
      rw [show its.toArray[i]? = some uw by simpa using huw] at hx1
      exact (Option.some.inj hx1).symm
    subst e1
    refine ⟨_, rfl, wpAny_letOwnedTupleGo_enum (s := { s with heap := hw', toks := tkw + 1 }) ho fun h'' he' sbw => ?_⟩
    have hT2w : h''.get? s.heap.objs.size = some { cls := .type "tuple", data := .seq #[.int i tkw, x1w] } := (sbw.2 _ (Nat.ne_of_gt helw)).trans hTw
    have neww : ObjOk X.prog X.w (upd H s.heap.objs.size (.tup [.int (i : Nat), x])) h'' s.heap.objs.size (.tup [.int (i : Nat), x]) :=
      ⟨by show 2 ≤ sizeLine; decide, [.int i tkw, x1w], .cons ⟨_, rfl⟩ (.cons ruw .nil), ⟨_, hT2w, rfl, _, rfl⟩⟩
    have I1w : Inv X pinsw σ (upd H s.heap.objs.size (.tup [.int (i : Nat), x])) { s with heap := h'', toks := tkw + 1 } :=
      I.turnedNew (ch := [ew, itw]) (fun b obw hbw qw => (sbw.2 b (fun zw => hbw (by simp [zw]))).trans (hkw b obw (fun zw => hbw (by simp [zw])) (fun zw => hbw (by simp [zw])) qw)) hfw (Nat.le_refl _) neww
    refine ⟨.ref s.heap.objs.size, _, I1w, rfl, ⟨_, x, rfl, I.hok.fresh (Nat.le_refl _), rfl, fun ys hy => by rw [Inv.inj2 I hy hqw]; exact hx⟩, ⟨⟨x1w, ?_⟩, st'.1.at fun o qw => (sbw.2 itw (Ne.symm ne)).trans qw⟩, fun b hbw => ?_⟩
    · have e1 : ((i + 1 : Nat) : Int) = (i : Int) + 1 := by omega
      rw [e1]; exact he'
    · have hbw' : b < s.heap.objs.size := by
        have ew' : b = ew ∨ b = itw := by simpa using hbw
        rcases ew' with zw | zw
        · rw [zw]; exact helw
        · rw [zw]; exact hil
      rw [upd_ne (Nat.ne_of_lt hbw')]
      exact (hfw b hbw).1
  done := by
    intro X hPw hww hKw hcw i pinsw s σ H E I hfw stw hgw
    subst hPw hww hKw
    obtain ⟨⟨old, hew⟩, hit⟩ := stw
    obtain ⟨xs, hqw, hx⟩ := hgw
    obtain ⟨its, rvw, p, _⟩ := Inv.sq2 I hqw
    have hl := rvw.length
    have hh : X.A.in1.handled = none := I.ok.hd hcw
    obtain ⟨f0, f1, f2, f3, f4, f5⟩ := hfw itw (by simp)
    refine wpAny_pyNext_enum_endD (draws2 hh k itw a na its.toArray) hew ⟨?_, p⟩ fun hw' eb => ⟨rfl, I.turned (t' := s.toks) (fun b o hbw qw => eb b o hbw qw) f0 f1 f3 f4 f5⟩
    rw [show its.toArray.size = i by simp; omega]
    exact hit
  self := fun A i s Qw E stw h => let ⟨⟨_, hew⟩, _⟩ := stw; wpAny_pyIter_enum hew h
theorem meets_enum_tup (l : Addr) (items : Array Value) (n : Nat) (dct : Option Addr) (sl : Array (Option Value)) :
    Meets (Builtin.«enumerate.__new__» ⟨[.type "enumerate", .ref l], []⟩) (fun _ R s => s.heap.get? l = some { cls := .type "tuple", dict := dct, data := .seq items n, slots := sl } ∧
      R (.ok (.ret (.ref (s.heap.push { cls := .type "tuple_iterator", data := .fields #[.ref l, .int 0 0] }).objs.size)))
        { s with heap := (s.heap.push { cls := .type "tuple_iterator", data := .fields #[.ref l, .int 0 0] }).push { cls := .type "enumerate", data := .fields #[.none, .bool false, .ref s.heap.objs.size, rawInt 0, .none, .none] } }) :=
  .of_wp fun prog w A R s h => by
    obtain ⟨hpw, gw, dw, tkw, osw⟩ := s; obtain ⟨hl, h⟩ := h
    have hsub := sub_enumerate
    have hL : Heap.IsTuple (Shared.heap ⟨hpw, gw, dw, tkw, osw⟩) l items := ⟨_, hl, rfl, n, rfl⟩
    wp_walk using wpAny_loadPart' hl
    refine wpAny_stack_any fun stw => wpAny_pure ?_
    split
    · rename_i c _ _ _ _ _
      cases (c == Value.type "enumerate")
      · wp_walk using wpAny_loadPart' hl, wpAny_pyIter_tuple hL
        exact ⟨_, rfl, h⟩
      · wp_walk using wpAny_loadPart' hl, wpAny_pyIter_tuple hL
        exact ⟨_, rfl, h⟩
    · wp_walk using wpAny_loadPart' hl, wpAny_pyIter_tuple hL
      exact ⟨_, rfl, h⟩
section
variable {prog : Program} {w : World} {A : Around} {E : Value → Shared → Prop} {s : Shared}
theorem call_enum_tup {l : Addr} {items : Array Value} {Qw : Value → Shared → Prop} (hL : s.heap.IsTuple l items)
    (h : ∀ hw', IsEnum hw' (s.heap.objs.size + 1) s.heap.objs.size 0 .none → hw'.IsTupleIter s.heap.objs.size l 0 → hw'.objs.size = s.heap.objs.size + 2 →
      (∀ b o, s.heap.get? b = some o → hw'.get? b = some o) → Qw (.ref (s.heap.objs.size + 1)) { s with heap := hw' }) :
    wpAny (model prog w) A (call (.type "enumerate") [.ref l]) Qw E s := by
  obtain ⟨⟨c, dct, dt, sl⟩, hl, hcw, n, hd⟩ := hL
  replace hcw : c = .type "tuple" := hcw
  replace hd : dt = .seq items n := hd
  subst hcw hd
  refine callType_new F.called_enumerate (by decide) (F.typeCall_enumerate_1 _) (F.newCall_enumerate_1 _) (fun obj => F.args_object_init_2 obj _) F.entry_enumerate_new
    (meets_enum_tup l items n dct sl) ⟨hl, ?_⟩
  have hzw : (s.heap.push { cls := .type "tuple_iterator", data := .fields #[.ref l, .int 0 0] }).objs.size = s.heap.objs.size + 1 := Heap.size_push ..
  show _ ∧ _
  rw [hzw]
  have hew : IsEnum ((s.heap.push { cls := .type "tuple_iterator", data := .fields #[.ref l, .int 0 0] }).push
      { cls := .type "enumerate", data := .fields #[.none, .bool false, .ref s.heap.objs.size, rawInt 0, .none, .none] }) (s.heap.objs.size + 1) s.heap.objs.size 0 .none := by
    have := Heap.get?_push_size (s.heap.push { cls := .type "tuple_iterator", data := .fields #[.ref l, .int 0 0] })
      (o := { cls := .type "enumerate", data := .fields #[.none, .bool false, .ref s.heap.objs.size, rawInt 0, .none, .none] }) rfl
    rw [hzw] at this; exact this
  refine ⟨⟨_, hew, rfl⟩, h _ hew ⟨_, Heap.get?_push_of_some _ (Heap.get?_push_size _ rfl), rfl, rfl⟩ (by rw [Heap.size_push, hzw]) fun b o x => Heap.get?_push_of_some _ (Heap.get?_push_of_some _ x)⟩
theorem call_enum2 {k : Bool} {l : Addr} {items : Array Value} {Qw : Value → Shared → Prop} (hL : Is2 k s.heap l items)
    (h : ∀ hw', IsEnum hw' (s.heap.objs.size + 1) s.heap.objs.size 0 .none → It2 k hw' s.heap.objs.size l 0 →
      (∀ b o, s.heap.get? b = some o → hw'.get? b = some o) → Qw (.ref (s.heap.objs.size + 1)) { s with heap := hw' }) :
    wpAny (model prog w) A (call (.type "enumerate") [.ref l]) Qw E s := by
  cases k with
  | true => exact call_enum_tup (show s.heap.IsTuple l items from hL) fun hw' a b _ dw => h hw' a b dw
  | false => exact call_enumerate_list (show s.heap.IsList l items from hL) fun hw' a b _ dw => h hw' a b dw
end
def iEn (K : PySem.W.Frag) (ta : TA) : TI := fun σ H R => ta σ H fun vsw H1w => ∃ k a xs, vsw = [.ref a] ∧ Sq2 k K H1w a xs ∧ R (ItN K k a) H1w
theorem pi_en {X : Cx} {ew : Expr} {ta : TA} {p pos tpos : Pos} {elts : List Expr} {kk : Nat} (hgw : Gl X "enumerate") (hm : X.mg "enumerate" = none) (ha : PA X [ew] ta) (hs : starEach [ew] X.env = [(false, eval ew X.env)]) :
    PI X (.Tuple elts kk tpos) (.Call (.Name "enumerate" p) [ew] [] pos) (iEn X.K ta) := by
  refine ⟨fun pinsw s σ H R I h => ?_⟩
  refine Call_ (ld_blt I hgw hm boot_enumerate (PyProof.Rows.callWith_type1 (thn (ha.run pos pinsw s σ H _ I h) fun usw s1 ⟨vsw, H1w, I1w, r1w, q1⟩ => ?_) hs rfl))
  obtain ⟨k, a, xs, ex, hqw, qw⟩ := q1
  subst ex
  cases r1w with
  | cons r rr =>
    cases rr
    cases r
    obtain ⟨its, rvw, p', la⟩ := Inv.sq2 I1w hqw
    refine call_enum2 p' fun hw' hew hit hkw => wpAny_pyIter_enum hew ?_
    have I2w : Inv X pinsw σ H1w { s1 with heap := hw' } := I1w.kept (t' := s1.toks) hkw
    refine ⟨s1.heap.objs.size + 1, [s1.heap.objs.size + 1, s1.heap.objs.size], _, _, H1w, rfl, I2w, turn_en (Nat.succ_ne_self _) (Nat.ne_of_lt la) (Nat.ne_of_gt (Nat.lt_succ_of_lt la)), ⟨⟨.none, hew⟩, hit⟩, fun b hbw => ?_, qw⟩
    have ew' : b = s1.heap.objs.size + 1 ∨ b = s1.heap.objs.size := by simpa using hbw
    have hlew : s1.heap.objs.size ≤ b := by
      rcases ew' with zw | zw
      · rw [zw]; exact Nat.le_add_right _ _
      · rw [zw]; exact Nat.le_refl _
    exact I1w.fpOk hlew (I1w.hok.fresh hlew)
end PyS
end

section
set_option Elab.async false
set_option linter.all false
set_option maxRecDepth 100000
set_option maxHeartbeats 2000000
/-! Z3: what is walked, told of the interpreter's data. -/
namespace PyS
open PySem L2
variable {T : Tb}
/-- what was frozen stays -/
structure Lat (w w' : Wd) : Prop where
  g : GLe w.G w'.G
  f : PLe w.φ w'.φ
theorem Stp.lat {w w' : Wd} (s : Stp w w') : Lat w w' := ⟨s.g, s.f⟩
theorem Lat.refl (w : Wd) : Lat w w := ⟨GLe.refl _, PLe.refl _⟩
theorem Lat.trans {a b c : Wd} (x : Lat a b) (y : Lat b c) : Lat a c := ⟨x.g.trans y.g, x.f.trans y.f⟩
/-- J walks over ds in w and later -/
structure Yl (T : Tb) (J : It) (w0 : Wd) (ds : List Py.D) : Prop where
  go : ∀ (i : Nat) (w : Wd), Lat w0 w → LabOk w → i < ds.length → J.go i w.H
  stop : ∀ (w : Wd), Lat w0 w → LabOk w → J.stop ds.length w.H
  yld : ∀ (i : Nat) (w : Wd) (σ : L2.St) (s : Py.St) (v : V) (H' : Hp) (d : Py.D), Lat w0 w → RS T w σ s → ds[i]? = some d → J.yld i w.H v H' → ∃ w', w'.H = H' ∧ Stp w w' ∧ RS T w' σ s ∧ Rep T w'.G w'.φ v d
def WI (X : Cx) (tg iter : Expr) : TI := fun σ H R => ∀ (pins : List (Addr × Obj)) (s : Shared), Inv X pins σ H s → wpAny (model X.prog X.w) X.A (eval iter X.env) (fun v s1 => wpAny (model X.prog X.w) X.A (pyIter v) (PIE X pins σ tg R) X.xe s1) X.xe s
theorem pi_self {X : Cx} {tg iter : Expr} : PI X tg iter (WI X tg iter) := ⟨fun pins s σ H R I h => h pins s I⟩
theorem WI.of {X : Cx} {tg iter : Expr} {t : TI} (p : PI X tg iter t) {σ : L2.St} {H : Hp} {R : It → Hp → Prop} (h : t σ H R) : WI X tg iter σ H R := fun pins s I => p.run pins s σ H R I h
def SimI (T : Tb) (c : Py.Cx) (X : Cx) (tg iter : Expr) (k : Option Py.Itk) (Es : List Py.E) : Prop :=
  ∀ (w : Wd) (σ : L2.St) (s : Py.St) (ds : List Py.D) (s' : Py.St) (xs : List Py.D), RS T w σ s → Py.evs c Es s = some (ds, s') → Py.yields k ds = some xs →
    ∀ R : It → Hp → Prop, (∀ J w', Stp w w' → RS T w' σ s' → Yl T J w' xs → R J w'.H) → WI X tg iter σ w.H R
/-- data that are walked -/
theorem Rep.seq {G : Hp} {φ : List Addr} {v : V} {d : Py.D} {l : List Py.D} (h : Rep T G φ v d) (e : Py.seqOf d = some l) : ∃ a k xs, v = .ref a ∧ Sq2 k T.K G a xs ∧ Reps T G φ xs l := by
  cases h with
  | tup a b => cases e; exact ⟨_, true, _, rfl, .inl (.inl a), b⟩
  | lst a b => cases e; exact ⟨_, false, _, rfl, .inl (.inl a), b⟩
  | scr a b => cases e; exact ⟨_, false, _, rfl, a, b⟩
  | _ => cases e
theorem gleH {w : Wd} (k : LabOk w) : GLe w.G w.H := k.gh
/-- one place of a frozen sequence, seen now -/
theorem Sq2.now {w0 w : Wd} {k : Bool} {a : Addr} {xs : List V} (h : Sq2 k T.K w0.G a xs) (l : Lat w0 w) (ok : LabOk w) : Sq2 k T.K w.H a xs := (gleH ok).sq2 (l.g.sq2 h)
section
variable {c : Py.Cx} {X : Cx}
/-- a walk over a list or a tuple -/
def It1 (K : PySem.W.Frag) (k : Bool) (a : Addr) : It := if k then Itt K a else Itl K a
theorem yl_seq {K : PySem.W.Frag} (hK : T.K = K) {w : Wd} {k : Bool} {a : Addr} {xs : List V} {l : List Py.D} (q : Sq2 k T.K w.G a xs) (r : Reps T w.G w.φ xs l) : Yl T (It1 K k a) w l := by
  subst hK
  have hl := r.length
  cases k with
  | true =>
    refine ⟨fun i w1 la ok hi => ?_, fun w1 la ok => ?_, fun i w1 σ s v H' d la rs hd y => ?_⟩
    · obtain ⟨x, hx, _⟩ := r.get (List.getElem?_eq_getElem hi)
      exact ⟨xs, x, Sq2.now q la ok, hx⟩
    · exact ⟨xs, Sq2.now q la ok, Nat.le_of_eq hl⟩
    · obtain ⟨x, hx, rx⟩ := r.get hd
      obtain ⟨rfl, y2⟩ := y
      have := y2 xs (Sq2.now q la rs.toLabOk)
      rw [hx] at this
      cases this
      exact ⟨w1, rfl, Stp.refl _, rs, rx.mono la.g la.f⟩
  | false =>
    refine ⟨fun i w1 la ok hi => ?_, fun w1 la ok => ?_, fun i w1 σ s v H' d la rs hd y => ?_⟩
    · obtain ⟨x, hx, _⟩ := r.get (List.getElem?_eq_getElem hi)
      exact ⟨xs, x, Sq2.now q la ok, hx⟩
    · exact ⟨xs, Sq2.now q la ok, Nat.le_of_eq hl⟩
    · obtain ⟨x, hx, rx⟩ := r.get hd
      obtain ⟨rfl, y2⟩ := y
      have := y2 xs (Sq2.now q la rs.toLabOk)
      rw [hx] at this
      cases this
      exact ⟨w1, rfl, Stp.refl _, rs, rx.mono la.g la.f⟩
def iSeq (K : PySem.W.Frag) (tl : TE) : TI := fun σ H R => tl σ H fun x H1 => ∃ a k xs, x = .ref a ∧ Sq2 k K H1 a xs ∧ R (It1 K k a) H1
theorem pi_seq {tg l : Expr} {tl : TE} (hl : PE X l tl) : PI X tg l (iSeq X.K tl) := by
  refine ⟨fun pins s σ H R I h => ?_⟩
  refine thn (hl.run pins s σ H _ I h) fun v s1 ⟨x, H1, I1, r1, q1⟩ => ?_
  obtain ⟨a, k, xs, e, hq, q⟩ := q1
  subst e
  cases r1
  cases k with
  | true =>
    obtain ⟨its, rv, p, hz⟩ := I1.tuple (show SqT X.K H1 a xs from hq)
    refine wpAny_pyIter_tuple (show s1.heap.IsTuple a its.toArray from p) ?_
    refine ⟨s1.heap.objs.size, [s1.heap.objs.size], _, _, H1, rfl, I1.kept (t' := s1.toks) fun b o e => Heap.get?_push_of_some _ e, turn_tuple a _, ⟨_, Heap.get?_push_size _ rfl, rfl, rfl⟩, fun b hb => ?_, q⟩
    have e : b = s1.heap.objs.size := by simpa using hb
    subst e
    exact I1.fpOk (Nat.le_refl _) (I1.hok.fresh (Nat.le_refl _))
  | false =>
    obtain ⟨its, rv, p, hz⟩ := I1.list (show SqL X.K H1 a xs from hq)
    refine wpAny_pyIter_list p.isList ?_
    refine ⟨s1.heap.objs.size, [s1.heap.objs.size], _, _, H1, rfl, I1.kept (t' := s1.toks) fun b o e => Heap.get?_push_of_some _ e, turn_list a _, ⟨_, Heap.get?_push_size _ rfl, rfl, rfl⟩, fun b hb => ?_, q⟩
    have e : b = s1.heap.objs.size := by simpa using hb
    subst e
    exact I1.fpOk (Nat.le_refl _) (I1.hok.fresh (Nat.le_refl _))
theorem simI_seq (hK : T.K = X.K) {tg e : Expr} {E : Py.E} (n' : isStarE E = false) (h : SimE T c X e E) : SimI T c X tg e none [E] := by
  intro w σ s ds s' xs rs ev yi R q
  rw [evs_cons n'] at ev
  split at ev
  · rename_i o s1 e1
    simp only [Py.evs, Option.some.injEq, Prod.mk.injEq] at ev
    obtain ⟨rfl, rfl⟩ := ev
    refine WI.of (pi_seq pe_self) ?_
    refine h false w σ s o _ rs e1 _ fun v w1 st1 rs1 q1 p1 => ?_
    obtain ⟨w2, h2, st2, rs2, r2, f2, g2, l2⟩ := p1.res.toD st1 rs1
    obtain ⟨a, k, vs, rfl, hq, hr⟩ := r2.seq (show Py.seqOf o.toD = some xs from yi)
    refine ⟨a, k, vs, rfl, ?_, ?_⟩
    · rw [← hK, ← h2]
      exact Sq2.now hq (Lat.refl _) rs2.toLabOk
    · rw [← h2]
      exact q _ w2 st2 rs2 (yl_seq hK hq hr)
  · cases ev
theorem yl_range {w : Wd} {a b : Int} {n : Nat} (hn : n = (b - a).toNat) : Yl T (Itr a n) w (Py.rangeL a b) := by
  have hl : (Py.rangeL a b).length = n := by
    unfold Py.rangeL
    rw [List.length_map, List.length_range, hn]
  refine ⟨fun i w1 la ok hi => by rw [hl] at hi; exact hi, fun w1 la ok => Nat.le_of_eq hl.symm, fun i w1 σ s v H' d la rs hd y => ?_⟩
  obtain ⟨rfl, rfl⟩ := y
  refine ⟨w1, rfl, Stp.refl _, rs, ?_⟩
  have hi : i < (b - a).toNat := by
    have := (List.getElem?_eq_some_iff.mp hd).1
    rw [hl, hn] at this
    exact this
  unfold Py.rangeL at hd
  rw [List.getElem?_map, List.getElem?_range hi] at hd
  cases hd
  exact .int _
theorem itk_range1 {d : Py.D} {xs : List Py.D} (h : Py.itk .range [d] = some xs) : ∃ n : Int, d = .int n ∧ -(2 : Int) ^ 62 ≤ n ∧ n < 2 ^ 62 ∧ xs = Py.rangeL 0 n := by
  cases d with
  | int n =>
    simp only [Py.itk] at h
    split at h
    · rename_i hz
      rw [Bool.and_eq_true] at hz
      cases h
      exact ⟨n, rfl, of_decide_eq_true hz.1, of_decide_eq_true hz.2, rfl⟩
    · cases h
  | _ => cases h
theorem itk_range2 {d d2 : Py.D} {xs : List Py.D} (h : Py.itk .range [d, d2] = some xs) : ∃ a b : Int, d = .int a ∧ d2 = .int b ∧ (-(2 : Int) ^ 62 ≤ a ∧ a < 2 ^ 62 ∧ -(2 : Int) ^ 62 ≤ b ∧ b < 2 ^ 62) ∧ xs = Py.rangeL a b := by
  cases d with
  | int n =>
    cases d2 with
    | int m =>
      simp only [Py.itk] at h
      split at h
      · rename_i hz
        simp only [Bool.and_eq_true, decide_eq_true_eq] at hz
        cases h
        exact ⟨n, m, rfl, rfl, ⟨hz.1.1.1, hz.1.1.2, hz.1.2, hz.2⟩, rfl⟩
      · cases h
    | _ => cases h
  | _ => cases h
theorem simI_range1 {tg e : Expr} {E : Py.E} {p pos : Pos} (hg : Gl X "range") (hm : X.mg "range" = none) (n : notStar e = true) (n' : isStarE E = false) (hs : SimEs T c X [e] [E]) : SimI T c X tg (.Call (.Name "range" p) [e] [] pos) (some .range) [E] := by
  intro w σ s ds s' xs rs ev yi R q
  simp only [Py.yields] at yi
  have hl := evs_len (Es := [E]) (by simp [n']) ev
  match ds, hl, yi, ev with
  | [d], _, yi, ev =>
    obtain ⟨j, rfl, b1, b2, rfl⟩ := itk_range1 yi
    refine WI.of (pi_range1 hg hm pa_self (starEach_not n [] X.env)) ?_
    refine hs w σ s _ s' rs ev _ fun vs w1 st1 rs1 q1 r1 => ?_
    cases r1 with
    | cons r rr =>
      cases rr
      cases r
      exact ⟨_, rfl, b1, b2, q _ w1 st1 rs1 (yl_range (by simp))⟩
theorem simI_range2 {tg e e2 : Expr} {E E2 : Py.E} {p pos : Pos} (hg : Gl X "range") (hm : X.mg "range" = none) (n : notStar e = true) (n2 : notStar e2 = true) (n' : isStarE E = false) (n2' : isStarE E2 = false) (hs : SimEs T c X [e, e2] [E, E2]) :
    SimI T c X tg (.Call (.Name "range" p) [e, e2] [] pos) (some .range) [E, E2] := by
  intro w σ s ds s' xs rs ev yi R q
  simp only [Py.yields] at yi
  have hl := evs_len (Es := [E, E2]) (by simp [n', n2']) ev
  match ds, hl, yi, ev with
  | [d, d2], _, yi, ev =>
    obtain ⟨i, j, rfl, rfl, b1, rfl⟩ := itk_range2 yi
    refine WI.of (pi_range2 hg hm pa_self (by rw [starEach_not n, starEach_not n2]; rfl) (starEach_not n2 [] X.env)) ?_
    refine hs w σ s _ s' rs ev _ fun vs w1 st1 rs1 q1 r1 => ?_
    cases r1 with
    | cons r rr =>
      cases rr with
      | cons r' rr =>
        cases rr
        cases r
        cases r'
        exact ⟨_, _, rfl, b1, q _ w1 st1 rs1 (yl_range rfl)⟩
/-! ### enumerate, zip -/
theorem getElem_zipIdx {α : Type} (l : List α) (i : Nat) : l.zipIdx[i]? = (l[i]?).map fun x => (x, i) := by
  rw [List.getElem?_zipIdx]
  simp
theorem upd_pair {w : Wd} {σ : L2.St} {s : Py.St} {p : Addr} {vs : List V} {ds : List Py.D} (rs : RS T w σ s) (hp : w.H p = none) (r : Reps T w.G w.φ vs ds) : ∃ w', w'.H = upd w.H p (.tup vs) ∧ Stp w w' ∧ RS T w' σ s ∧ Rep T w'.G w'.φ (.ref p) (.tup ds) := rs.newT hp r
theorem yl_enum {K : PySem.W.Frag} (hK : T.K = K) {w : Wd} {k : Bool} {a : Addr} {xs : List V} {l : List Py.D} (q : Sq2 k T.K w.G a xs) (r : Reps T w.G w.φ xs l) :
    Yl T (ItN K k a) w ((l.zipIdx).map fun p => .tup [.int (p.2 : Int), p.1]) := by
  subst hK
  have hl := r.length
  refine ⟨fun i w1 la ok hi => ?_, fun w1 la ok => ?_, fun i w1 σ s v H' d la rs hd y => ?_⟩
  · rw [List.length_map, List.length_zipIdx] at hi
    obtain ⟨x, hx, _⟩ := r.get (List.getElem?_eq_getElem hi)
    exact ⟨xs, x, Sq2.now q la ok, hx⟩
  · refine ⟨xs, Sq2.now q la ok, ?_⟩
    rw [List.length_map, List.length_zipIdx, hl]
  · rw [List.getElem?_map, getElem_zipIdx] at hd
    cases hx : l[i]? with
    | none => rw [hx] at hd; cases hd
    | some u =>
      rw [hx] at hd
      cases hd
      obtain ⟨x, hx2, rx⟩ := r.get hx
      obtain ⟨p, x', rfl, hp, rfl, y2⟩ := y
      have := y2 xs (Sq2.now q la rs.toLabOk)
      rw [hx2] at this
      cases this
      exact rs.newT hp (.cons (.int _) (.cons (rx.mono la.g la.f) .nil))
theorem yl_zip {K : PySem.W.Frag} (hK : T.K = K) {w : Wd} {ka kb : Bool} {a b : Addr} {xs ys : List V} {l m : List Py.D} (q : Sq2 ka T.K w.G a xs) (r : Reps T w.G w.φ xs l) (q2 : Sq2 kb T.K w.G b ys) (r2 : Reps T w.G w.φ ys m) :
    Yl T (ItZ K ka kb a b) w ((l.zip m).map fun p => .tup [p.1, p.2]) := by
  subst hK
  have hl := r.length
  have hm := r2.length
  refine ⟨fun i w1 la ok hi => ?_, fun w1 la ok => ?_, fun i w1 σ s v H' d la rs hd y => ?_⟩
  · rw [List.length_map, List.length_zip] at hi
    obtain ⟨x, hx, _⟩ := r.get (List.getElem?_eq_getElem (show i < l.length by omega))
    obtain ⟨y, hy, _⟩ := r2.get (List.getElem?_eq_getElem (show i < m.length by omega))
    exact ⟨xs, ys, x, y, Sq2.now q la ok, Sq2.now q2 la ok, hx, hy⟩
  · refine ⟨xs, ys, Sq2.now q la ok, Sq2.now q2 la ok, ?_⟩
    rw [List.length_map, List.length_zip]
    omega
  · rw [List.getElem?_map] at hd
    cases hz : (l.zip m)[i]? with
    | none => rw [hz] at hd; cases hd
    | some u =>
      rw [hz] at hd
      cases hd
      obtain ⟨h1, h2⟩ := List.getElem?_zip_eq_some.mp hz
      obtain ⟨x, hx2, rx⟩ := r.get h1
      obtain ⟨z, hz2, rz⟩ := r2.get h2
      obtain ⟨p, x', z', rfl, hp, rfl, y2, y3⟩ := y
      have e1 := y2 xs (Sq2.now q la rs.toLabOk)
      have e2 := y3 ys (Sq2.now q2 la rs.toLabOk)
      rw [hx2] at e1
      rw [hz2] at e2
      cases e1
      cases e2
      exact rs.newT hp (.cons (rx.mono la.g la.f) (.cons (rz.mono la.g la.f) .nil))
theorem simI_enum (hK : T.K = X.K) {elts : List Expr} {kk : Nat} {tpos : Pos} {e : Expr} {E : Py.E} {p pos : Pos} (hg : Gl X "enumerate") (hm : X.mg "enumerate" = none) (n : notStar e = true) (n' : isStarE E = false) (hs : SimEs T c X [e] [E]) :
    SimI T c X (.Tuple elts kk tpos) (.Call (.Name "enumerate" p) [e] [] pos) (some .enum) [E] := by
  intro w σ s ds s' xs rs ev yi R q
  simp only [Py.yields] at yi
  have hl := evs_len (Es := [E]) (by simp [n']) ev
  match ds, hl, yi, ev with
  | [d], _, yi, ev =>
    simp only [Py.itk] at yi
    cases hd : Py.seqOf d with
    | none => rw [hd] at yi; cases yi
    | some l =>
      rw [hd] at yi
      simp only [Option.map_some, Option.some.injEq] at yi
      subst yi
      refine WI.of (pi_en hg hm pa_self (starEach_not n [] X.env)) ?_
      refine hs w σ s _ s' rs ev _ fun vs w1 st1 rs1 q1 r1 => ?_
      cases r1 with
      | cons r rr =>
        cases rr
        obtain ⟨a, k, us, rfl, hq, hr⟩ := r.seq hd
        refine ⟨k, a, us, rfl, ?_, q _ w1 st1 rs1 (yl_enum hK hq hr)⟩
        rw [← hK]
        exact Sq2.now hq (Lat.refl _) rs1.toLabOk
theorem simI_zip (hK : T.K = X.K) {tg : Expr} (ht : okTg tg) {e e2 : Expr} {E E2 : Py.E} {p pos : Pos} (hg : Gl X "zip") (hm : X.mg "zip" = none) (n : notStar e = true) (n2 : notStar e2 = true) (n' : isStarE E = false) (n2' : isStarE E2 = false) (hs : SimEs T c X [e, e2] [E, E2]) :
    SimI T c X tg (.Call (.Name "zip" p) [e, e2] [] pos) (some .zip) [E, E2] := by
  intro w σ s ds s' xs rs ev yi R q
  simp only [Py.yields] at yi
  have hl := evs_len (Es := [E, E2]) (by simp [n', n2']) ev
  match ds, hl, yi, ev with
  | [d, d2], _, yi, ev =>
    simp only [Py.itk] at yi
    cases hd : Py.seqOf d with
    | none => rw [hd] at yi; cases yi
    | some l =>
      cases hd2 : Py.seqOf d2 with
      | none => rw [hd, hd2] at yi; cases yi
      | some m =>
        rw [hd, hd2] at yi
        simp only [Option.bind_some, Option.map_some, Option.some.injEq] at yi
        subst yi
        refine WI.of (pi_zg ht hg hm pa_self (starEach_not n [e2] X.env) (by rw [starEach_not n2]; rfl)) ?_
        refine hs w σ s _ s' rs ev _ fun vs w1 st1 rs1 q1 r1 => ?_
        cases r1 with
        | cons r rr =>
          cases rr with
          | cons r' rr =>
            cases rr
            obtain ⟨a, k, us, rfl, hq, hr⟩ := r.seq hd
            obtain ⟨a2, k2, us2, rfl, hq2, hr2⟩ := r'.seq hd2
            refine ⟨k, k2, a, a2, us, us2, rfl, ?_, ?_, q _ w1 st1 rs1 (yl_zip hK hq hr hq2 hr2)⟩
            · rw [← hK]
              exact Sq2.now hq (Lat.refl _) rs1.toLabOk
            · rw [← hK]
              exact Sq2.now hq2 (Lat.refl _) rs1.toLabOk
/-! ### *e in a display -/
theorem sims_star (hK : T.K = X.K) {e : Expr} {es : List Expr} {E : Py.E} {Es : List Py.E} {p : Pos} (h : SimE T c X e E) (hs : SimEs T c X es Es) : SimEs T c X (.Starred e p :: es) (.star E :: Es) := by
  intro w σ s ds s' rs ev Q q
  rw [Py.evs] at ev
  split at ev
  · rename_i o s1 e1
    split at ev
    · rename_i l e2
      split at ev
      · rename_i ds2 s2 e3
        simp only [Option.some.injEq, Prod.mk.injEq] at ev
        obtain ⟨rfl, rfl⟩ := ev
        refine WA.of (StX.pa_star pe_self pa_self) ?_
        refine h false w σ s o s1 rs e1 _ fun v w1 st1 rs1 q1 p1 => ?_
        obtain ⟨w2, h2, st2, rs2, r2, f2, g2, l2⟩ := p1.res.toD st1 rs1
        obtain ⟨a, k, us, rfl, hq, hr⟩ := r2.seq e2
        rw [← h2]
        have hq' := Sq2.now hq (Lat.refl _) rs2.toLabOk
        rw [hK] at hq'
        refine ⟨a, us, rfl, ?_, ?_⟩
        · cases k with
          | true => exact .inl hq'
          | false => exact .inr hq'
        refine hs w2 σ s1 ds2 s2 rs2 e3 _ fun vs w3 st3 rs3 q3 r3 => ?_
        exact q (us ++ vs) w3 (st2.trans st3) rs3 (fun qq => by
          have := (quiet_go_cons qq).1
          simp only [Py.E.quiet] at this
          cases this) ((hr.mono st3.g st3.f).append r3)
      · cases ev
    · cases ev
  · cases ev
end
end PyS
end

section
set_option Elab.async false
set_option linter.all false
set_option maxRecDepth 100000
set_option maxHeartbeats 2000000
/-! Z4: targets, comprehensions. -/
namespace PyS
open PySem L2
variable {T : Tb}
/-! ### targets -/
mutual
def gT (K : PySem.W.Frag) : Py.Tg → TG
  | .nm i => gName i
  | .tup l => gTup K l.length (gTs K l)
def gTs (K : PySem.W.Frag) : List Py.Tg → TGs
  | [] => gNil
  | t :: r => gCons (gT K t) (gTs K r)
end
/-- a name that may be stored here -/
def locC (sc : Scope) (fq : Str → Bool) (N : List Str) (x : Str) (i : Nat) : Bool :=
  decide (N[i]? = some x) && (match sc.names.lookup x with
    | some .local => true
    | some .cell => fq x
    | _ => false)
mutual
def tgC (sc : Scope) (fq : Str → Bool) (N : List Str) : Py.Tg → Expr → Bool
  | .nm i, .Name x _ => locC sc fq N x i
  | .tup l, .Tuple es _ _ => tgCs sc fq N l es
  | _, _ => false
def tgCs (sc : Scope) (fq : Str → Bool) (N : List Str) : List Py.Tg → List Expr → Bool
  | [], [] => true
  | t :: r, e :: es => tgC sc fq N t e && tgCs sc fq N r es
  | _, _ => false
end
theorem locC_ok {X : Cx} {i : Nat} {x : Str} (h : locC X.env.scope X.fn X.N x i = true) : X.N[i]? = some x ∧ Loc X.env.scope x ∧ (X.fn x = true ∨ X.env.scope.names.lookup x = some .local) := by
  unfold locC at h
  rw [Bool.and_eq_true, decide_eq_true_eq] at h
  obtain ⟨h1, h2⟩ := h
  split at h2
  · rename_i e
    exact ⟨h1, .inl e, .inr e⟩
  · rename_i e
    exact ⟨h1, .inr e, .inl h2⟩
  · cases h2
theorem tgC_shape {sc : Scope} {fq : Str → Bool} {N : List Str} : ∀ {t : Py.Tg} {e : Expr}, tgC sc fq N t e = true → okTg e
  | .nm i, e, h => by
    cases e with
    | Name x p => exact .inl ⟨x, p, rfl⟩
    | _ => simp [tgC] at h
  | .tup l, e, h => by
    cases e with
    | Tuple es k p => exact .inr ⟨es, k, p, rfl⟩
    | _ => simp [tgC] at h
theorem each_cons {e : Expr} (h : okTg e) (es : List Expr) (env : Env) : assignEach (e :: es) env = (false, assign e env) :: assignEach es env := by
  rcases h with ⟨y, p, rfl⟩ | ⟨l, k, p, rfl⟩ <;> rfl
theorem tgCs_each {sc : Scope} {fq : Str → Bool} {N : List Str} {env : Env} : ∀ {l : List Py.Tg} {es : List Expr}, tgCs sc fq N l es = true → (assignEach es env).length = l.length ∧ (assignEach es env).findIdx? (·.1) = none
  | [], [], _ => ⟨rfl, rfl⟩
  | t :: r, e :: es, h => by
    rw [tgCs, Bool.and_eq_true] at h
    obtain ⟨h1, h2⟩ := tgCs_each (env := env) h.2
    rw [each_cons (tgC_shape h.1)]
    refine ⟨by rw [List.length_cons, List.length_cons, h1], ?_⟩
    rw [List.findIdx?_cons, h2]
    rfl
  | [], _ :: _, h => by simp [tgCs] at h
  | _ :: _, [], h => by simp [tgCs] at h
mutual
theorem pg_tg {X : Cx} (hc : X.calm = true) (hN : X.N.Nodup) : ∀ {t : Py.Tg} {e : Expr}, tgC X.env.scope X.fn X.N t e = true → PG X e (gT X.K t)
  | .nm i, e, h => by
    cases e with
    | Name x p =>
      rw [tgC] at h
      obtain ⟨h1, h2, h3⟩ := locC_ok h
      exact pg_name hN h1 h2 h3
    | _ => simp [tgC] at h
  | .tup l, e, h => by
    cases e with
    | Tuple es k p =>
      rw [tgC] at h
      obtain ⟨h1, h2⟩ := tgCs_each (env := X.env) h
      exact pg_tup hc (pgs_tg hc hN h) h1 h2
    | _ => simp [tgC] at h
theorem pgs_tg {X : Cx} (hc : X.calm = true) (hN : X.N.Nodup) : ∀ {l : List Py.Tg} {es : List Expr}, tgCs X.env.scope X.fn X.N l es = true → PGs X es (gTs X.K l)
  | [], [], _ => pgs_nil
  | t :: r, e :: es, h => by
    rw [tgCs, Bool.and_eq_true] at h
    refine pgs_cons (pg_tg hc hN h.1) (pgs_tg hc hN h.2) ?_
    rw [each_cons (tgC_shape h.1)]
    rfl
  | [], _ :: _, h => by simp [tgCs] at h
  | _ :: _, [], h => by simp [tgCs] at h
end
/-- one name more -/
theorem RS.setD {w : Wd} {σ : L2.St} {s : Py.St} (rs : RS T w σ s) {v : V} {d : Py.D} (r : Rep T w.G w.φ v d) (i : Nat) : RS T w (σ.set i (some v)) { s with env := s.env.set i (some (.d d)) } := by
  refine ⟨rs.toLabOk, fun j u hu => ?_, rs.sto, rs.len, ?_⟩
  · by_cases hj : j = i
    · subst hj
      by_cases hl : j < s.env.length
      · rw [List.getElem?_set_self hl] at hu
        cases hu
        exact ⟨v, by rw [List.getElem?_set_self (by rw [← rs.el]; exact hl)], .d r⟩
      · rw [List.getElem?_eq_none (by rw [List.length_set]; omega)] at hu
        cases hu
    · rw [List.getElem?_set_ne (Ne.symm hj)] at hu
      obtain ⟨v', e1, e2⟩ := rs.env j u hu
      exact ⟨v', by rw [List.getElem?_set_ne (Ne.symm hj)]; exact e1, e2⟩
  · show (s.env.set i _).length = (σ.set i _).length
    rw [List.length_set, List.length_set]
    exact rs.el
theorem wipe_get {σ : L2.St} {i : Nat} : ∀ {vs : List Nat}, i ∈ vs → i < σ.length → (L2.wipe σ vs)[i]? = some none
  | v :: vs, h, hl => by
    unfold L2.wipe
    by_cases e : v = i
    · subst e
      rw [List.getElem?_set_self (by rw [L2.wipe_length]; exact hl)]
    · rw [List.getElem?_set_ne e]
      refine wipe_get ?_ hl
      rcases List.mem_cons.mp h with q | q
      · exact absurd q.symm e
      · exact q
theorem wipe_not {σ : L2.St} {i : Nat} : ∀ {vs : List Nat}, i ∉ vs → (L2.wipe σ vs)[i]? = σ[i]?
  | [], _ => rfl
  | v :: vs, h => by
    unfold L2.wipe
    rw [List.getElem?_set_ne (fun e => h (by rw [e]; exact List.mem_cons_self))]
    exact wipe_not fun q => h (List.mem_cons_of_mem _ q)
theorem wipe_set {σ : L2.St} {i : Nat} {x : Option V} {vs : List Nat} (h : i ∈ vs) : L2.wipe (σ.set i x) vs = L2.wipe σ vs := by
  apply List.ext_getElem?
  intro j
  by_cases hj : j ∈ vs
  · by_cases hl : j < σ.length
    · rw [wipe_get hj (by rw [List.length_set]; exact hl), wipe_get hj hl]
    · rw [List.getElem?_eq_none (by rw [L2.wipe_length, List.length_set]; omega), List.getElem?_eq_none (by rw [L2.wipe_length]; omega)]
  · rw [wipe_not hj, wipe_not hj, List.getElem?_set_ne (fun e => hj (by rw [← e]; exact h))]
theorem wipe_wipe {σ : L2.St} {vs : List Nat} : L2.wipe (L2.wipe σ vs) vs = L2.wipe σ vs := by
  apply List.ext_getElem?
  intro j
  by_cases hj : j ∈ vs
  · by_cases hl : j < σ.length
    · rw [wipe_get hj (by rw [L2.wipe_length]; exact hl), wipe_get hj hl]
    · rw [List.getElem?_eq_none (by rw [L2.wipe_length, L2.wipe_length]; omega), List.getElem?_eq_none (by rw [L2.wipe_length]; omega)]
  · rw [wipe_not hj]
theorem pw_length (env : List (Option Py.O)) : ∀ vs : List Nat, (Py.wipe env vs).length = env.length
  | [] => rfl
  | v :: vs => by unfold Py.wipe; rw [List.length_set, pw_length env vs]
theorem pw_get {env : List (Option Py.O)} {i : Nat} : ∀ {vs : List Nat}, i ∈ vs → i < env.length → (Py.wipe env vs)[i]? = some none
  | v :: vs, h, hl => by
    unfold Py.wipe
    by_cases e : v = i
    · subst e
      rw [List.getElem?_set_self (by rw [pw_length]; exact hl)]
    · rw [List.getElem?_set_ne e]
      refine pw_get ?_ hl
      rcases List.mem_cons.mp h with q | q
      · exact absurd q.symm e
      · exact q
theorem pw_not {env : List (Option Py.O)} {i : Nat} : ∀ {vs : List Nat}, i ∉ vs → (Py.wipe env vs)[i]? = env[i]?
  | [], _ => rfl
  | v :: vs, h => by
    unfold Py.wipe
    rw [List.getElem?_set_ne (fun e => h (by rw [e]; exact List.mem_cons_self))]
    exact pw_not fun q => h (List.mem_cons_of_mem _ q)
theorem pb_length (env old : List (Option Py.O)) : ∀ vs : List Nat, (Py.putBack env old vs).length = env.length
  | [] => rfl
  | v :: vs => by unfold Py.putBack; rw [List.length_set, pb_length env old vs]
theorem pb_get {env old : List (Option Py.O)} {i : Nat} : ∀ {vs : List Nat}, i ∈ vs → i < env.length → (Py.putBack env old vs)[i]? = some (Py.dOnly old i)
  | v :: vs, h, hl => by
    unfold Py.putBack
    by_cases e : v = i
    · subst e
      rw [List.getElem?_set_self (by rw [pb_length]; exact hl)]
    · rw [List.getElem?_set_ne e]
      refine pb_get ?_ hl
      rcases List.mem_cons.mp h with q | q
      · exact absurd q.symm e
      · exact q
theorem pb_not {env old : List (Option Py.O)} {i : Nat} : ∀ {vs : List Nat}, i ∉ vs → (Py.putBack env old vs)[i]? = env[i]?
  | [], _ => rfl
  | v :: vs, h => by
    unfold Py.putBack
    rw [List.getElem?_set_ne (fun e => h (by rw [e]; exact List.mem_cons_self))]
    exact pb_not fun q => h (List.mem_cons_of_mem _ q)
theorem RS.wipe {w : Wd} {σ : L2.St} {s : Py.St} (rs : RS T w σ s) (vs : List Nat) : RS T w (L2.wipe σ vs) { s with env := Py.wipe s.env vs } := by
  refine ⟨rs.toLabOk, fun j u hu => ?_, rs.sto, rs.len, ?_⟩
  · by_cases hj : j ∈ vs
    · by_cases hl : j < s.env.length
      · have := pw_get hj hl
        rw [show (Py.wipe s.env vs)[j]? = some (some u) from hu] at this
        cases this
      · have : (Py.wipe s.env vs)[j]? = none := List.getElem?_eq_none (by rw [pw_length]; omega)
        rw [show (Py.wipe s.env vs)[j]? = some (some u) from hu] at this
        cases this
    · rw [show (Py.wipe s.env vs)[j]? = s.env[j]? from pw_not hj] at hu
      obtain ⟨v', e1, e2⟩ := rs.env j u hu
      exact ⟨v', by rw [wipe_not hj]; exact e1, e2⟩
  · show (Py.wipe s.env vs).length = (L2.wipe σ vs).length
    rw [pw_length, L2.wipe_length]
    exact rs.el
/-- the names come back -/
theorem RS.unwipe {w w' : Wd} {σ : L2.St} {s s' : Py.St} {vs : List Nat} (rs : RS T w σ s) (l : Lat w w') (rs' : RS T w' (L2.wipe σ vs) { s' with env := Py.wipe s'.env vs }) : RS T w' σ { s' with env := Py.putBack s'.env s.env vs } := by
  have hl : s'.env.length = σ.length := by
    have := rs'.el
    rw [L2.wipe_length] at this
    exact (pw_length s'.env vs).symm.trans this
  refine ⟨rs'.toLabOk, fun j u hu => ?_, rs'.sto, rs'.len, (pb_length _ _ _).trans hl⟩
  by_cases hj : j ∈ vs
  · by_cases hb : j < s'.env.length
    · rw [show (Py.putBack s'.env s.env vs)[j]? = _ from pb_get hj hb] at hu
      have hu := Option.some.inj hu
      unfold Py.dOnly at hu
      split at hu
      · rename_i x e
        cases hu
        obtain ⟨v, e1, e2⟩ := rs.env j _ e
        cases e2 with
        | d e2 => exact ⟨v, e1, .d (e2.mono l.g l.f)⟩
      · cases hu
    · have : (Py.putBack s'.env s.env vs)[j]? = none := List.getElem?_eq_none (by rw [pb_length]; omega)
      rw [show (Py.putBack s'.env s.env vs)[j]? = some (some u) from hu] at this
      cases this
  · rw [show (Py.putBack s'.env s.env vs)[j]? = _ from pb_not hj] at hu
    obtain ⟨v, e1, e2⟩ := rs'.env j u (by rw [show (Py.wipe s'.env vs)[j]? = _ from pw_not hj]; exact hu)
    rw [wipe_not hj] at e1
    exact ⟨v, e1, e2⟩
mutual
theorem bind_tg {K : PySem.W.Frag} {w : Wd} {s : Py.St} : ∀ {t : Py.Tg} {σ : L2.St} {env env' : List (Option Py.O)} {v : V} {d : Py.D}, RS T w σ { s with env := env } → Rep T w.G w.φ v d → Py.bindT t d env = some env' →
    ∀ Q : L2.St → Hp → Prop, (∀ σ', RS T w σ' { s with env := env' } → (∀ vs, (∀ i ∈ t.slots, i ∈ vs) → L2.wipe σ' vs = L2.wipe σ vs) → Q σ' w.H) → gT K t v σ w.H Q
  | .nm i, σ, env, env', v, d, rs, r, e, Q, q => by
    rw [Py.bindT] at e
    cases e
    exact q _ (rs.setD r i) fun vs h => wipe_set (h i (by simp [Py.Tg.slots]))
  | .tup l, σ, env, env', v, d, rs, r, e, Q, q => by
    cases d with
    | tup xs =>
      rw [Py.bindT] at e
      cases r with
      | tup a b =>
        refine ⟨_, _, rfl, .inl (.inl (rs.gh _ _ a)), ?_, ?_⟩
        · rw [b.length]
          exact binds_len e
        · refine binds_tg rs b e Q fun σ' rs' h => q σ' rs' fun vs hv => h vs fun i hi => hv i ?_
          rw [Py.Tg.slots]
          exact hi
    | _ => rw [Py.bindT] at e <;> first | cases e | (intros; simp_all)
theorem binds_tg {K : PySem.W.Frag} {w : Wd} {s : Py.St} : ∀ {l : List Py.Tg} {σ : L2.St} {env env' : List (Option Py.O)} {vl : List V} {ds : List Py.D}, RS T w σ { s with env := env } → Reps T w.G w.φ vl ds → Py.bindT.go l ds env = some env' →
    ∀ Q : L2.St → Hp → Prop, (∀ σ', RS T w σ' { s with env := env' } → (∀ vs, (∀ i ∈ Py.Tg.slots.go l, i ∈ vs) → L2.wipe σ' vs = L2.wipe σ vs) → Q σ' w.H) → gTs K l vl σ w.H Q
  | [], σ, env, env', _, _, rs, .nil, e, Q, q => by
    rw [Py.bindT.go] at e
    cases e
    exact ⟨rfl, q _ rs fun _ _ => rfl⟩
  | t :: ts, σ, env, env', _, _, rs, .cons r1 r2, e, Q, q => by
    rw [Py.bindT.go] at e
    cases h : Py.bindT t _ env with
    | none => rw [h] at e; cases e
    | some env2 =>
      rw [h] at e
      refine ⟨_, _, rfl, bind_tg rs r1 h _ fun σ2 rs2 w2 => binds_tg rs2 r2 e _ fun σ3 rs3 w3 => q σ3 rs3 fun vs hv => ?_⟩
      rw [w3 vs fun i hi => hv i (by rw [Py.Tg.slots.go]; exact List.mem_append_right _ hi), w2 vs fun i hi => hv i (by rw [Py.Tg.slots.go]; exact List.mem_append_left _ hi)]
  | [], _, _, _, _, _, _, .cons _ _, e, _, _ => by rw [Py.bindT.go] at e <;> first | cases e | (intros; simp_all)
  | _ :: _, _, _, _, _, _, _, .nil, e, _, _ => by rw [Py.bindT.go] at e <;> first | cases e | (intros; simp_all)
theorem binds_len : ∀ {l : List Py.Tg} {ds : List Py.D} {env env' : List (Option Py.O)}, Py.bindT.go l ds env = some env' → ds.length = l.length
  | [], [], _, _, _ => rfl
  | t :: ts, d :: ds, env, env', e => by
    rw [Py.bindT.go] at e
    cases h : Py.bindT t d env with
    | none => rw [h] at e; cases e
    | some env2 =>
      rw [h] at e
      rw [List.length_cons, List.length_cons, binds_len e]
  | [], _ :: _, _, _, e => by rw [Py.bindT.go] at e <;> first | cases e | (intros; simp_all)
  | _ :: _, [], _, _, e => by rw [Py.bindT.go] at e <;> first | cases e | (intros; simp_all)
end
end PyS
end

section
set_option Elab.async false
set_option linter.all false
set_option maxRecDepth 100000
set_option maxHeartbeats 2000000
/-! Z5: comprehensions. -/
namespace PyS
open PySem L2
variable {T : Tb}
theorem RS.updH {w : Wd} {σ : L2.St} {s : Py.St} (rs : RS T w σ s) {D : Addr} {o : HO} (hl : w.lab D = none) (hg : w.G D = none) : RS T { w with H := upd w.H D o } σ s := by
  have hne : ∀ a r, w.lab a = some r → a ≠ D := fun a r h e => by rw [e, hl] at h; cases h
  have mv : ∀ r, Moves w { w with H := upd w.H D o } r r := fun r => ⟨GLe.refl _, PLe.refl _, fun a π q => ⟨q, fun u hu => by
    show upd w.H D o a = some u
    rw [upd_ne (hne a _ q)]
    exact hu⟩⟩
  refine ⟨⟨fun a u h => ?_, fun a r h => ⟨(rs.lg a r h).1, ?_⟩⟩, fun i u h => ?_, fun n u h => ?_, rs.len, rs.el⟩
  · show upd w.H D o a = some u
    rw [upd_ne (fun e => by rw [e, hg] at h; cases h)]
    exact rs.gh a u h
  · show upd w.H D o a ≠ none
    rw [upd_ne (hne a r h)]
    exact (rs.lg a r h).2
  · obtain ⟨v, e1, e2⟩ := rs.env i u h
    exact ⟨v, e1, e2.move (mv _)⟩
  · obtain ⟨v, e1, e2⟩ := rs.sto n u h
    exact ⟨v, e1, e2.move (mv _)⟩
theorem Stp.updN {w w' : Wd} (st : Stp w w') {D : Addr} {o : HO} (h0 : w.H D = none) : Stp w { w' with H := upd w'.H D o } := by
  refine ⟨st.g, st.f, fun a u h l => ?_, fun a h => ?_⟩
  · obtain ⟨h1, h2, h3⟩ := st.h a u h l
    refine ⟨?_, h2, h3⟩
    show upd w'.H D o a = some u
    rw [upd_ne (ne_of_none h h0)]
    exact h1
  · show upd w'.H D o a ≠ none
    by_cases e : a = D
    · rw [e, upd_same]
      exact fun z => nomatch z
    · rw [upd_ne e]
      exact st.t a h
theorem Res.list {w0 w : Wd} {D : Addr} {xs : List V} {ds : List Py.D} (hl : w.lab D = none) (hg : w.G D = none) (hH : w.H D = some (.lst xs)) (h0 : w0.H D = none) (r : Reps T w.G w.φ xs ds) : Res T w0 w (.ref D) (.lst (ds.map .d)) := by
  refine ⟨fun a => if a = D then some (.tmp, []) else none, fun a x e => ?_, .lst (by simp) hH (Reps.os (w := { w with lab := fun a => if a = D then some (.tmp, []) else none }) r)⟩
  replace e : (if a = D then some (Root.tmp, ([] : List Nat)) else none) = some x := e
  by_cases q : a = D
  · rw [if_pos q] at e
    subst q
    cases e
    exact ⟨rfl, hl, hg, (by rw [hH]; exact fun z => nomatch z), .inl h0⟩
  · rw [if_neg q] at e
    cases e
theorem lcLoop_len {f : Py.D → Py.St → Option (Option Py.D × Py.St)} : ∀ {xs acc : List Py.D} {s : Py.St} {ys : List Py.D} {s' : Py.St}, Py.lcLoop f xs acc s = some (ys, s') → acc.length ≤ ys.length
  | [], acc, s, ys, s', h => by
    simp only [Py.lcLoop, Option.some.injEq, Prod.mk.injEq] at h
    rw [← h.1, List.length_reverse]
    exact Nat.le_refl _
  | x :: xs, acc, s, ys, s', h => by
    rw [Py.lcLoop] at h
    split at h
    · cases h
    · exact lcLoop_len h
    · have := lcLoop_len h
      rw [List.length_cons] at this
      omega
/-- the block's contexts -/
abbrev Blk (X : Cx) (scope : Scope) (P : Cx → Prop) : Prop := ∀ (s : Shared) (H : Hp) (C : Addr) (cl : List (Str × Addr)) (fp : List Addr), P (X.blk s H scope (compEnvC scope cl C X.env) fp)
section
variable {c : Py.Cx} {X : Cx}
def WEb (X : Cx) (scope : Scope) (e : Expr) : TE := fun σ H Q => Blk X scope fun B => WE B e σ H Q
def WTb (X : Cx) (scope : Scope) (e : Expr) : TT := fun σ H Q => Blk X scope fun B => WT B e σ H Q
theorem peb {scope : Scope} {e : Expr} (s : Shared) (H : Hp) (C : Addr) (cl : List (Str × Addr)) (fp : List Addr) : PE (X.blk s H scope (compEnvC scope cl C X.env) fp) e (WEb X scope e) :=
  ⟨fun pins s' σ H' Q I h => h s H C cl fp pins s' I⟩
theorem ptb {scope : Scope} {e : Expr} (s : Shared) (H : Hp) (C : Addr) (cl : List (Str × Addr)) (fp : List Addr) : PT (X.blk s H scope (compEnvC scope cl C X.env) fp) e (WTb X scope e) :=
  ⟨fun pins s' σ H' Q I h => h s H C cl fp pins s' I⟩
/-- none or one test -/
inductive SimTs (T : Tb) (c : Py.Cx) (X : Cx) (scope : Scope) : List Expr → List Py.E → TT → Prop
  | nil : SimTs T c X scope [] [] tYes
  | one {e : Expr} {E : Py.E} : Blk X scope (fun B => SimT T c B e E) → SimTs T c X scope [e] [E] (WTb X scope e)
theorem SimTs.run {scope : Scope} {es : List Expr} {Es : List Py.E} {tt : TT} (h : SimTs T c X scope es Es tt) {w : Wd} {σ : L2.St} {s : Py.St} {b : Bool} {s' : Py.St} (rs : RS T w σ s) (ev : Py.evT c Es s = some (b, s'))
    {Q : Bool → Hp → Prop} (q : ∀ w', Stp w w' → RS T w' σ s' → Q b w'.H) : tt σ w.H Q := by
  cases h with
  | nil =>
    simp only [Py.evT, Option.some.injEq, Prod.mk.injEq] at ev
    obtain ⟨rfl, rfl⟩ := ev
    exact q w (Stp.refl _) rs
  | one h =>
    intro s0 H0 C cl fp
    rw [Py.evT] at ev
    split at ev
    · rename_i s1 e1
      simp only [Py.evT, Option.some.injEq, Prod.mk.injEq] at ev
      obtain ⟨rfl, rfl⟩ := ev
      exact h s0 H0 C cl fp w σ s true _ rs e1 _ fun w1 st1 rs1 _ => q w1 st1 rs1
    · rename_i s1 e1
      simp only [Option.some.injEq, Prod.mk.injEq] at ev
      obtain ⟨rfl, rfl⟩ := ev
      exact h s0 H0 C cl fp w σ s false _ rs e1 _ fun w1 st1 rs1 _ => q w1 st1 rs1
    · cases ev
theorem SimTs.pts {scope : Scope} {es : List Expr} {Es : List Py.E} {tt : TT} (h : SimTs T c X scope es Es tt) : ∀ (s : Shared) (H : Hp) (C : Addr) (cl : List (Str × Addr)) (fp : List Addr), PTs (X.blk s H scope (compEnvC scope cl C X.env) fp) es tt := by
  intro s H C cl fp
  cases h with
  | nil => exact pts_nil
  | one h => exact pts_one (ptb s H C cl fp)
/-- what a comprehension asks for -/
structure LcOk (T : Tb) (c : Py.Cx) (X : Cx) (elt tg iter : Expr) (ifs : List Expr) (scope : Scope) (own : List (Str × Nat)) (t : Py.Tg) (k : Option Py.Itk) (Es Cs : List Py.E) (El : Py.E) (tt : TT) : Prop where
  calm : X.calm = true
  nd : X.N.Nodup
  it : SimI T c X tg iter k Es
  blk : BlkOk X.N X.env.scope scope own
  own : own.map (·.2) = t.slots
  tg : Blk X scope fun B => tgC B.env.scope B.fn B.N t tg = true
  ts : SimTs T c X scope ifs Cs tt
  el : Blk X scope fun B => SimE T c B elt El
  fold : ∀ x, foldedSetIterable iter X.env x = pure x
/-- what it does -/
theorem lc_walk {elt tg iter : Expr} {ifs : List Expr} {scope : Scope} {own : List (Str × Nat)} {t : Py.Tg} {k : Option Py.Itk} {Es Cs : List Py.E} {El : Py.E} {tt : TT} (L : LcOk T c X elt tg iter ifs scope own t k Es Cs El tt)
    {m : Bool} {w : Wd} {σ : L2.St} {s : Py.St} {o : Py.O} {s' : Py.St} (rs : RS T w σ s) (ev : Py.ev c m (.lc t k Es Cs El) s = some (o, s')) {Q : VK} (q : ∀ v w', Stp w w' → RS T w' σ s' → Res T w w' v o → Q v w'.H) :
    tLc (WI X tg iter) (gT X.K t) tt (WEb X scope elt) (own.map (·.2)) σ w.H Q := by
  rw [L.own]
  obtain ⟨vs, hvs⟩ : ∃ vs, t.slots = vs := ⟨_, rfl⟩
  rw [hvs]
  simp only [Py.ev, hvs] at ev
  split at ev
  · rename_i ds s1 e1
    split at ev
    · rename_i xs e2
      split at ev
      · rename_i ys s2 e3
        split at ev
        · rename_i hlen
          simp only [Option.some.injEq, Prod.mk.injEq] at ev
          obtain ⟨rfl, rfl⟩ := ev
          refine L.it w σ s ds s1 xs rs e1 e2 _ fun J w1 st1 rs1 yl => fun D hD => ?_
          generalize hf : (fun (x : Py.D) (s : Py.St) => match Py.bindT t x (Py.wipe s.env vs) with
            | some env => match Py.evT c Cs { s with env := env } with
              | some (true, s2) => match Py.ev c false El s2 with
                | some (o, s3) => some (some o.toD, s3)
                | none => none
              | some (false, s2) => some (none, s2)
              | none => none
            | none => none) = f at e3
          have hD0 : w.H D = none := by
            cases z : w.H D with
            | none => rfl
            | some u => exact absurd hD (st1.t D (by rw [z]; exact fun y => nomatch y))
          have hDl : w1.lab D = none := by
            cases z : w1.lab D with
            | none => rfl
            | some r => exact absurd hD (rs1.lg D r z).2
          have hDg : w1.G D = none := by
            cases z : w1.G D with
            | none => rfl
            | some u => rw [rs1.gh D u z] at hD; cases hD
          let Iv : Nat → Hp → Prop := fun i H => ∃ (w' : Wd) (s' : Py.St) (acc : List V) (accd : List Py.D), w'.H = H ∧ Stp w1 w' ∧ RS T w' (L2.wipe σ vs) { s' with env := Py.wipe s'.env vs } ∧
            w'.H D = some (.lst acc) ∧ w'.lab D = none ∧ w'.G D = none ∧ Reps T w'.G w'.φ acc accd.reverse ∧ Py.lcLoop f (xs.drop i) accd s' = some (ys, s2)
          obtain ⟨a1, a2⟩ := rs1.alloc hD (.lst [])
          have i0 : Iv 0 (upd w1.H D (.lst [])) := ⟨_, s1, [], [], rfl, a1, a2.wipe vs, upd_same, hDl, hDg, .nil, e3⟩
          refine ⟨fun i n H => n = xs.length - i ∧ i ≤ xs.length ∧ Iv i H, ⟨_, rfl, Nat.zero_le _, i0⟩, ?_⟩
          rintro i n H ⟨rfl, hi, w2, s3, acc, accd, rfl, st2, rs2, hH2, hl2, hg2, r2, lp⟩
          by_cases hlt : i < xs.length
          · refine .inr ⟨yl.go i w2 st2.lat rs2.toLabOk hlt, Iv (i + 1), fun H' p => ⟨xs.length - (i + 1), by omega, rfl, hlt, p⟩, fun x H' y => ?_⟩
            have hd : xs[i]? = some xs[i] := List.getElem?_eq_getElem hlt
            obtain ⟨w3, rfl, st3, rs3, rx⟩ := yl.yld i w2 _ _ x H' _ st2.lat rs2 hd y
            rw [List.drop_eq_getElem_cons hlt, Py.lcLoop] at lp
            have hf' := hf
            -- D through a step
            have keepD : ∀ {wa wb : Wd}, Stp wa wb → wa.H D = some (.lst acc) → wa.lab D = none → wa.G D = none → wb.H D = some (.lst acc) ∧ wb.lab D = none ∧ wb.G D = none := fun {wa wb} st h l g => by
              obtain ⟨h1, h2, h3⟩ := st.h D _ h l
              exact ⟨h1, h2, h3.trans g⟩
            obtain ⟨hH3, hl3, hg3⟩ := keepD st3 hH2 hl2 hg2
            cases hfx : f xs[i] s3 with
            | none => rw [hfx] at lp; cases lp
            | some r =>
              rw [hfx] at lp
              rw [← hf] at hfx
              simp only at hfx
              cases hb : Py.bindT t xs[i] (Py.wipe s3.env vs) with
              | none => rw [hb] at hfx; cases hfx
              | some env =>
                rw [hb] at hfx
                simp only at hfx
                refine bind_tg (s := s3) rs3 rx hb _ fun σ2 rs4 hw2 => ?_
                have hws : L2.wipe σ2 vs = L2.wipe σ vs := (hw2 vs (by rw [hvs]; exact fun _ h => h)).trans wipe_wipe
                refine ⟨hws, ?_⟩
                cases ht : Py.evT c Cs { s3 with env := env } with
                | none => rw [ht] at hfx; cases hfx
                | some p =>
                  obtain ⟨b, s4⟩ := p
                  rw [ht] at hfx
                  refine L.ts.run rs4 ht fun w4 st4 rs5 => ?_
                  obtain ⟨hH4, hl4, hg4⟩ := keepD st4 hH3 hl3 hg3
                  have st24 : Stp w1 w4 := (st2.trans st3).trans st4
                  have r4 : Reps T w4.G w4.φ acc accd.reverse := r2.mono (st3.g.trans st4.g) (st3.f.trans st4.f)
                  cases b with
                  | false =>
                    simp only at hfx
                    cases hfx
                    simp only [Bool.false_eq_true, if_false]
                    refine ⟨w4, s4, acc, accd, rfl, st24, ?_, hH4, hl4, hg4, r4, lp⟩
                    rw [← hws]
                    exact rs5.wipe vs
                  | true =>
                    simp only at hfx
                    simp only [if_true]
                    cases he : Py.ev c false El s4 with
                    | none => rw [he] at hfx; cases hfx
                    | some p =>
                      obtain ⟨o, s5⟩ := p
                      rw [he] at hfx
                      cases hfx
                      intro s0 H0 C cl fp
                      refine L.el s0 H0 C cl fp false w4 σ2 s4 o _ rs5 he _ fun v w5 st5 rs6 q5 p5 => ?_
                      obtain ⟨w6, h6, st6, rs7, r7, f7, g7, l7⟩ := p5.res.toD st5 rs6
                      obtain ⟨hH6, hl6, hg6⟩ := keepD st6 hH4 hl4 hg4
                      have hz : acc.length < sizeLine := by
                        have h1 := lcLoop_len lp
                        have h2 := lenOk_le hlen
                        rw [List.length_cons] at h1
                        have h3 := r2.length
                        rw [List.length_reverse] at h3
                        omega
                      refine ⟨acc, by rw [← h6]; exact hH6, hz, ?_⟩
                      refine ⟨{ w6 with H := upd w6.H D (.lst (acc ++ [v])) }, _, acc ++ [v], o.toD :: accd, by rw [← h6], (st24.trans st6).updN hD, ?_, upd_same, hl6, hg6, ?_, lp⟩
                      · rw [← hws]
                        exact (rs7.updH hl6 hg6).wipe vs
                      · rw [List.reverse_cons]
                        exact (r4.mono st6.g st6.f).append (.cons r7 .nil)
          · have hi' : i = xs.length := by omega
            subst hi'
            refine .inl ⟨yl.stop w2 st2.lat rs2.toLabOk, ?_⟩
            rw [List.drop_length, Py.lcLoop] at lp
            simp only [Option.some.injEq, Prod.mk.injEq] at lp
            obtain ⟨rfl, rfl⟩ := lp
            exact q _ w2 (st1.trans st2) (rs1.unwipe st2.lat rs2) (Res.list hl2 hg2 hH2 hD0 r2)
        · cases ev
      · cases ev
    · cases ev
  · cases ev
theorem sim_lc {elt tg iter : Expr} {ifs : List Expr} {scope : Scope} {own : List (Str × Nat)} {t : Py.Tg} {k : Option Py.Itk} {Es Cs : List Py.E} {El : Py.E} {tt : TT} {pos : Pos} (L : LcOk T c X elt tg iter ifs scope own t k Es Cs El tt) :
    SimE T c X (.ListComp elt [⟨tg, iter, ifs, 0⟩] scope pos) (.lc t k Es Cs El) := by
  intro m w σ s o s' rs ev Q q
  refine WE.of (pe_lc (g := gT X.K t) L.calm L.nd pi_self L.blk (fun s H C cl fp => pg_tg (X := X.blk s H scope (compEnvC scope cl C X.env) fp) L.calm L.nd (L.tg s H C cl fp)) L.ts.pts peb L.fold) ?_
  exact lc_walk L rs ev fun v w' st rs' r => q v w' st rs' (fun qq => by simp only [Py.E.quiet] at qq; cases qq) (PO.of r)
end
end PyS
end

section
set_option Elab.async false
set_option linter.all false
set_option maxRecDepth 100000
set_option maxHeartbeats 2000000
/-! Z6: statements. -/
namespace PyS
open PySem L2
variable {T : Tb}
def WS (X : Cx) (st : Stmt) : TS := fun D σ H => ∀ (pins : List (Addr × Obj)) (s : Shared), Inv X pins σ H s → wpAny (model X.prog X.w) X.A (exec st X.env) (SP X pins D) X.xe s
theorem ps_self {X : Cx} {st : Stmt} : PS X st (WS X st) := ⟨fun pins s σ H D I h => h pins s I⟩
theorem WS.of {X : Cx} {st : Stmt} {t : TS} (p : PS X st t) {D : Ends} {σ : L2.St} {H : Hp} (h : t D σ H) : WS X st D σ H := fun pins s I => p.run pins s σ H D I h
def WB (X : Cx) (st : List Stmt) : TS := fun D σ H => ∀ (pins : List (Addr × Obj)) (s : Shared), Inv X pins σ H s → wpAny (model X.prog X.w) X.A (execs st X.env) (SP X pins D) X.xe s
theorem pb_self {X : Cx} {st : List Stmt} : PSs X st (WB X st) := ⟨fun pins s σ H D I h => h pins s I⟩
theorem WB.of {X : Cx} {st : List Stmt} {t : TS} (p : PSs X st t) {D : Ends} {σ : L2.St} {H : Hp} (h : t D σ H) : WB X st D σ H := fun pins s I => p.run pins s σ H D I h
def EndOk (T : Tb) (w w' : Wd) (σ' : L2.St) (D : Ends) : Py.Out → Prop
  | .nx => D.nx σ' w'.H
  | .cont => D.ct σ' w'.H
  | .brk => D.bk σ' w'.H
  | .ret o => ∀ v, Res T w w' v o → D.rt v w'.H
  | .exc _ => True
/-- every end is met -/
def EndsAt (T : Tb) (w : Wd) (D : Ends) (W : WX) (out : Py.Out) (s' : Py.St) : Prop := ∀ (w' : Wd) (σ' : L2.St), Stp w w' → RS T w' σ' s' → match out with
  | .nx => D.nx σ' w'.H
  | .cont => D.ct σ' w'.H
  | .brk => D.bk σ' w'.H
  | .ret o => ∀ v, Res T w w' v o → D.rt v w'.H
  | .exc q => ∀ C, T.xc q = some C → W (.ref C) none σ' w'.H
def SimS (T : Tb) (c : Py.Cx) (X : Cx) (st : Stmt) (S : Py.S) : Prop :=
  ∀ (w : Wd) (σ : L2.St) (s : Py.St) (out : Py.Out) (s' : Py.St), RS T w σ s → Py.ex c S s = some (out, s') → ∀ (D : Ends) (W : WX), Takes X W → EndsAt T w D W out s' → WS X st D σ w.H
def SimB (T : Tb) (c : Py.Cx) (X : Cx) (st : List Stmt) (S : List Py.S) : Prop :=
  ∀ (w : Wd) (σ : L2.St) (s : Py.St) (out : Py.Out) (s' : Py.St), RS T w σ s → Py.exs c S s = some (out, s') → ∀ (D : Ends) (W : WX), Takes X W → EndsAt T w D W out s' → WB X st D σ w.H
theorem EndsAt.later {w w1 : Wd} {D : Ends} {W : WX} {out : Py.Out} {s' : Py.St} (h : EndsAt T w D W out s') (st : Stp w w1) : EndsAt T w1 D W out s' := by
  intro w' σ' st' rs'
  have := h w' σ' (st.trans st') rs'
  cases out with
  | nx => exact this
  | cont => exact this
  | brk => exact this
  | ret o => exact fun v r => this v (r.from st)
  | exc q => exact this
section
variable {c : Py.Cx} {X : Cx}
theorem simB_nil : SimB T c X [] [] := by
  intro w σ s out s' rs ev D W tk d
  simp only [Py.exs, Option.some.injEq, Prod.mk.injEq] at ev
  obtain ⟨rfl, rfl⟩ := ev
  exact WB.of pss_nil (d w σ (Stp.refl _) rs)
theorem simB_cons {st : Stmt} {sts : List Stmt} {S : Py.S} {Ss : List Py.S} (h : SimS T c X st S) (hs : SimB T c X sts Ss) : SimB T c X (st :: sts) (S :: Ss) := by
  intro w σ s out s' rs ev D W tk d
  refine WB.of (pss_cons ps_self pb_self) ?_
  rw [Py.exs] at ev
  split at ev
  · rename_i s1 e1
    refine h w σ s .nx s1 rs e1 _ W tk fun w1 σ1 st1 rs1 => ?_
    exact hs w1 σ1 s1 out s' rs1 ev D W tk (d.later st1)
  · rename_i o s1 hn e1
    simp only [Option.some.injEq, Prod.mk.injEq] at ev
    obtain ⟨rfl, rfl⟩ := ev
    refine h w σ s o s1 rs e1 _ W tk fun w1 σ1 st1 rs1 => ?_
    have := d w1 σ1 st1 rs1
    cases o with
    | nx => exact (hn rfl).elim
    | cont => exact this
    | brk => exact this
    | ret o => exact this
    | exc q => exact this
  · cases ev
/-- a docstring -/
theorem simS_doc {x : Str} {j : Nat} {p p' : Pos} : SimS T c X (.Expr (.Constant (.str x) j p) p') .pass := by
  intro w σ s out s' rs ev D W tk d
  simp only [Py.ex, Option.some.injEq, Prod.mk.injEq] at ev
  obtain ⟨rfl, rfl⟩ := ev
  exact WS.of ps_doc (d w σ (Stp.refl _) rs)
theorem simS_pass {p : Pos} : SimS T c X (.Pass p) .pass := by
  intro w σ s out s' rs ev D W tk d
  simp only [Py.ex, Option.some.injEq, Prod.mk.injEq] at ev
  obtain ⟨rfl, rfl⟩ := ev
  exact WS.of ps_pass (d w σ (Stp.refl _) rs)
theorem simS_brk {p : Pos} : SimS T c X (.Break p) .brk := by
  intro w σ s out s' rs ev D W tk d
  simp only [Py.ex, Option.some.injEq, Prod.mk.injEq] at ev
  obtain ⟨rfl, rfl⟩ := ev
  exact WS.of ps_break (d w σ (Stp.refl _) rs)
theorem simS_cont {p : Pos} : SimS T c X (.Continue p) .cont := by
  intro w σ s out s' rs ev D W tk d
  simp only [Py.ex, Option.some.injEq, Prod.mk.injEq] at ev
  obtain ⟨rfl, rfl⟩ := ev
  exact WS.of ps_continue (d w σ (Stp.refl _) rs)
theorem simS_ex {e : Expr} {E : Py.E} {p : Pos} (hs : swapsWith e none p.line X.env = pure false) (h : SimE T c X e E) : SimS T c X (.Expr e p) (.ex E) := by
  intro w σ s out s' rs ev D W tk d
  simp only [Py.ex] at ev
  split at ev
  · rename_i o s1 e1
    simp only [Option.some.injEq, Prod.mk.injEq] at ev
    obtain ⟨rfl, rfl⟩ := ev
    refine WS.of (ps_expr pe_self hs) ?_
    exact h false w σ s o s1 rs e1 _ fun v w1 st1 rs1 _ _ => d w1 σ st1 rs1
  · cases ev
theorem simS_ret {e : Expr} {E : Py.E} {p : Pos} (h : SimE T c X e E) : SimS T c X (.Return (some e) p) (.ret E) := by
  intro w σ s out s' rs ev D W tk d
  simp only [Py.ex] at ev
  split at ev
  · rename_i o s1 e1
    simp only [Option.some.injEq, Prod.mk.injEq] at ev
    obtain ⟨rfl, rfl⟩ := ev
    refine WS.of (ps_ret pe_self) ?_
    exact h false w σ s o s1 rs e1 _ fun v w1 st1 rs1 _ r => d w1 σ st1 rs1 v r.res
  · cases ev
theorem simS_if {e : Expr} {E : Py.E} {a b : List Stmt} {A B : List Py.S} {p : Pos} (h : SimT T c X e E) (ha : SimB T c X a A) (hb : SimB T c X b B) : SimS T c X (.If e a b p) (.ite E A B) := by
  intro w σ s out s' rs ev D W tk d
  simp only [Py.ex] at ev
  refine WS.of (ps_if pt_self pb_self pb_self) ?_
  split at ev
  · rename_i s1 e1
    refine h w σ s true s1 rs e1 _ fun w1 st1 rs1 _ => ?_
    rw [if_pos rfl]
    exact ha w1 σ s1 out s' rs1 ev D W tk (d.later st1)
  · rename_i s1 e1
    refine h w σ s false s1 rs e1 _ fun w1 st1 rs1 _ => ?_
    rw [if_neg Bool.false_ne_true]
    exact hb w1 σ s1 out s' rs1 ev D W tk (d.later st1)
  · cases ev
/-! ### one name stored -/
theorem RS.frzAt {w : Wd} {σ : L2.St} {env : List (Option Py.O)} {sto : List Py.O} {i : Nat} {v : V} {o : Py.O} (rs : RS T w (σ.set i (some v)) ⟨env.set i (some o), sto⟩) (hi : i < env.length) :
    ∃ w', w'.H = w.H ∧ Stp w w' ∧ RS T w' (σ.set i (some v)) ⟨env.set i (some (.d o.toD)), sto⟩ := by
  obtain ⟨v', w', h1, h2, h3, h4, h5⟩ := rs.freeze (i := i) (o := o) (by
    show (env.set i (some o))[i]? = some (some o)
    rw [List.getElem?_set_self hi])
  refine ⟨w', h2, h3, ?_⟩
  have e : (env.set i (some o)).set i (some (.d o.toD)) = env.set i (some (.d o.toD)) := List.set_set ..
  rw [← e]
  exact h4
/-- an owned result becomes a cell -/
theorem Res.cell {w0 w : Wd} {v : V} {o : Py.O} {σ : L2.St} {s : Py.St} (h : Res T w0 w v o) (hv : o.isD = false) (st : Stp w0 w) (rs : RS T w σ s) :
    ∃ w', w'.H = w.H ∧ Stp w0 w' ∧ RS T w' σ { s with sto := s.sto ++ [o] } ∧ Rep T w'.G w'.φ v (.cell s.sto.length) := by
  obtain ⟨l, a, r⟩ := h
  obtain ⟨p, rfl⟩ : ∃ p, v = .ref p := by
    cases r with
    | d _ => cases hv
    | lst _ _ _ => exact ⟨_, rfl⟩
    | dic _ _ _ => exact ⟨_, rfl⟩
    | ins _ _ _ _ => exact ⟨_, rfl⟩
    | tab _ _ _ _ => exact ⟨_, rfl⟩
  generalize hn : s.sto.length = n
  let lab' : Lab := fun q => match l q with
    | some (_, π) => some (.cell n, π)
    | none => w.lab q
  have l1 : ∀ {q r π}, l q = some (r, π) → lab' q = some (.cell n, π) := fun {q r π} e => by
    show (match l q with | some (_, π) => some (Root.cell n, π) | none => w.lab q) = _
    rw [e]
  have l0 : ∀ {q}, l q = none → lab' q = w.lab q := fun {q} e => by
    show (match l q with | some (_, π) => some (Root.cell n, π) | none => w.lab q) = _
    rw [e]
  have hP : PLe w.φ (w.φ ++ [p]) := fun k b e => by
    rw [List.getElem?_append_left (List.getElem?_eq_some_iff.mp e).1]
    exact e
  have other : ∀ r', Moves w { w with lab := lab', φ := w.φ ++ [p] } r' r' := fun r' => ⟨GLe.refl _, hP, fun q π e => ⟨(by
    show lab' q = _
    cases z : l q with
    | none =>
      rw [l0 z]
      exact e
    | some y =>
      rw [(a q y z).2.1] at e
      cases e), fun _ z => z⟩⟩
  refine ⟨{ w with lab := lab', φ := w.φ ++ [p] }, rfl, ⟨st.g, st.f.trans hP, fun q u hu hl => ?_, st.t⟩, ⟨⟨rs.gh, fun q x e => ?_⟩, fun i u hu => ?_, fun k u hu => ?_, ?_, rs.el⟩, ?_⟩
  · obtain ⟨b1, b2, b3⟩ := st.h q u hu hl
    refine ⟨b1, ?_, b3⟩
    cases z : l q with
    | none =>
      show lab' q = none
      rw [l0 z]
      exact b2
    | some y =>
      rcases (a q y z).2.2.2.2 with y | y
      · rw [y] at hu; cases hu
      · exact absurd hl y
  · cases z : l q with
    | none =>
      have e : lab' q = some x := e
      rw [l0 z] at e
      exact rs.lg q x e
    | some y => exact ⟨(a q y z).2.2.1, (a q y z).2.2.2.1⟩
  · obtain ⟨v', e1, e2⟩ := rs.env i u hu
    exact ⟨v', e1, e2.move (other _)⟩
  · by_cases hk : k < s.sto.length
    · rw [List.getElem?_append_left hk] at hu
      obtain ⟨v', e1, e2⟩ := rs.sto k u hu
      exact ⟨v', hP k v' e1, e2.move (other _)⟩
    · rw [List.getElem?_append_right (by omega)] at hu
      have e : k - s.sto.length = 0 := by
        cases z : k - s.sto.length with
        | zero => rfl
        | succ j => rw [z] at hu; simp at hu
      rw [e] at hu
      simp at hu
      subst hu
      have hkn : k = n := by omega
      subst hkn
      refine ⟨p, ?_, RepO.move ?_ r⟩
      · show (w.φ ++ [p])[k]? = some p
        rw [List.getElem?_append_right (by rw [rs.len]; omega), rs.len, e]
        rfl
      · exact ⟨GLe.refl _, hP, fun q π e => ⟨l1 e, fun _ z => z⟩⟩
  · show (w.φ ++ [p]).length = (s.sto ++ [o]).length
    rw [List.length_append, List.length_append, rs.len] <;> rfl
  · refine .cell ?_
    show (w.φ ++ [p])[n]? = some p
    rw [List.getElem?_append_right (by rw [rs.len, hn]; exact Nat.le_refl _), rs.len, hn, Nat.sub_self]
    rfl
/-- the name's new state -/
theorem store_one {w0 w : Wd} {v : V} {o : Py.O} {σ : L2.St} {s : Py.St} {i : Nat} (h : Res T w0 w v o) (st : Stp w0 w) (rs : RS T w σ s) (hi : i < σ.length) (hc : i ∈ c.cel → o.isD = false) :
    ∃ w', w'.H = w.H ∧ Stp w0 w' ∧ RS T w' (σ.set i (some v)) (Py.stE c i o s) := by
  unfold Py.stE
  split
  · rename_i hm
    obtain ⟨w', h1, h2, h3, h4⟩ := h.cell (hc hm) st rs
    exact ⟨w', h1, h2, h3.setD h4 i⟩
  · split
    · exact h.store st rs hi
    · obtain ⟨w', h1, h2, h3⟩ := h.store st rs hi
      obtain ⟨w2, h4, h5, h6⟩ := RS.frzAt h3 (by rw [rs.el]; exact hi)
      exact ⟨w2, h4.trans h1, h2.trans h5, h6⟩
end
end PyS
end

section
set_option Elab.async false
set_option linter.all false
set_option maxRecDepth 100000
set_option maxHeartbeats 2000000
/-! Z7: assignments. -/
namespace PyS
open PySem L2
variable {T : Tb}
/-! ### several owned values -/
abbrev labJ (l : Addr → Option (Nat × List Nat)) : Lab := fun a => (l a).map fun x => (Root.slot x.1, x.2)
def ResL (T : Tb) (w0 w : Wd) (vs : List V) (os : List Py.O) : Prop :=
  vs.length = os.length ∧ ∃ l : Addr → Option (Nat × List Nat), (∀ a x, l a = some x → w.lab a = none ∧ w.G a = none ∧ w.H a ≠ none ∧ (w0.H a = none ∨ w0.lab a ≠ none)) ∧
    ∀ (j : Nat) (v : V) (o : Py.O), vs[j]? = some v → os[j]? = some o → RepO T { w with lab := labJ l } (.slot j) [] v o
theorem ResL.nil {w0 w : Wd} : ResL T w0 w [] [] := ⟨rfl, fun _ => none, fun _ _ e => (nomatch e), fun j v o e => by simp at e⟩
theorem labJ_some {l : Addr → Option (Nat × List Nat)} {a : Addr} {r : Root} {π : List Nat} (h : labJ l a = some (r, π)) : ∃ j, l a = some (j, π) ∧ r = .slot j := by
  unfold labJ at h
  cases e : l a with
  | none => rw [e] at h; cases h
  | some x =>
    obtain ⟨j, π'⟩ := x
    rw [e] at h
    cases h
    exact ⟨j, rfl, rfl⟩
theorem ResL.cons {w0 w1 w2 : Wd} {v : V} {o : Py.O} {vs : List V} {os : List Py.O} (h : Res T w0 w1 v o) (st0 : Stp w0 w1) (st : Stp w1 w2) (t : ResL T w1 w2 vs os) : ResL T w0 w2 (v :: vs) (o :: os) := by
  obtain ⟨l1, a1, r1⟩ := h
  obtain ⟨hl, l2, a2, r2⟩ := t
  let l : Addr → Option (Nat × List Nat) := fun a => match l1 a with
    | some (_, π) => some (0, π)
    | none => (l2 a).map fun (x : Nat × List Nat) => (x.1 + 1, x.2)
  have e1 : ∀ {a r π}, l1 a = some (r, π) → l a = some (0, π) := fun {a r π} e => by
    show (match l1 a with | some (_, π) => some (0, π) | none => (l2 a).map fun (x : Nat × List Nat) => (x.1 + 1, x.2)) = _
    rw [e]
  have e0 : ∀ {a}, l1 a = none → l a = (l2 a).map fun (x : Nat × List Nat) => (x.1 + 1, x.2) := fun {a} e => by
    show (match l1 a with | some (_, π) => some (0, π) | none => (l2 a).map fun (x : Nat × List Nat) => (x.1 + 1, x.2)) = _
    rw [e]
  have k1 : ∀ a x, l1 a = some x → ∃ u, w1.H a = some u ∧ w1.lab a = none ∧ w2.H a = some u ∧ w2.lab a = none ∧ w2.G a = none := fun a x e => by
    obtain ⟨_, b2, b3, b4, _⟩ := a1 a x e
    cases z : w1.H a with
    | none => exact absurd z b4
    | some u =>
      obtain ⟨c1, c2, c3⟩ := st.h a u z b2
      exact ⟨u, rfl, b2, c1, c2, c3.trans b3⟩
  have dis : ∀ a x, l2 a = some x → l1 a = none := fun a x e => by
    cases z : l1 a with
    | none => rfl
    | some y =>
      obtain ⟨u, h1, h2, _⟩ := k1 a y z
      rcases (a2 a x e).2.2.2 with q | q
      · rw [h1] at q; cases q
      · exact absurd h2 q
  refine ⟨by rw [List.length_cons, List.length_cons, hl], l, fun a x e => ?_, fun j v' o' hv ho => ?_⟩
  · cases z : l1 a with
    | some y =>
      obtain ⟨u, h1, h2, h3, h4, h5⟩ := k1 a y z
      exact ⟨h4, h5, (by rw [h3]; exact fun q => nomatch q), (a1 a y z).2.2.2.2⟩
    | none =>
      rw [e0 z] at e
      cases z2 : l2 a with
      | none => rw [z2] at e; cases e
      | some y =>
        obtain ⟨b1, b2, b3, b4⟩ := a2 a y z2
        refine ⟨b1, b2, b3, ?_⟩
        cases zz : w0.H a with
        | none => exact .inl rfl
        | some u =>
          refine .inr fun q => ?_
          obtain ⟨c1, c2, c3⟩ := st0.h a u zz q
          rcases b4 with b4 | b4
          · rw [c1] at b4; cases b4
          · exact b4 c2
  · cases j with
    | zero =>
      simp only [List.getElem?_cons_zero, Option.some.injEq] at hv ho
      subst hv ho
      refine RepO.move (w := { w1 with lab := l1 }) (w' := { w2 with lab := labJ l }) ⟨st.g, st.f, fun a π q => ?_⟩ r1
      obtain ⟨u, h1, h2, h3, h4, h5⟩ := k1 a _ q
      refine ⟨?_, fun o' z => ?_⟩
      · show (l a).map _ = _
        rw [e1 q]
        rfl
      · have z : w1.H a = some o' := z
        rw [h1] at z
        cases z
        exact h3
    | succ j =>
      simp only [List.getElem?_cons_succ] at hv ho
      refine RepO.move (w := { w2 with lab := labJ l2 }) (w' := { w2 with lab := labJ l }) ⟨GLe.refl _, PLe.refl _, fun a π q => ⟨?_, fun _ z => z⟩⟩ (r2 j v' o' hv ho)
      obtain ⟨j', q1, q2⟩ := labJ_some q
      cases q2
      show (l a).map _ = _
      rw [e0 (dis a _ q1), q1]
      rfl
theorem ResL.same {w0 w w' : Wd} {vs : List V} {os : List Py.O} (h : ResL T w0 w vs os) (st : Stp w w') : ResL T w0 w' vs os := by
  obtain ⟨hl, l, a, r⟩ := h
  have k : ∀ p x, l p = some x → ∃ u, w.H p = some u ∧ w'.H p = some u ∧ w'.lab p = none ∧ w'.G p = none := fun p x e => by
    obtain ⟨b1, b2, b3, _⟩ := a p x e
    cases z : w.H p with
    | none => exact absurd z b3
    | some u =>
      obtain ⟨c1, c2, c3⟩ := st.h p u z b1
      exact ⟨u, rfl, c1, c2, c3.trans b2⟩
  refine ⟨hl, l, fun p x e => ?_, fun j v o hv ho => RepO.move (w := { w with lab := labJ l }) (w' := { w' with lab := labJ l }) ⟨st.g, st.f, fun p π q => ⟨q, fun u z => ?_⟩⟩ (r j v o hv ho)⟩
  · obtain ⟨u, h1, h2, h3, h4⟩ := k p x e
    exact ⟨h3, h4, (by rw [h2]; exact fun q => nomatch q), (a p x e).2.2.2⟩
  · obtain ⟨j', q1, _⟩ := labJ_some q
    obtain ⟨u', h1, h2, _⟩ := k p _ q1
    have z : w.H p = some u := z
    rw [h1] at z
    cases z
    exact h2
/-- the first is stored, the others stay -/
theorem ResL.store {w0 w : Wd} {v : V} {o : Py.O} {vs : List V} {os : List Py.O} {σ : L2.St} {s : Py.St} {i : Nat} (h : ResL T w0 w (v :: vs) (o :: os)) (st : Stp w0 w) (rs : RS T w σ s) (hi : i < σ.length) :
    ∃ w', w'.H = w.H ∧ Stp w0 w' ∧ RS T w' (σ.set i (some v)) { s with env := s.env.set i (some o) } ∧ ResL T w0 w' vs os := by
  obtain ⟨hl, l, a, r⟩ := h
  have r0 := r 0 v o rfl rfl
  let lab' : Lab := fun p => match l p with
    | some (0, π) => some (.slot i, π)
    | some (_ + 1, _) => none
    | none => dropL (.slot i) w.lab p
  have l1 : ∀ {p π}, l p = some (0, π) → lab' p = some (.slot i, π) := fun {p π} e => by
    show (match l p with | some (0, π) => some (Root.slot i, π) | some (_ + 1, _) => none | none => dropL (.slot i) w.lab p) = _
    rw [e]
  have l2 : ∀ {p j π}, l p = some (j + 1, π) → lab' p = none := fun {p j π} e => by
    show (match l p with | some (0, π) => some (Root.slot i, π) | some (_ + 1, _) => none | none => dropL (.slot i) w.lab p) = _
    rw [e]
  have l0 : ∀ {p}, l p = none → lab' p = dropL (.slot i) w.lab p := fun {p} e => by
    show (match l p with | some (0, π) => some (Root.slot i, π) | some (_ + 1, _) => none | none => dropL (.slot i) w.lab p) = _
    rw [e]
  have other : ∀ r', r' ≠ .slot i → Moves w { w with lab := lab' } r' r' := fun r' hr => ⟨GLe.refl _, PLe.refl _, fun p π q => ⟨(by
    cases z : l p with
    | none =>
      show lab' p = _
      rw [l0 z, dropL_ne fun π' e => ?_]
      · exact q
      · rw [q] at e
        exact hr (Prod.mk.inj (Option.some.inj e)).1
    | some y =>
      rw [(a p y z).1] at q
      cases q), fun _ z => z⟩⟩
  refine ⟨{ w with lab := lab' }, rfl, ⟨st.g, st.f, fun p u hu hn => ?_, st.t⟩, ⟨⟨rs.gh, fun p x e => ?_⟩, fun j u hu => ?_, fun n u hu => ?_, rs.len, ?_⟩, Nat.succ.inj hl, ?_⟩
  · obtain ⟨b1, b2, b3⟩ := st.h p u hu hn
    refine ⟨b1, ?_, b3⟩
    cases q : l p with
    | none =>
      show lab' p = none
      rw [l0 q]
      exact dropL_none b2
    | some x =>
      rcases (a p x q).2.2.2 with z | z
      · rw [z] at hu
        cases hu
      · exact absurd hn z
  · cases q : l p with
    | none =>
      have e : lab' p = some x := e
      rw [l0 q] at e
      exact rs.lg p x (dropL_some e).1
    | some y => exact ⟨(a p y q).2.1, (a p y q).2.2.1⟩
  · by_cases hj : j = i
    · subst hj
      have hje : j < s.env.length := by rw [rs.el]; exact hi
      rw [List.getElem?_set_self hje] at hu
      cases hu
      refine ⟨v, by rw [List.getElem?_set_self hi], RepO.move (w := { w with lab := labJ l }) (w' := { w with lab := lab' }) ?_ r0⟩
      refine ⟨GLe.refl _, PLe.refl _, fun p π q => ⟨?_, fun _ z => z⟩⟩
      obtain ⟨j', q1, q2⟩ := labJ_some q
      cases q2
      exact l1 q1
    · rw [List.getElem?_set_ne (Ne.symm hj)] at hu
      obtain ⟨v', e1, e2⟩ := rs.env j u hu
      exact ⟨v', by rw [List.getElem?_set_ne (Ne.symm hj)]; exact e1, e2.move (other _ fun z => hj (Root.slot.inj z))⟩
  · obtain ⟨v', e1, e2⟩ := rs.sto n u hu
    exact ⟨v', e1, e2.move (other (.cell n) fun z => nomatch z)⟩
  · show (s.env.set i (some o)).length = (σ.set i (some v)).length
    rw [List.length_set, List.length_set]
    exact rs.el
  · refine ⟨fun p => match l p with | some (j + 1, π) => some (j, π) | _ => none, fun p x e => ?_, fun j v' o' hv ho => ?_⟩
    · replace e : (match l p with | some (j + 1, π) => some (j, π) | _ => none) = some x := e
      cases q : l p with
      | none => rw [q] at e; cases e
      | some y =>
        obtain ⟨j, π⟩ := y
        cases j with
        | zero => rw [q] at e; cases e
        | succ j =>
          obtain ⟨b1, b2, b3, b4⟩ := a p _ q
          exact ⟨l2 q, b2, b3, b4⟩
    · refine RepO.move (w := { w with lab := labJ l }) ?_ (r (j + 1) v' o' (by simpa using hv) (by simpa using ho))
      refine ⟨GLe.refl _, PLe.refl _, fun p π q => ⟨?_, fun _ z => z⟩⟩
      obtain ⟨j', q1, q2⟩ := labJ_some q
      cases q2
      show Option.map _ (match l p with | some (j + 1, π) => some (j, π) | _ => none) = _
      rw [q1]
      rfl
theorem ResL.frz {w0 w : Wd} {vs : List V} {os : List Py.O} {i : Nat} (h : ResL T w0 w vs os) (k : LabOk w) : ResL T w0 (PyS.frz w (.slot i)) vs os := by
  obtain ⟨hl, l, a, r⟩ := h
  refine ⟨hl, l, fun p x e => ?_, fun j v o hv ho => RepO.move (w := { w with lab := labJ l }) (w' := { PyS.frz w (.slot i) with lab := labJ l }) ⟨k.gle _, PLe.refl _, fun p π q => ⟨q, fun _ z => z⟩⟩ (r j v o hv ho)⟩
  obtain ⟨b1, b2, b3, b4⟩ := a p x e
  refine ⟨dropL_none b1, ?_, b3, b4⟩
  show frzG w (.slot i) p = none
  rw [frzG_ne fun π z => by rw [b1] at z; cases z]
  exact b2
def setL : List Nat → List V → L2.St → L2.St
  | i :: is, v :: vs, σ => setL is vs (σ.set i (some v))
  | _, _, σ => σ
section
variable {c : Py.Cx} {X : Cx}
/-- all are stored -/
theorem store_all : ∀ {is : List Nat} {w0 w : Wd} {vs : List V} {os : List Py.O} {σ : L2.St} {s s' : Py.St}, ResL T w0 w vs os → Stp w0 w → RS T w σ s → (∀ i ∈ is, i < σ.length) → Py.stEs c is os s = some s' →
    ∃ w', w'.H = w.H ∧ Stp w0 w' ∧ RS T w' (setL is vs σ) s'
  | [], w0, w, vs, [], σ, s, s', h, st, rs, hi, e => by
    rw [Py.stEs] at e
    cases e
    have : vs = [] := List.eq_nil_of_length_eq_zero h.1
    subst this
    exact ⟨w, rfl, st, rs⟩
  | i :: is, w0, w, vs, o :: os, σ, s, s', h, st, rs, hi, e => by
    rw [Py.stEs] at e
    split at e
    · cases e
    · rename_i hc
      cases vs with
      | nil => exact absurd h.1 (by simp)
      | cons v vs =>
        have hi0 := hi i List.mem_cons_self
        obtain ⟨w1, h1, st1, rs1, t1⟩ := h.store st rs hi0
        have hle : ∀ j ∈ is, j < (σ.set i (some v)).length := fun j hj => by rw [List.length_set]; exact hi j (List.mem_cons_of_mem _ hj)
        unfold Py.stE at e
        rw [if_neg hc] at e
        split at e
        · obtain ⟨w2, h2, st2, rs2⟩ := store_all t1 st1 rs1 hle e
          exact ⟨w2, h2.trans h1, st2, rs2⟩
        · have hie : i < s.env.length := by rw [rs.el]; exact hi0
          obtain ⟨v', f1, f2, f3, f4⟩ := rs1.freezeX (i := i) (o := o) (by
            show (s.env.set i (some o))[i]? = _
            rw [List.getElem?_set_self hie])
          have e2 : (s.env.set i (some o)).set i (some (.d o.toD)) = s.env.set i (some (.d o.toD)) := List.set_set ..
          have f3' : RS T (PyS.frz w1 (.slot i)) (σ.set i (some v)) { s with env := s.env.set i (some (.d o.toD)) } := by
            rw [← e2]
            exact f3
          obtain ⟨w2, h2, st2, rs2⟩ := store_all (t1.frz rs1.toLabOk) (st1.trans f2) f3' hle e
          exact ⟨w2, h2.trans h1, st2, rs2⟩
  | [], _, _, _, _ :: _, _, _, _, _, _, _, _, e => by simp [Py.stEs] at e
  | _ :: _, _, _, _, [], _, _, _, _, _, _, _, e => by simp [Py.stEs] at e
def SimOs (T : Tb) (c : Py.Cx) (X : Cx) (es : List Expr) (Es : List Py.E) : Prop :=
  ∀ (w : Wd) (σ : L2.St) (s : Py.St) (os : List Py.O) (s' : Py.St), RS T w σ s → Py.evOs c Es s = some (os, s') →
    ∀ Q : List V → Hp → Prop, (∀ vs w', Stp w w' → RS T w' σ s' → ResL T w w' vs os → Q vs w'.H) → WA X es σ w.H Q
theorem simo_nil : SimOs T c X [] [] := by
  intro w σ s os s' rs ev Q q
  simp only [Py.evOs, Option.some.injEq, Prod.mk.injEq] at ev
  obtain ⟨rfl, rfl⟩ := ev
  exact WA.of pa_nil (q [] w (Stp.refl _) rs ResL.nil)
theorem simo_cons {e : Expr} {es : List Expr} {E : Py.E} {Es : List Py.E} (n : notStar e = true) (h : SimE T c X e E) (hs : SimOs T c X es Es) : SimOs T c X (e :: es) (E :: Es) := by
  intro w σ s os s' rs ev Q q
  rw [Py.evOs] at ev
  split at ev
  · rename_i o s1 e1
    split at ev
    · rename_i os2 s2 e2
      simp only [Option.some.injEq, Prod.mk.injEq] at ev
      obtain ⟨rfl, rfl⟩ := ev
      refine WA.of (pa_cons pe_self pa_self (starEach_not n es X.env)) ?_
      refine h false w σ s o s1 rs e1 _ fun v w1 st1 rs1 q1 p1 => ?_
      refine hs w1 σ s1 os2 s2 rs1 e2 _ fun vs w2 st2 rs2 r2 => ?_
      exact q (v :: vs) w2 (st1.trans st2) rs2 (ResL.cons p1.res st1 st2 r2)
    · cases ev
  · cases ev
/-! ### name = e -/
theorem simS_set {e : Expr} {E : Py.E} {i : Nat} {x : Str} {p pos : Pos} (hN : X.N.Nodup) (hl : locC X.env.scope X.fn X.N x i = true) (hs : swapsWith e (some (.Name x p)) pos.line X.env = pure false) (h : SimE T c X e E) :
    SimS T c X (.Assign [.Name x p] e pos) (.asg (.nm i) E) := by
  intro w σ s out s' rs ev D W tk d
  obtain ⟨h1, h2, h3⟩ := locC_ok hl
  simp only [Py.ex] at ev
  split at ev
  · rename_i o s1 e1
    simp only [Py.asgT] at ev
    split at ev
    · simp only [Option.map_none] at ev
      cases ev
    · rename_i hc
      simp only [Option.map_some, Option.some.injEq, Prod.mk.injEq] at ev
      obtain ⟨rfl, rfl⟩ := ev
      intro pins sh I
      refine (WS.of (ps_set hN h1 h2 pe_self hs h3) ?_) pins sh I
      refine h false w σ s o s1 rs e1 _ fun v w1 st1 rs1 q1 p1 => ?_
      have hi : i < σ.length := by
        rw [I.len]
        exact (List.getElem?_eq_some_iff.mp h1).1
      obtain ⟨w2, e2, st2, rs2⟩ := store_one (c := c) p1.res st1 rs1 hi (fun hm => by
        cases z : o.isD with
        | false => rfl
        | true => exact absurd ⟨hm, z⟩ hc)
      have := d w2 _ st2 rs2
      rw [← e2]
      exact this
  · cases ev
/-- name = [..] -/
theorem simS_setLc {elt tg iter : Expr} {ifs : List Expr} {scope : Scope} {own : List (Str × Nat)} {t : Py.Tg} {k : Option Py.Itk} {Es Cs : List Py.E} {El : Py.E} {tt : TT} {i : Nat} {y : Str} {py pos spos : Pos} (hi : X.N[i]? = some y) (hyl : X.env.scope.names.lookup y = some .local)
    (hsw : swapsWith (.ListComp elt [⟨tg, iter, ifs, 0⟩] scope pos) (some (.Name y py)) spos.line X.env = pure true) (L : LcOk T c X elt tg iter ifs scope own t k Es Cs El tt) :
    SimS T c X (.Assign [.Name y py] (.ListComp elt [⟨tg, iter, ifs, 0⟩] scope pos) spos) (.asg (.nm i) (.lc t k Es Cs El)) := by
  intro w σ s out s' rs ev D W tk d
  simp only [Py.ex] at ev
  split at ev
  · rename_i o s1 e1
    simp only [Py.asgT] at ev
    split at ev
    · simp only [Option.map_none] at ev
      cases ev
    · rename_i hc
      simp only [Option.map_some, Option.some.injEq, Prod.mk.injEq] at ev
      obtain ⟨rfl, rfl⟩ := ev
      intro pins sh I
      refine (WS.of (ps_setLc (g := gT X.K t) L.calm L.nd hi hyl hsw pi_self L.blk (fun s H C cl fp => pg_tg (X := X.blk s H scope (compEnvC scope cl C X.env) fp) L.calm L.nd (L.tg s H C cl fp)) L.ts.pts peb L.fold) ?_) pins sh I
      refine lc_walk L rs e1 fun v w1 st1 rs1 r1 => ?_
      have hi' : i < σ.length := by
        rw [I.len]
        exact (List.getElem?_eq_some_iff.mp hi).1
      obtain ⟨w2, e2, st2, rs2⟩ := store_one (c := c) r1 st1 rs1 hi' (fun hm => by
        cases z : o.isD with
        | false => rfl
        | true => exact absurd ⟨hm, z⟩ hc)
      have := d w2 _ st2 rs2
      rw [← e2]
      exact this
  · cases ev
/-- a, (b, c) = e -/
theorem simS_tup {e : Expr} {E : Py.E} {l : List Py.Tg} {es : List Expr} {k : Nat} {p pos : Pos} (hc : X.calm = true) (hN : X.N.Nodup) (ht : tgC X.env.scope X.fn X.N (.tup l) (.Tuple es k p) = true)
    (hs : swapsWith e (some (.Tuple es k p)) pos.line X.env = pure false) (hw : swappedStores [.Tuple es k p] e X.env = pure none) (h : SimE T c X e E) : SimS T c X (.Assign [.Tuple es k p] e pos) (.asg (.tup l) E) := by
  intro w σ s out s' rs ev D W tk d
  simp only [Py.ex] at ev
  split at ev
  · rename_i o s1 e1
    simp only [Py.asgT] at ev
    split at ev
    · rename_i x
      cases hb : Py.bindT (.tup l) x s1.env with
      | none => rw [hb] at ev; cases ev
      | some env =>
        rw [hb] at ev
        simp only [Option.map_some, Option.some.injEq, Prod.mk.injEq] at ev
        obtain ⟨rfl, rfl⟩ := ev
        refine WS.of (ps_asg pe_self (pg_tg hc hN ht) hs hw (by rfl)) ?_
        refine h false w σ s _ s1 rs e1 _ fun v w1 st1 rs1 q1 p1 => ?_
        exact bind_tg rs1 p1.rep hb _ fun σ' rs' _ => d w1 σ' st1 rs'
    · cases ev
  · cases ev
end
end PyS
end

section
set_option Elab.async false
set_option linter.all false
set_option maxRecDepth 100000
set_option maxHeartbeats 2000000
/-! Z8: objects changed in place. -/
namespace PyS
open PySem L2
variable {T : Tb}
/-- what lies outside p of root r stays -/
structure MOff (w w' : Wd) (r : Root) (p : List Nat) : Prop where
  g : GLe w.G w'.G
  f : PLe w.φ w'.φ
  l : ∀ a ρ, w.lab a = some (r, ρ) → ¬ p <+: ρ → w'.lab a = some (r, ρ) ∧ ∀ o, w.H a = some o → w'.H a = some o
def Apart (p π : List Nat) : Prop := ∀ ρ, ¬ p <+: π ++ ρ
theorem Apart.ext {p π : List Nat} (h : Apart p π) (j : Nat) : Apart p (π ++ [j]) := fun ρ q => h ([j] ++ ρ) (by rw [← List.append_assoc]; exact q)
theorem Apart.here {p π : List Nat} (h : Apart p π) : ¬ p <+: π := by
  have := h []
  rw [List.append_nil] at this
  exact this
theorem Apart.sib {π π1 : List Nat} {j j' : Nat} (h : j ≠ j') : Apart (π ++ [j] ++ π1) (π ++ [j']) := by
  intro ρ q
  obtain ⟨t, e⟩ := q
  rw [List.append_assoc, List.append_assoc, List.append_assoc] at e
  have e := List.append_cancel_left e
  simp only [List.singleton_append, List.cons.injEq] at e
  exact h e.1
mutual
theorem RepO.off {w w' : Wd} {r : Root} {p : List Nat} (k : MOff w w' r p) : ∀ {π : List Nat} {v : V} {o : Py.O}, Apart p π → RepO T w r π v o → RepO T w' r π v o
  | _, _, _, _, .d h => .d (h.mono k.g k.f)
  | _, _, _, q, .lst a b c => .lst (k.l _ _ a q.here).1 ((k.l _ _ a q.here).2 _ b) (c.off k q)
  | _, _, _, q, .dic a b c => .dic (k.l _ _ a q.here).1 ((k.l _ _ a q.here).2 _ b) (c.off k q)
  | _, _, _, q, .ins a t b c => .ins (k.l _ _ a q.here).1 t ((k.l _ _ a q.here).2 _ b) (c.off k q)
  | _, _, _, q, .tab t a b c => .tab t (k.l _ _ a q.here).1 ((k.l _ _ a q.here).2 _ b) (c.mono k.g)
theorem RepOs.off {w w' : Wd} {r : Root} {p : List Nat} (k : MOff w w' r p) : ∀ {π : List Nat} {j : Nat} {v : List V} {o : List Py.O}, Apart p π → RepOs T w r π j v o → RepOs T w' r π j v o
  | _, _, _, _, _, .nil => .nil
  | _, _, _, _, q, .cons a b => .cons (a.off k (q.ext _)) (b.off k q)
theorem RepOk.off {w w' : Wd} {r : Root} {p : List Nat} (k : MOff w w' r p) : ∀ {π : List Nat} {j : Nat} {v : List (Key × V)} {o : List (Py.D × Py.O)}, Apart p π → RepOk T w r π j v o → RepOk T w' r π j v o
  | _, _, _, _, _, .nil => .nil
  | _, _, _, _, q, .cons a b => .cons (a.off k (q.ext _)) (b.off k q)
theorem RepOf.off {w w' : Wd} {r : Root} {p : List Nat} (k : MOff w w' r p) : ∀ {π : List Nat} {j : Nat} {v : List (Str × V)} {o : List (Nat × Py.O)}, Apart p π → RepOf T w r π j v o → RepOf T w' r π j v o
  | _, _, _, _, _, .nil => .nil
  | _, _, _, _, q, .cons a b => .cons (a.off k (q.ext _)) (b.off k q)
end
/-- the items of the object at p, when that object alone is written -/
theorem Apart.kid {π : List Nat} {j : Nat} {ρ : List Nat} (h : π ++ [j] ++ ρ = π) : False := by
  have := congrArg List.length h
  simp only [List.length_append, List.length_singleton] at this
  omega
structure MKid (w w' : Wd) (r : Root) (p : List Nat) : Prop where
  g : GLe w.G w'.G
  f : PLe w.φ w'.φ
  l : ∀ a ρ, w.lab a = some (r, ρ) → ρ ≠ p → w'.lab a = some (r, ρ) ∧ ∀ o, w.H a = some o → w'.H a = some o
def Below (p π : List Nat) : Prop := ∀ ρ, π ++ ρ ≠ p
theorem Below.ext {p π : List Nat} (h : Below p π) (j : Nat) : Below p (π ++ [j]) := fun ρ q => h ([j] ++ ρ) (by rw [← List.append_assoc]; exact q)
theorem Below.here {p π : List Nat} (h : Below p π) : π ≠ p := by
  have := h []
  rw [List.append_nil] at this
  exact this
theorem Below.kid {π : List Nat} {j : Nat} : Below π (π ++ [j]) := fun ρ q => Apart.kid q
mutual
theorem RepO.kid {w w' : Wd} {r : Root} {p : List Nat} (k : MKid w w' r p) : ∀ {π : List Nat} {v : V} {o : Py.O}, Below p π → RepO T w r π v o → RepO T w' r π v o
  | _, _, _, _, .d h => .d (h.mono k.g k.f)
  | _, _, _, q, .lst a b c => .lst (k.l _ _ a q.here).1 ((k.l _ _ a q.here).2 _ b) (RepOs.kidd k q c)
  | _, _, _, q, .dic a b c => .dic (k.l _ _ a q.here).1 ((k.l _ _ a q.here).2 _ b) (RepOk.kidd k q c)
  | _, _, _, q, .ins a t b c => .ins (k.l _ _ a q.here).1 t ((k.l _ _ a q.here).2 _ b) (RepOf.kidd k q c)
  | _, _, _, q, .tab t a b c => .tab t (k.l _ _ a q.here).1 ((k.l _ _ a q.here).2 _ b) (c.mono k.g)
theorem RepOs.kidd {w w' : Wd} {r : Root} {p : List Nat} (k : MKid w w' r p) : ∀ {π : List Nat} {j : Nat} {v : List V} {o : List Py.O}, Below p π → RepOs T w r π j v o → RepOs T w' r π j v o
  | _, _, _, _, _, .nil => .nil
  | _, _, _, _, q, .cons a b => .cons (a.kid k (q.ext _)) (RepOs.kidd k q b)
theorem RepOk.kidd {w w' : Wd} {r : Root} {p : List Nat} (k : MKid w w' r p) : ∀ {π : List Nat} {j : Nat} {v : List (Key × V)} {o : List (Py.D × Py.O)}, Below p π → RepOk T w r π j v o → RepOk T w' r π j v o
  | _, _, _, _, _, .nil => .nil
  | _, _, _, _, q, .cons a b => .cons (a.kid k (q.ext _)) (RepOk.kidd k q b)
theorem RepOf.kidd {w w' : Wd} {r : Root} {p : List Nat} (k : MKid w w' r p) : ∀ {π : List Nat} {j : Nat} {v : List (Str × V)} {o : List (Nat × Py.O)}, Below p π → RepOf T w r π j v o → RepOf T w' r π j v o
  | _, _, _, _, _, .nil => .nil
  | _, _, _, _, q, .cons a b => .cons (a.kid k (q.ext _)) (RepOf.kidd k q b)
end
theorem RepOs.kid {w w' : Wd} {r : Root} {π : List Nat} (k : MKid w w' r π) : ∀ {j : Nat} {v : List V} {o : List Py.O}, RepOs T w r π j v o → RepOs T w' r π j v o
  | _, _, _, .nil => .nil
  | _, _, _, .cons a b => .cons (a.kid k Below.kid) (RepOs.kid k b)
theorem RepOk.kid {w w' : Wd} {r : Root} {π : List Nat} (k : MKid w w' r π) : ∀ {j : Nat} {v : List (Key × V)} {o : List (Py.D × Py.O)}, RepOk T w r π j v o → RepOk T w' r π j v o
  | _, _, _, .nil => .nil
  | _, _, _, .cons a b => .cons (a.kid k Below.kid) (RepOk.kid k b)
theorem RepOf.kid {w w' : Wd} {r : Root} {π : List Nat} (k : MKid w w' r π) : ∀ {j : Nat} {v : List (Str × V)} {o : List (Nat × Py.O)}, RepOf T w r π j v o → RepOf T w' r π j v o
  | _, _, _, .nil => .nil
  | _, _, _, .cons a b => .cons (a.kid k Below.kid) (RepOf.kid k b)
/-! ### the place of an item -/
theorem RepOs.lens {w : Wd} {r : Root} {π : List Nat} : ∀ {os : List Py.O} {j n : Nat} {vs : List V} {o : Py.O}, RepOs T w r π j vs os → os[n]? = some o → ∃ u, vs[n]? = some u ∧ RepO T w r (π ++ [j + n]) u o ∧
    ∀ (w' : Wd) (o' : Py.O) (π1 : List Nat), MOff w w' r (π ++ [j + n] ++ π1) → RepO T w' r (π ++ [j + n]) u o' → RepOs T w' r π j vs (os.set n o')
  | [], _, _, _, _, .nil, h => by simp at h
  | _ :: _, j, 0, _, _, .cons a b, h => by
    simp at h
    subst h
    refine ⟨_, rfl, a, fun w' o' π1 k r' => ?_⟩
    rw [List.set_cons_zero]
    refine .cons r' ?_
    exact sib k b (Nat.lt_succ_self _)
  | _ :: _, j, n + 1, _, _, .cons a b, h => by
    obtain ⟨u, h1, h2, h3⟩ := b.lens (n := n) (by simpa using h)
    have e : j + 1 + n = j + (n + 1) := by omega
    rw [e] at h2 h3
    refine ⟨u, by simpa using h1, h2, fun w' o' π1 k r' => ?_⟩
    rw [List.set_cons_succ]
    exact .cons (a.off k (Apart.sib (by omega))) (h3 w' o' π1 k r')
where sib {w w' : Wd} {r : Root} {π π1 : List Nat} {n : Nat} (k : MOff w w' r (π ++ [n] ++ π1)) : ∀ {os : List Py.O} {j : Nat} {vs : List V}, RepOs T w r π j vs os → n < j → RepOs T w' r π j vs os
  | [], _, _, .nil, _ => .nil
  | _ :: _, _, _, .cons a b, h => .cons (a.off k (Apart.sib (by omega))) (sib k b (by omega))
theorem RepOk.lens {w : Wd} {r : Root} {π : List Nat} (key : Key) : ∀ {os : List (Py.D × Py.O)} {j : Nat} {vs : List (Key × V)} {k0 : Py.D} {o : Py.O}, RepOk T w r π j vs os → (os.find? fun p => Py.D.eqv p.1 (kD key)) = some (k0, o) → ∃ u n, valV vs key = some u ∧ RepO T w r (π ++ [j + n]) u o ∧
    ∀ (w' : Wd) (o' : Py.O) (π1 : List Nat), MOff w w' r (π ++ [j + n] ++ π1) → RepO T w' r (π ++ [j + n]) u o' → RepOk T w' r π j vs (Py.replK (kD key) o' os)
  | _, _, _, _, _, .nil, h => by cases h
  | _, j, _, k0, o, @RepOk.cons _ _ _ _ _ k' v' vs o'' os a b, h => by
    rw [List.find?_cons, kD_eqv] at h
    by_cases e : k' = key
    · rw [decide_eq_true e] at h
      cases h
      refine ⟨v', 0, valV_pos (p := (k', v')) e, a, fun w' o' π1 k r' => ?_⟩
      rw [Py.replK, kD_eqv, decide_eq_true e, if_pos rfl]
      exact .cons r' (sib k b (Nat.lt_succ_self _))
    · rw [decide_eq_false e] at h
      obtain ⟨u, n, h1, h2, h3⟩ := b.lens key h
      have e2 : j + 1 + n = j + (n + 1) := by omega
      rw [e2] at h2 h3
      refine ⟨u, n + 1, (valV_neg (p := (k', v')) e).trans h1, h2, fun w' o' π1 k r' => ?_⟩
      rw [Py.replK, kD_eqv, decide_eq_false e, if_neg Bool.false_ne_true]
      exact .cons (a.off k (Apart.sib (by omega))) (h3 w' o' π1 k r')
where sib {w w' : Wd} {r : Root} {π π1 : List Nat} {n : Nat} (k : MOff w w' r (π ++ [n] ++ π1)) : ∀ {os : List (Py.D × Py.O)} {j : Nat} {vs : List (Key × V)}, RepOk T w r π j vs os → n < j → RepOk T w' r π j vs os
  | [], _, _, .nil, _ => .nil
  | _ :: _, _, _, .cons a b, h => .cons (a.off k (Apart.sib (by omega))) (sib k b (by omega))
/-- reading by one key -/
def Reads (H : Hp) (v : V) (k : V) (u : V) : Prop :=
  (∃ p xs i, v = .ref p ∧ k = .int i ∧ H p = some (.lst xs) ∧ L2.atI xs i = some u) ∨ ∃ p kvs key, v = .ref p ∧ k = kV key ∧ H p = some (.dK kvs) ∧ valV kvs key = some u
theorem Reads.mono {H H' : Hp} {v k u : V} (h : Reads H v k u) (g : GLe H H') : Reads H' v k u := by
  rcases h with ⟨p, xs, i, a, b, d, e⟩ | ⟨p, xs, i, a, b, d, e⟩
  · exact .inl ⟨p, xs, i, a, b, g _ _ d, e⟩
  · exact .inr ⟨p, xs, i, a, b, g _ _ d, e⟩
end PyS
end

section
set_option Elab.async false
set_option linter.all false
set_option maxRecDepth 100000
set_option maxHeartbeats 2000000
/-! Z9: changes at a place. -/
namespace PyS
open PySem L2
variable {T : Tb}
theorem not_pre {π : List Nat} {j : Nat} {π1 : List Nat} : ¬ π ++ [j] ++ π1 <+: π := fun h => by
  have := h.length_le
  simp only [List.length_append, List.length_singleton] at this
  omega
theorem modAt_ok {α : Type} {f : Py.O → Option (Py.O × α)} {w : Wd} (ok : LabOk w) {r : Root} {π : List Nat} {v : V} {o : Py.O} {k : Py.D} {o' : Py.O} {x : α} (h : RepO T w r π v o) (e : Py.modAt k f o = some (o', x)) :
    ∃ j u sub sub', RepO T w r (π ++ [j]) u sub ∧ f sub = some (sub', x) ∧ (∀ kv, Rep T w.G w.φ kv k → Reads w.H v kv u) ∧
      ∀ (w' : Wd) (π1 : List Nat), MOff w w' r (π ++ [j] ++ π1) → RepO T w' r (π ++ [j]) u sub' → RepO T w' r π v o' := by
  cases h with
  | d h => cases e
  | @lst _ a xs os hl hH hs =>
    simp only [Py.modAt] at e
    split at e
    · rename_i i
      split at e
      · rename_i j hj
        split at e
        · rename_i o0 ho
          cases hf : f o0 with
          | none => rw [hf] at e; cases e
          | some p =>
            rw [hf] at e
            simp only [Option.map_some, Option.some.injEq, Prod.mk.injEq] at e
            obtain ⟨rfl, rfl⟩ := e
            obtain ⟨u, h1, h2, h3⟩ := hs.lens ho
            rw [Nat.zero_add] at h2 h3
            refine ⟨j, u, o0, p.1, h2, hf, fun kv rk => ?_, fun w' π1 m r' => ?_⟩
            · cases rk
              refine .inl ⟨a, xs, i, rfl, rfl, hH, ?_⟩
              unfold L2.atI
              rw [show L2.ixN xs.length i = some j by rw [hs.length]; exact hj]
              exact h1
            · exact .lst (m.l _ _ hl not_pre).1 ((m.l _ _ hl not_pre).2 _ hH) (h3 w' p.1 π1 m r')
        · cases e
      · cases e
    · cases e
  | @dic _ a kvs os hl hH hs =>
    simp only [Py.modAt] at e
    split at e
    · rename_i hk
      split at e
      · rename_i k0 o0 ho
        cases hf : f o0 with
        | none => rw [hf] at e; cases e
        | some p =>
          rw [hf] at e
          simp only [Option.map_some, Option.some.injEq, Prod.mk.injEq] at e
          obtain ⟨rfl, rfl⟩ := e
          have hkd : ∃ key, k = kD key := by
            cases k with
            | int i => exact ⟨.inl i, rfl⟩
            | str z => exact ⟨.inr ⟨z.toArray⟩, rfl⟩
            | _ => cases hk
          obtain ⟨key, rfl⟩ := hkd
          obtain ⟨u, n, h1, h2, h3⟩ := hs.lens key ho
          rw [Nat.zero_add] at h2 h3
          refine ⟨n, u, o0, p.1, h2, hf, fun kv rk => ?_, fun w' π1 m r' => ?_⟩
          · obtain ⟨key', e1, e2⟩ := rk.key (by cases key <;> rfl)
            have : key' = key := by
              have := congrArg keyD e1
              rw [keyD_k, keyD_k] at this
              exact (Option.some.inj this).symm
            subst this
            exact .inr ⟨a, kvs, key', rfl, e2, hH, h1⟩
          · exact .dic (m.l _ _ hl not_pre).1 ((m.l _ _ hl not_pre).2 _ hH) (h3 w' p.1 π1 m r')
      · cases e
    · cases e
  | ins _ _ _ _ => cases e
  | tab _ _ _ _ => cases e
/-- reading along keys -/
def ReadsL (T : Tb) (w : Wd) : V → List Py.D → V → Prop
  | v, [], u => u = v
  | v, k :: ks, u => ∃ z, (∀ kv, Rep T w.G w.φ kv k → Reads w.H v kv z) ∧ ReadsL T w z ks u
theorem modPath_ok {α : Type} {f : Py.O → Option (Py.O × α)} {w : Wd} (ok : LabOk w) {r : Root} : ∀ {ks : List Py.D} {π : List Nat} {v : V} {o : Py.O} {o' : Py.O} {x : α}, RepO T w r π v o → Py.modPath f ks o = some (o', x) →
    ∃ π1 u sub sub', RepO T w r (π ++ π1) u sub ∧ f sub = some (sub', x) ∧ ReadsL T w v ks u ∧ ∀ w' : Wd, MOff w w' r (π ++ π1) → RepO T w' r (π ++ π1) u sub' → RepO T w' r π v o'
  | [], π, v, o, o', x, h, e => by
    rw [Py.modPath] at e
    refine ⟨[], v, o, o', by rw [List.append_nil]; exact h, e, rfl, fun w' _ r' => ?_⟩
    rw [List.append_nil] at r'
    exact r'
  | k :: ks, π, v, o, o', x, h, e => by
    rw [Py.modPath] at e
    obtain ⟨j, z, s1, s1', h1, h2, h3, h4⟩ := modAt_ok ok h e
    obtain ⟨π1, u, sub, sub', g1, g2, g3, g4⟩ := modPath_ok ok h1 h2
    rw [List.append_assoc] at g1 g4
    refine ⟨[j] ++ π1, u, sub, sub', g1, g2, ⟨z, h3, g3⟩, fun w' m r' => h4 w' π1 (by rw [List.append_assoc]; exact m) (g4 w' m r')⟩
/-- a change at a place, of the state -/
theorem mod_ok {α : Type} {f : Py.O → Option (Py.O × α)} {w : Wd} {σ : L2.St} {s : Py.St} {i : Nat} {ks : List Py.D} {x : α} {s' : Py.St} (rs : RS T w σ s) (e : Py.modR i ks f s = some (x, s')) :
    ∃ v u r π sub sub', σ[i]? = some (some v) ∧ ReadsL T w v ks u ∧ RepO T w r π u sub ∧ f sub = some (sub', x) ∧
      ∀ (a : Addr) (ob : HO), u = .ref a → w.lab a = some (r, π) → RepO T { w with H := upd w.H a ob } r π u sub' → Stp w { w with H := upd w.H a ob } ∧ RS T { w with H := upd w.H a ob } σ s' := by
  -- the world written at a labelled place
  have st : ∀ (a : Addr) (ob : HO) (r : Root) (π : List Nat), w.lab a = some (r, π) → Stp w { w with H := upd w.H a ob } := fun a ob r π hl => ⟨GLe.refl _, PLe.refl _, fun b u h l => by
    have : b ≠ a := fun z => by rw [z, hl] at l; cases l
    exact ⟨(upd_ne this).trans h, l, rfl⟩, fun b h => by
    show upd w.H a ob b ≠ none
    by_cases z : b = a
    · rw [z, upd_same]; exact fun q => nomatch q
    · rw [upd_ne z]; exact h⟩
  have lo : ∀ (a : Addr) (ob : HO) (r : Root) (π : List Nat), w.lab a = some (r, π) → LabOk { w with H := upd w.H a ob } := fun a ob r π hl => ⟨fun b u h => by
    show upd w.H a ob b = some u
    rw [upd_ne (fun z => by rw [z, (rs.lg a _ hl).1] at h; cases h)]
    exact rs.gh b u h, fun b r' h => ⟨(rs.lg b r' h).1, (st a ob r π hl).t b (rs.lg b r' h).2⟩⟩
  have mv : ∀ (a : Addr) (ob : HO) (r : Root) (π : List Nat), w.lab a = some (r, π) → ∀ r', r' ≠ r → Moves w { w with H := upd w.H a ob } r' r' := fun a ob r π hl r' hr => ⟨GLe.refl _, PLe.refl _, fun b ρ q => ⟨q, fun u hu => by
    show upd w.H a ob b = some u
    rw [upd_ne (fun z => by rw [z, hl] at q; cases q; exact hr rfl)]
    exact hu⟩⟩
  have mo : ∀ (a : Addr) (ob : HO) (r : Root) (π : List Nat), w.lab a = some (r, π) → MOff w { w with H := upd w.H a ob } r π := fun a ob r π hl => ⟨GLe.refl _, PLe.refl _, fun b ρ q n => ⟨q, fun u hu => by
    show upd w.H a ob b = some u
    rw [upd_ne (fun z => by rw [z, hl] at q; cases q; exact n (List.prefix_refl _))]
    exact hu⟩⟩
  unfold Py.modR at e
  split at e
  · rename_i n he
    split at e
    · rename_i o ho
      cases hp : Py.modPath f ks o with
      | none => rw [hp] at e; cases e
      | some p =>
        obtain ⟨o', x'⟩ := p
        rw [hp] at e
        simp only [Option.map_some, Option.some.injEq, Prod.mk.injEq] at e
        obtain ⟨rfl, rfl⟩ := e
        obtain ⟨v, e1, e2⟩ := rs.env i _ he
        obtain ⟨b, f1, f2⟩ := rs.sto n o ho
        cases e2 with
        | d e2 =>
          cases e2 with
          | cell g =>
            rw [f1] at g
            cases g
            obtain ⟨π1, u, sub, sub', g1, g2, g3, g4⟩ := modPath_ok rs.toLabOk f2 hp
            rw [List.nil_append] at g1 g4
            refine ⟨_, u, .cell n, π1, sub, sub', e1, g3, g1, g2, fun a ob hu hl hr => ⟨st a ob _ _ hl, ⟨lo a ob _ _ hl, fun j y hj => ?_, fun m y hm => ?_, by show w.φ.length = (s.sto.set n o').length; rw [List.length_set]; exact rs.len, rs.el⟩⟩⟩
            · obtain ⟨v', h1, h2⟩ := rs.env j y hj
              exact ⟨v', h1, h2.move (mv a ob _ _ hl (.slot j) fun z => nomatch z)⟩
            · by_cases hmn : m = n
              · subst hmn
                have hlt : m < s.sto.length := (List.getElem?_eq_some_iff.mp ho).1
                rw [show (s.sto.set m o')[m]? = some o' from List.getElem?_set_self hlt] at hm
                cases hm
                exact ⟨_, f1, g4 _ (mo a ob _ _ hl) hr⟩
              · rw [show (s.sto.set n o')[m]? = s.sto[m]? from List.getElem?_set_ne (Ne.symm hmn)] at hm
                obtain ⟨v', h1, h2⟩ := rs.sto m y hm
                exact ⟨v', h1, h2.move (mv a ob _ _ hl (.cell m) fun z => hmn (Root.cell.inj z))⟩
    · cases e
  · rename_i o hnc he
    cases hp : Py.modPath f ks o with
    | none => rw [hp] at e; cases e
    | some p =>
      obtain ⟨o', x'⟩ := p
      rw [hp] at e
      simp only [Option.map_some, Option.some.injEq, Prod.mk.injEq] at e
      obtain ⟨rfl, rfl⟩ := e
      obtain ⟨v, e1, e2⟩ := rs.env i _ he
      obtain ⟨π1, u, sub, sub', g1, g2, g3, g4⟩ := modPath_ok rs.toLabOk e2 hp
      rw [List.nil_append] at g1 g4
      refine ⟨v, u, .slot i, π1, sub, sub', e1, g3, g1, g2, fun a ob hu hl hr => ⟨st a ob _ _ hl, ⟨lo a ob _ _ hl, fun j y hj => ?_, fun m y hm => ?_, rs.len, by show (s.env.set i _).length = σ.length; rw [List.length_set]; exact rs.el⟩⟩⟩
      · by_cases hji : j = i
        · subst hji
          have hlt : j < s.env.length := (List.getElem?_eq_some_iff.mp he).1
          rw [show (s.env.set j (some o'))[j]? = some (some o') from List.getElem?_set_self hlt] at hj
          cases hj
          exact ⟨v, e1, g4 _ (mo a ob _ _ hl) hr⟩
        · rw [show (s.env.set i (some o'))[j]? = s.env[j]? from List.getElem?_set_ne (Ne.symm hji)] at hj
          obtain ⟨v', h1, h2⟩ := rs.env j y hj
          exact ⟨v', h1, h2.move (mv a ob _ _ hl (.slot j) fun z => hji (Root.slot.inj z))⟩
      · obtain ⟨v', h1, h2⟩ := rs.sto m y hm
        exact ⟨v', h1, h2.move (mv a ob _ _ hl (.cell m) fun z => nomatch z)⟩
  · cases e
/-! ### the changes -/
theorem RepOs.append {w : Wd} {r : Root} {π : List Nat} {v : V} {d : Py.D} (h : Rep T w.G w.φ v d) : ∀ {j : Nat} {vs : List V} {os : List Py.O}, RepOs T w r π j vs os → RepOs T w r π j (vs ++ [v]) (os ++ [.d d])
  | _, _, _, .nil => .cons (.d h) .nil
  | _, _, _, .cons a b => .cons a (b.append h)
theorem RepOs.setD {w : Wd} {r : Root} {π : List Nat} {v : V} {d : Py.D} (h : Rep T w.G w.φ v d) : ∀ {n j : Nat} {vs : List V} {os : List Py.O}, RepOs T w r π j vs os → RepOs T w r π j (vs.set n v) (os.set n (.d d))
  | _, _, _, _, .nil => .nil
  | 0, _, _, _, .cons a b => .cons (.d h) b
  | n + 1, _, _, _, .cons a b => .cons a (b.setD h (n := n))
theorem RepOs.dropLast {w : Wd} {r : Root} {π : List Nat} : ∀ {j : Nat} {vs : List V} {os : List Py.O}, RepOs T w r π j vs os → RepOs T w r π j vs.dropLast os.dropLast
  | _, _, _, .nil => .nil
  | _, _, _, .cons a .nil => .nil
  | _, _, _, .cons a (.cons b c) => .cons a (RepOs.dropLast (.cons b c))
theorem Reps.erase : ∀ {G : Hp} {φ : List Addr} {vs : List V} {ds : List Py.D} (n : Nat), Reps T G φ vs ds → Reps T G φ (vs.eraseIdx n) (ds.eraseIdx n)
  | _, _, _, _, _, .nil => .nil
  | _, _, _, _, 0, .cons a b => b
  | _, _, _, _, n + 1, .cons a b => .cons a (b.erase n)
theorem pures_map : ∀ {os : List Py.O} {ds : List Py.D}, Py.O.pures os = some ds → os = ds.map .d
  | [], ds, h => by cases h; rfl
  | .d x :: os, ds, h => by
    rw [Py.O.pures] at h
    cases e : Py.O.pures os with
    | none => rw [e] at h; cases h
    | some z =>
      rw [e] at h
      cases h
      rw [pures_map e]
      rfl
  | .lst _ :: _, _, h => by cases h
  | .dic _ :: _, _, h => by cases h
  | .ins _ _ :: _, _, h => by cases h
theorem map_erase {α β : Type} (f : α → β) : ∀ (l : List α) (n : Nat), (l.map f).eraseIdx n = (l.eraseIdx n).map f
  | [], _ => rfl
  | _ :: _, 0 => rfl
  | x :: l, n + 1 => by
    rw [List.map_cons, List.eraseIdx_cons_succ, List.eraseIdx_cons_succ, List.map_cons, map_erase f l n]
theorem RepOk.any {w : Wd} {r : Root} {π : List Nat} (k : Key) : ∀ {j : Nat} {vs : List (Key × V)} {os : List (Py.D × Py.O)}, RepOk T w r π j vs os → (os.any fun p => Py.D.eqv p.1 (kD k)) = (vs.any fun kv => decide (kv.1 = k))
  | _, _, _, .nil => rfl
  | _, _, _, .cons a b => by
    rw [List.any_cons, List.any_cons, b.any k, kD_eqv]
theorem RepOk.put {w : Wd} {r : Root} {π : List Nat} {v : V} {d : Py.D} (k : Key) (h : Rep T w.G w.φ v d) {vs : List (Key × V)} {os : List (Py.D × Py.O)} {j : Nat} (b : RepOk T w r π j vs os) : RepOk T w r π j (putK vs k v) (Py.putKs (kD k) (.d d) os) := by
  unfold putK Py.putKs
  rw [b.any k]
  split
  · rename_i hh
    clear hh
    exact go b
  · exact app b
where
  go : ∀ {j : Nat} {vs : List (Key × V)} {os : List (Py.D × Py.O)}, RepOk T w r π j vs os → RepOk T w r π j (vs.map fun kv => if kv.1 = k then (kv.1, v) else kv) (os.map fun p => if Py.D.eqv p.1 (kD k) = true then (p.1, .d d) else p)
    | _, _, _, .nil => .nil
    | _, _, _, @RepOk.cons _ _ _ _ _ k' v' _ _ _ a b => by
      rw [List.map_cons, List.map_cons, kD_eqv]
      by_cases e : k' = k
      · rw [if_pos (by simpa using e), if_pos (by simpa using e)]
        exact .cons (.d h) (go b)
      · rw [if_neg (by simpa using e), if_neg (by simpa using e)]
        exact .cons a (go b)
  app : ∀ {j : Nat} {vs : List (Key × V)} {os : List (Py.D × Py.O)}, RepOk T w r π j vs os → RepOk T w r π j (vs ++ [(k, v)]) (os ++ [(kD k, .d d)])
    | _, _, _, .nil => .cons (.d h) .nil
    | _, _, _, .cons a b => .cons a (app b)
theorem RepOk.length {w : Wd} {r : Root} {π : List Nat} : ∀ {j : Nat} {vs : List (Key × V)} {os : List (Py.D × Py.O)}, RepOk T w r π j vs os → vs.length = os.length
  | _, _, _, .nil => rfl
  | _, _, _, .cons _ b => by rw [List.length_cons, List.length_cons, b.length]
theorem mkid {w : Wd} {a : Addr} {r : Root} {π : List Nat} (hl : w.lab a = some (r, π)) (ob : HO) : MKid w { w with H := upd w.H a ob } r π := ⟨GLe.refl _, PLe.refl _, fun b ρ q n => ⟨q, fun u hu => by
    show upd w.H a ob b = some u
    rw [upd_ne (fun z => by rw [z, hl] at q; cases q; exact n rfl)]
    exact hu⟩⟩
/-- an object at a place, with what an append does there -/
theorem app_at {w : Wd} {r : Root} {π : List Nat} {u : V} {sub sub' : Py.O} {d : Py.D} {y : V} (h : RepO T w r π u sub) (ry : Rep T w.G w.φ y d) (e : Py.appAt (.d d) sub = some (sub', ())) :
    ∃ a xs, u = .ref a ∧ w.lab a = some (r, π) ∧ w.H a = some (.lst xs) ∧ xs.length < sizeLine ∧ RepO T { w with H := upd w.H a (.lst (xs ++ [y])) } r π u sub' := by
  cases h with
  | d _ => cases e
  | @lst _ a xs os hl hH hs =>
    simp only [Py.appAt] at e
    split at e
    · rename_i hz
      simp only [Option.some.injEq, Prod.mk.injEq, and_true] at e
      subst e
      refine ⟨a, xs, rfl, hl, hH, ?_, .lst hl upd_same ((RepOs.kid (mkid hl _) hs).append (w := { w with H := upd w.H a (.lst (xs ++ [y])) }) ry)⟩
      have := lenOk_le hz
      rw [hs.length]
      omega
    · cases e
  | dic _ _ _ => cases e
  | ins _ _ _ _ => cases e
  | tab _ _ _ _ => cases e
theorem set_at {w : Wd} {r : Root} {π : List Nat} {u : V} {sub sub' : Py.O} {k d : Py.D} {kv y : V} (h : RepO T w r π u sub) (rk : Rep T w.G w.φ kv k) (ry : Rep T w.G w.φ y d) (e : Py.setAt k (.d d) sub = some (sub', ())) :
    ∃ a ob, u = .ref a ∧ w.lab a = some (r, π) ∧ RepO T { w with H := upd w.H a ob } r π u sub' ∧
      ((∃ xs i j, kv = .int i ∧ w.H a = some (.lst xs) ∧ L2.ixN xs.length i = some j ∧ ob = .lst (xs.set j y)) ∨ ∃ kvs key, kv = kV key ∧ w.H a = some (.dK kvs) ∧ kvs.length < sizeLine ∧ ob = .dK (putK kvs key y)) := by
  cases h with
  | d _ => cases e
  | @lst _ a xs os hl hH hs =>
    simp only [Py.setAt] at e
    split at e
    · rename_i i
      split at e
      · rename_i j hj
        simp only [Option.some.injEq, Prod.mk.injEq, and_true] at e
        subst e
        cases rk
        refine ⟨a, .lst (xs.set j y), rfl, hl, .lst hl upd_same ((RepOs.kid (mkid hl _) hs).setD (w := { w with H := upd w.H a (.lst (xs.set j y)) }) ry), .inl ⟨xs, i, j, rfl, hH, ?_, rfl⟩⟩
        rw [hs.length]
        exact hj
      · cases e
    · cases e
  | @dic _ a kvs os hl hH hs =>
    simp only [Py.setAt] at e
    split at e
    · rename_i hk
      rw [Bool.and_eq_true] at hk
      simp only [Option.some.injEq, Prod.mk.injEq, and_true] at e
      subst e
      obtain ⟨key, rfl, rfl⟩ := rk.key hk.1
      refine ⟨a, .dK (putK kvs key y), rfl, hl, .dic hl upd_same ((RepOk.kid (mkid hl _) hs).put (w := { w with H := upd w.H a (.dK (putK kvs key y)) }) key ry), .inr ⟨kvs, key, rfl, hH, ?_, rfl⟩⟩
      have := lenOk_le hk.2
      rw [hs.length]
      omega
    · cases e
  | ins _ _ _ _ => cases e
  | tab _ _ _ _ => cases e
theorem pop_at {w : Wd} {r : Root} {π : List Nat} {u : V} {sub sub' : Py.O} {ds : List Py.D} {us : List V} {x : Py.O} (h : RepO T w r π u sub) (rd : Reps T w.G w.φ us ds) (e : Py.popAt ds sub = some (sub', x)) :
    ∃ a xs j y d, u = .ref a ∧ w.lab a = some (r, π) ∧ w.H a = some (.lst xs) ∧ x = .d d ∧ Rep T w.G w.φ y d ∧ ((us = [] ∧ xs[xs.length - 1]? = some y ∧ RepO T { w with H := upd w.H a (.lst xs.dropLast) } r π u sub') ∨
      ∃ i, us = [.int i] ∧ (-(2 : Int) ^ 62 ≤ i ∧ i < 2 ^ 62) ∧ L2.ixN xs.length i = some j ∧ xs[j]? = some y ∧ RepO T { w with H := upd w.H a (.lst (xs.eraseIdx j)) } r π u sub') := by
  cases h with
  | d _ => cases e
  | @lst _ a xs os hl hH hs =>
    simp only [Py.popAt] at e
    split at e
    · split at e
      · rename_i d he
        simp only [Option.some.injEq, Prod.mk.injEq] at e
        obtain ⟨rfl, rfl⟩ := e
        cases rd
        obtain ⟨y, h1, h2, _⟩ := hs.lens he
        cases h2 with
        | d h2 =>
          refine ⟨a, xs, 0, y, d, rfl, hl, hH, rfl, h2, .inl ⟨rfl, ?_, .lst hl upd_same (RepOs.kid (mkid hl _) hs).dropLast⟩⟩
          rw [hs.length]
          exact h1
      · cases e
    · rename_i i
      split at e
      · rename_i j hj
        split at e
        · rename_i d he
          split at e
          · cases e
          · rename_i hp
            simp only [Bool.or_eq_true, Bool.not_eq_true', not_or, Bool.not_eq_true, Bool.not_eq_false, Bool.and_eq_true, decide_eq_true_eq] at hp
            obtain ⟨hp, hb⟩ := hp
            simp only [Option.some.injEq, Prod.mk.injEq] at e
            obtain ⟨rfl, rfl⟩ := e
            cases rd with
            | cons r1 rr =>
            cases rr
            cases r1
            obtain ⟨y, h1, h2, _⟩ := hs.lens he
            cases h2 with
            | d h2 =>
              cases hq : Py.O.pures os with
              | none => rw [hq] at hp; cases hp
              | some ds =>
                refine ⟨a, xs, j, y, d, rfl, hl, hH, rfl, h2, .inr ⟨i, rfl, hb, by rw [hs.length]; exact hj, h1, ?_⟩⟩
                have := hs.pures hq
                rw [pures_map hq, map_erase]
                exact .lst hl upd_same (Reps.os (w := { w with H := upd w.H a (.lst (xs.eraseIdx j)) }) (this.erase j))
        · cases e
      · cases e
    · cases e
  | dic _ _ _ => cases e
  | ins _ _ _ _ => cases e
  | tab _ _ _ _ => cases e
end PyS
end

section
set_option Elab.async false
set_option linter.all false
set_option maxRecDepth 100000
set_option maxHeartbeats 2000000
/-! ZA: statements that change things; loops. -/
namespace PyS
open PySem L2
variable {T : Tb}
section
variable {c : Py.Cx} {X : Cx}
theorem isL_ok {w : Wd} {σ : L2.St} {s : Py.St} {i : Nat} (rs : RS T w σ s) (h : Py.isL i s = true) : ∃ a xs, σ[i]? = some (some (.ref a)) ∧ w.H a = some (.lst xs) := by
  unfold Py.isL at h
  split at h
  · rename_i os e
    obtain ⟨v, e1, e2⟩ := rs.env i _ e
    cases e2 with
    | lst hl hH hs => exact ⟨_, _, e1, hH⟩
  · rename_i n e
    split at h
    · rename_i os e3
      obtain ⟨v, e1, e2⟩ := rs.env i _ e
      obtain ⟨b, f1, f2⟩ := rs.sto n _ e3
      cases e2 with
      | d e2 =>
        cases e2 with
        | cell g =>
          rw [f1] at g
          cases g
          cases f2 with
          | lst hl hH hs => exact ⟨_, _, e1, hH⟩
    · cases h
  · cases h
theorem isN_some {i : Nat} {s : Py.St} (h : Py.isN i s = true) : ∃ o, s.env[i]? = some (some o) := by
  unfold Py.isN at h
  split at h
  · rename_i o e
    exact ⟨o, e⟩
  · cases h
theorem tyL {K : PySem.W.Frag} {H : Hp} {a : Addr} {xs : List V} (h : H a = some (.lst xs)) : tyV K "list" (.ref a) H := .inl ⟨rfl, xs, .inl (.inl h)⟩
/-- a local name that is read -/
def visC (sc : Scope) (N : List Str) (x : Str) (i : Nat) : Bool :=
  decide (N[i]? = some x) && (match sc.names.lookup x with
    | some .local | some .cell | some .free => true
    | _ => false) && !(x == ("__debug__" : Str)) && !(x == ("__classdict__" : Str))
theorem visC_pe {i : Nat} {x : Str} {p : Pos} (h : visC X.env.scope X.N x i = true) : PE X (.Name x p) (tVar i) := by
  unfold visC at h
  simp only [Bool.and_eq_true, decide_eq_true_eq, Bool.not_eq_true'] at h
  obtain ⟨⟨⟨h1, h2⟩, h3⟩, h4⟩ := h
  refine pe_var h1 ?_ h3 h4
  split at h2
  · rename_i e; exact .inl e
  · rename_i e; exact .inr (.inl e)
  · rename_i e; exact .inr (.inr e)
  · cases h2
theorem simS_app {e : Expr} {E : Py.E} {i : Nat} {x : Str} {p ap cp pos : Pos} (hv : visC X.env.scope X.N x i = true) (n : notStar e = true) (hl : (ap.endLine == cp.line) = true) (h : SimE T c X e E) :
    SimS T c X (.Expr (.Call (.Attribute (.Name x p) "append" ap) [e] [] cp) pos) (.app (.var i) E) := by
  intro w σ s out s' rs ev D W tk d
  simp only [Py.ex, Py.evPath] at ev
  by_cases hn : Py.isN i s = true
  case neg => rw [if_neg hn] at ev; cases ev
  rw [if_pos hn] at ev
  simp only at ev
  split at ev
  · rename_i hc
    rw [Bool.and_eq_true] at hc
    split at ev
    · rename_i o s2 e1
      cases hm : Py.modR i [] (Py.appAt (.d o.toD)) s2 with
      | none => rw [hm] at ev; cases ev
      | some r =>
        obtain ⟨x', s3⟩ := r
        rw [hm] at ev
        simp only [Option.map_some, Option.some.injEq, Prod.mk.injEq] at ev
        obtain ⟨rfl, rfl⟩ := ev
        obtain ⟨a, xs, f1, f2⟩ := isL_ok rs hc.2
        refine WS.of (ps_expr (pe_bm PySem.F.plainAttrs_list PySem.F.slot_list_append PySem.F.type_list_append mt_append (visC_pe hv) (pa_cons pe_self pa_nil (starEach_not n [] X.env)) (by rfl) (by rw [starEach_not n]; rfl) hl (starEach_not n [] X.env) (by rfl)) (by rfl)) ?_
        refine ⟨.ref a, f1, tyL f2, ?_⟩
        refine h false w σ s o s2 rs e1 _ fun v w1 st1 rs1 q1 p1 => ?_
        obtain ⟨w2, h2, st2, rs2, r2, _⟩ := p1.res.toD st1 rs1
        obtain ⟨v', u, r, π, sub, sub', g1, g2, g3, g4, g5⟩ := mod_ok rs2 hm
        rw [f1] at g1
        cases g1
        have : u = .ref a := g2
        subst this
        obtain ⟨a', xs', k1, k2, k3, k4, k5⟩ := app_at g3 r2 g4
        cases k1
        obtain ⟨st3, rs3⟩ := g5 a _ rfl k2 k5
        rw [← h2]
        exact ⟨a, xs', v, rfl, rfl, k3, k4, d _ σ (st2.trans st3) rs3⟩
    · cases ev
  · cases ev
theorem swS {e o k : Expr} {p : Pos} {l : Nat} {env : Env} : swapsWith e (some (.Subscript o k p)) l env = pure false := by
  cases e <;> rfl
def setAny : TSet := fun o i v H Q => rSetL o i v H Q ∨ rSetD o i v H Q
theorem set_any (hu : X.A.units + 1 < cLine) : PSet X setAny := by
  intro pins s σ H o i v ov iv u Q I ro ri rv h
  rcases h with h | h
  · exact set_list pins s σ H o i v ov iv u Q I ro ri rv h
  · exact set_dict hu pins s σ H o i v ov iv u Q I ro ri rv h
theorem simS_setK {k e : Expr} {K E : Py.E} {i : Nat} {x : Str} {p sp pos : Pos} (hu : X.A.units + 64 < cLine) (hv : visC X.env.scope X.N x i = true)
    (ha : ∀ v, assign (.Subscript (.Name x p) k sp) X.env v = (do
      let ov ← holding [v] (eval (.Name x p) X.env)
      let iv ← holding [v, ov] (eval k X.env)
      standAt sp
      holding [v, ov, iv] (setItem ov iv v)
      release [v, ov, iv] [])) (hk : SimE T c X k K) (h : SimE T c X e E) :
    SimS T c X (.Assign [.Subscript (.Name x p) k sp] e pos) (.set (.var i) K E) := by
  intro w σ s out s' rs ev D W tk d
  simp only [Py.ex, Py.evPath] at ev
  split at ev
  · rename_i o s1 e1
    by_cases hn : Py.isN i s1 = true
    case neg => rw [if_neg hn] at ev; cases ev
    rw [if_pos hn] at ev
    simp only at ev
    split at ev
    · rename_i kd s3 e3
      cases hm : Py.modR i [] (Py.setAt kd (.d o.toD)) s3 with
      | none => rw [hm] at ev; cases ev
      | some r =>
        obtain ⟨x', s4⟩ := r
        rw [hm] at ev
        simp only [Option.map_some, Option.some.injEq, Prod.mk.injEq] at ev
        obtain ⟨rfl, rfl⟩ := ev
        refine WS.of (ps_asg pe_self (pg_sub (visC_pe hv) pe_self (set_any (by omega)) ha) (show swapsWith e (some (.Subscript (.Name x p) k sp)) pos.line X.env = pure false from swS) (by rfl) (by rfl)) ?_
        refine h false w σ s o s1 rs e1 _ fun v w1 st1 rs1 q1 p1 => ?_
        obtain ⟨w2, h2, st2, rs2, r2, _⟩ := p1.res.toD st1 rs1
        rw [← h2]
        -- what the name holds does not change by the key
        have tail : ∀ u, σ[i]? = some (some u) → gSub (tVar i) (WE X k) setAny v σ w2.H D.nx := by
          intro u hu'
          refine ⟨u, hu', ?_⟩
          refine hk false w2 σ s1 _ s3 rs2 e3 _ fun kv w3 st3 rs3 q3 p3 => ?_
          obtain ⟨v', u', r, π, sub, sub', g1, g2, g3, g4, g5⟩ := mod_ok rs3 hm
          rw [hu'] at g1
          cases g1
          have : u' = u := g2
          subst this
          obtain ⟨a, ob, rfl, k2, k3, k4⟩ := set_at g3 p3.res.of_d (r2.mono st3.g st3.f) g4
          obtain ⟨st4, rs4⟩ := g5 a ob rfl k2 k3
          have fin := d _ σ ((st2.trans st3).trans st4) rs4
          rcases k4 with ⟨xs, ii, j, rfl, hH, hj, rfl⟩ | ⟨kvs, key, rfl, hH, hz, rfl⟩
          · exact .inl ⟨a, xs, ii, j, rfl, rfl, hH, hj, fin⟩
          · exact .inr ⟨a, _, rfl, DPut.k hH hz, fin⟩
        obtain ⟨o', he⟩ := isN_some hn
        obtain ⟨u, hu', _⟩ := rs2.env i o' he
        exact tail u hu'
    · cases ev
  · cases ev
end
end PyS
end

section
set_option Elab.async false
set_option linter.all false
set_option maxRecDepth 100000
set_option maxHeartbeats 2000000
/-! ZB: pops, dict displays, attributes set, several names at once. -/
namespace PyS
open PySem L2
variable {T : Tb}
section
variable {c : Py.Cx} {X : Cx}
/-! ### pop -/
/-- a place, and its reading -/
structure Plc (T : Tb) (c : Py.Cx) (X : Cx) (p : Expr) (P : Py.E) (i : Nat) (ks : List Py.D) : Prop where
  ev : ∀ s r, Py.evPath c P s = some r → r = (i, ks, s) ∧ Py.isN i s = true
  rd : ∀ (w : Wd) (σ : L2.St) (v u : V) (Q : VK), LabOk w → σ[i]? = some (some v) → ReadsL T w v ks u → Q u w.H → WE X p σ w.H Q
theorem plc0 {i : Nat} {x : Str} {p : Pos} (hv : visC X.env.scope X.N x i = true) : Plc T c X (.Name x p) (.var i) i [] := by
  refine ⟨fun s r h => ?_, fun w σ v u Q ok e r q => ?_⟩
  · simp only [Py.evPath] at h
    split at h
    · rename_i hn
      exact ⟨(Option.some.inj h).symm, hn⟩
    · cases h
  · cases r
    exact WE.of (visC_pe hv) ⟨_, e, q⟩
theorem plc1 {i : Nat} {x : Str} {p sp : Pos} {k : Expr} {kd : Py.D} {kv : V} (hu : X.A.units + 64 < cLine) (hv : visC X.env.scope X.N x i = true) (pk : PE X k (tC kv)) (rk : ∀ G φ, Rep T G φ kv kd) (hs : notSlice k = true) : Plc T c X (.Subscript (.Name x p) k sp) (.idx (.var i) (.con kd)) i [kd] := by
  refine ⟨fun s r h => ?_, fun w σ v u Q ok e r q => ?_⟩
  · simp only [Py.evPath, Py.ev] at h
    by_cases hn : Py.isN i s = true
    · rw [if_pos hn] at h
      exact ⟨(Option.some.inj h).symm, hn⟩
    · rw [if_neg hn] at h
      cases h
  · obtain ⟨z, h1, rfl⟩ := r
    rcases h1 kv (rk _ _) with ⟨a, xs, j, rfl, rfl, hH, hx⟩ | ⟨a, kvs, key, rfl, rfl, hH, hx⟩
    · refine WE.of (pe_ix ix_seq (visC_pe hv) pk (plainIx hs)) ?_
      exact ⟨_, e, .inl ⟨a, xs, j, _, rfl, rfl, SqL.of hH, hx, q⟩⟩
    · refine WE.of (pe_dget (by omega) (visC_pe hv) pk (plainIx hs)) ?_
      refine ⟨_, e, a, _, rfl, ?_, q⟩
      rw [← hx]
      exact DGet.k hH
/-- the list a pop works on is not too long -/
theorem pop_body {w : Wd} {σ : L2.St} {s s' : Py.St} {i : Nat} {ks : List Py.D} {ds : List Py.D} {us : List V} {x : Py.O} (rs : RS T w σ s) (e : Py.modR i ks (Py.popAt ds) s = some (x, s')) (rd : Reps T w.G w.φ us ds) :
    ∃ v a xs y, σ[i]? = some (some v) ∧ ReadsL T w v ks (.ref a) ∧ w.H a = some (.lst xs) ∧
      ∀ (Q : VK), (∀ w', Stp w w' → RS T w' σ s' → Res T w w' y x → Q y w'.H) → (us = [] → rPop (.ref a) us w.H Q) ∧ (us ≠ [] → rPopAt (.ref a) us w.H Q) := by
  obtain ⟨v, u, r, π, sub, sub', g1, g2, g3, g4, g5⟩ := mod_ok rs e
  obtain ⟨a, xs, j, y, d, rfl, hl, hH, rfl, ry, hq⟩ := pop_at g3 rd g4
  refine ⟨v, a, xs, y, g1, g2, hH, fun Q q => ⟨fun hu => ?_, fun hu => ?_⟩⟩
  · rcases hq with ⟨rfl, hy, hr⟩ | ⟨i', rfl, _⟩
    · obtain ⟨st, rs'⟩ := g5 a _ rfl hl hr
      exact ⟨a, xs, y, rfl, rfl, hH, hy, q _ st rs' (Res.d ry)⟩
    · cases hu
  · rcases hq with ⟨rfl, _⟩ | ⟨i', rfl, ⟨b1, b2⟩, hj, hy, hr⟩
    · exact absurd rfl hu
    · obtain ⟨st, rs'⟩ := g5 a _ rfl hl hr
      exact ⟨a, xs, i', j, y, rfl, rfl, hH, by omega, by omega, (ixN_seq hj).1, hy, q _ st rs' (Res.d ry)⟩
theorem sim_pop0 {p : Expr} {P : Py.E} {i : Nat} {ks : List Py.D} {ap cp : Pos} (pl : Plc T c X p P i ks) (hb : attributeBase p "pop" X.env (eval p X.env) = eval p X.env) (hl : (ap.endLine == cp.line) = true) :
    SimE T c X (.Call (.Attribute p "pop" ap) [] [] cp) (.pop P []) := by
  intro m w σ s o s' rs ev Q q
  simp only [Py.ev] at ev
  split at ev
  · rename_i i' ks' s1 e1
    obtain ⟨e2, hn⟩ := pl.ev _ _ e1
    cases e2
    simp only [List.all_nil, Bool.or_true, if_true, Py.evs] at ev
    obtain ⟨v, a, xs, y, g1, g2, hH, g4⟩ := pop_body (us := []) rs ev .nil
    refine WE.of (pe_bm0 PySem.F.plainAttrs_list PySem.F.slot_list_pop PySem.F.type_list_pop mt_pop pe_self hb hl) ?_
    refine pl.rd w σ v _ _ rs.toLabOk g1 g2 ?_
    exact ⟨tyL hH, (g4 Q fun w' st rs' r => q y w' st rs' (fun qq => by simp only [Py.E.quiet] at qq; cases qq) (PO.of r)).1 rfl⟩
  · cases ev
/-- .. with a constant index -/
theorem sim_popC {p : Expr} {P : Py.E} {i : Nat} {ks : List Py.D} {ap cp kp : Pos} {n : Int} {j : Nat} (pl : Plc T c X p P i ks) (hb : attributeBase p "pop" X.env (eval p X.env) = eval p X.env) (hl : (ap.endLine == cp.line) = true) :
    SimE T c X (.Call (.Attribute p "pop" ap) [.Constant (.int n) j kp] [] cp) (.pop P [.con (.int n)]) := by
  intro m w σ s o s' rs ev Q q
  simp only [Py.ev] at ev
  split at ev
  · rename_i i' ks' s1 e1
    obtain ⟨e2, hn⟩ := pl.ev _ _ e1
    cases e2
    simp only [List.all_cons, List.all_nil, Py.E.isCon, Bool.and_true, Bool.or_true, if_true, Py.evs, Py.ev] at ev
    obtain ⟨v, a, xs, y, g1, g2, hH, g4⟩ := pop_body (us := [.int n]) rs ev (.cons (.int n) .nil)
    refine WE.of (pe_bm PySem.F.plainAttrs_list PySem.F.slot_list_pop PySem.F.type_list_pop mt_popAt pe_self (pa_cons pe_int pa_nil) hb (by rfl) hl (by rfl) (by rfl)) ?_
    refine pl.rd w σ v _ _ rs.toLabOk g1 g2 ?_
    exact ⟨tyL hH, (g4 Q fun w' st rs' r => q y w' st rs' (fun qq => by simp only [Py.E.quiet] at qq; cases qq) (PO.of r)).2 (by simp)⟩
  · cases ev
/-- .. of a name, any index -/
theorem sim_pop1 {i : Nat} {x : Str} {p ap cp : Pos} {e : Expr} {E : Py.E} (hv : visC X.env.scope X.N x i = true) (hnc : Py.E.isCon E = false) (n : notStar e = true) (n' : isStarE E = false) (hl : (ap.endLine == cp.line) = true) (h : SimE T c X e E) :
    SimE T c X (.Call (.Attribute (.Name x p) "pop" ap) [e] [] cp) (.pop (.var i) [E]) := by
  intro m w σ s o s' rs ev Q q
  simp only [Py.ev] at ev
  split at ev
  · rename_i i' ks' s1 e1
    obtain ⟨e2, hn⟩ := (plc0 (T := T) (c := c) (X := X) (p := p) hv).ev _ _ e1
    cases e2
    split at ev
    · rename_i hc
      simp only [List.isEmpty_nil, Bool.true_and, List.all_cons, hnc, Bool.false_and, Bool.or_false] at hc
      split at ev
      · rename_i ds s2 e3
        obtain ⟨a, xs, f1, f2⟩ := isL_ok rs hc
        refine WE.of (pe_bm PySem.F.plainAttrs_list PySem.F.slot_list_pop PySem.F.type_list_pop mt_popAt (visC_pe hv) (pa_cons pe_self pa_nil (starEach_not n [] X.env)) (by rfl) (by rw [starEach_not n]; rfl) hl (starEach_not n [] X.env) (by rfl)) ?_
        refine ⟨.ref a, f1, tyL f2, ?_⟩
        have hs : SimEs T c X [e] [E] := sims_cons n n' h sims_nil
        have hlen := evs_len (Es := [E]) (by simp [n']) e3
        rw [evs_cons n'] at e3
        split at e3
        · rename_i o1 s3 e4
          simp only [Py.evs, Option.some.injEq, Prod.mk.injEq] at e3
          obtain ⟨rfl, rfl⟩ := e3
          refine h false w σ s o1 s3 rs e4 _ fun v w1 st1 rs1 q1 p1 => ?_
          obtain ⟨w2, h2, st2, rs2, r2, _⟩ := p1.res.toD st1 rs1
          obtain ⟨v', a', xs', y, g1, g2, hH, g4⟩ := pop_body (us := [v]) rs2 ev (.cons r2 .nil)
          rw [f1] at g1
          cases g1
          have : V.ref a' = .ref a := g2
          cases this
          rw [← h2]
          show rPopAt (.ref a) [v] w2.H Q
          exact (g4 Q fun w' st rs' r => q y w' (st2.trans st) rs' (fun qq => by simp only [Py.E.quiet] at qq; cases qq) (PO.of (r.from st2))).2 (by simp)
        · cases e3
      · cases ev
    · cases ev
  · cases ev
/-! ### self.x = e -/
theorem RepOf.len {w : Wd} {r : Root} {π : List Nat} : ∀ {j : Nat} {vs : List (Str × V)} {os : List (Nat × Py.O)}, RepOf T w r π j vs os → vs.length = os.length
  | _, _, _, .nil => rfl
  | _, _, _, .cons _ b => by rw [List.length_cons, List.length_cons, b.len]
theorem RepOf.put {w : Wd} {r : Root} {π : List Nat} {v : V} {d : Py.D} (inj : ∀ f g, T.nm f = T.nm g → f = g) (f : Nat) (h : Rep T w.G w.φ v d) : ∀ {vs : List (Str × V)} {os : List (Nat × Py.O)} {j : Nat}, RepOf T w r π j vs os → RepOf T w r π j (L2.putF (T.nm f) v vs) (Py.putF f (.d d) os)
  | _, _, _, .nil => .cons (.d h) .nil
  | _, _, _, @RepOf.cons _ _ _ _ _ g v' _ _ _ a b => by
    rw [L2.putF, Py.putF]
    by_cases e : g = f
    · subst e
      rw [if_pos rfl, if_pos rfl]
      exact .cons (.d h) b
    · rw [if_neg e, if_neg fun z => e (inj _ _ z)]
      exact .cons a (b.put inj f h)
theorem swA {e o : Expr} {f : Str} {p : Pos} {l : Nat} {env : Env} : swapsWith e (some (.Attribute o f p)) l env = pure false := by
  cases e <;> rfl
theorem simS_setA {e : Expr} {E : Py.E} {i f : Nat} {x : Str} {p ap pos : Pos} (F : Clss T) (hK : X.K = T.K) (hf : f < T.na) (hv : visC X.env.scope X.N x i = true) (h : SimE T c X e E) :
    SimS T c X (.Assign [.Attribute (.Name x p) (T.nm f) ap] e pos) (.setA i f E) := by
  intro w σ s out s' rs ev D W tk d
  simp only [Py.ex] at ev
  split at ev
  · rename_i o s1 e1
    split at ev
    · rename_i k l he
      split at ev
      · rename_i hz
        simp only [Option.some.injEq, Prod.mk.injEq] at ev
        obtain ⟨rfl, rfl⟩ := ev
        refine WS.of (ps_fld (visC_pe hv) pe_self swA) ?_
        refine h false w σ s o s1 rs e1 _ fun v w1 st1 rs1 q1 p1 => ?_
        obtain ⟨w2, h2, st2, rs2, r2, _⟩ := p1.res.toD st1 rs1
        obtain ⟨u, g1, g2⟩ := rs2.env i _ he
        rw [← h2]
        cases g2 with
        | @ins _ a C dx fs _ _ hl hC hH hs =>
          refine ⟨_, g1, a, C, dx, fs, rfl, hH, ?_, ?_, ?_, ?_⟩
          · rw [hK]; exact (F.one k C hC).cl
          · rw [hK]; exact F.na k C f hC hf
          · rw [hs.len]; omega
          · have hie : i < s1.env.length := (List.getElem?_eq_some_iff.mp he).1
            refine d { w2 with H := upd w2.H a (.ins C dx (L2.putF (T.nm f) v fs)) } σ (st2.trans ⟨GLe.refl _, PLe.refl _, fun b u h l => ?_, fun b h => ?_⟩) ⟨⟨fun b u h => ?_, fun b r' h => ⟨(rs2.lg b r' h).1, ?_⟩⟩, fun j y hj => ?_, fun n y hn => ?_, rs2.len, ?_⟩
            · have : b ≠ a := fun z => by rw [z, hl] at l; cases l
              exact ⟨(upd_ne this).trans h, l, rfl⟩
            · show upd w2.H a _ b ≠ none
              by_cases z : b = a
              · rw [z, upd_same]; exact fun q => nomatch q
              · rw [upd_ne z]; exact h
            · show upd w2.H a _ b = some u
              rw [upd_ne (fun z => by rw [z, (rs2.lg a _ hl).1] at h; cases h)]
              exact rs2.gh b u h
            · show upd w2.H a _ b ≠ none
              by_cases z : b = a
              · rw [z, upd_same]; exact fun q => nomatch q
              · rw [upd_ne z]; exact (rs2.lg b r' h).2
            · by_cases hji : j = i
              · subst hji
                rw [show (s1.env.set j _)[j]? = _ from List.getElem?_set_self hie] at hj
                cases hj
                exact ⟨_, g1, .ins hl hC upd_same ((RepOf.kid (mkid hl _) hs).put (w := { w2 with H := upd w2.H a (.ins C dx (L2.putF (T.nm f) v fs)) }) F.inj f r2)⟩
              · rw [show (s1.env.set i _)[j]? = s1.env[j]? from List.getElem?_set_ne (Ne.symm hji)] at hj
                obtain ⟨v', k1, k2⟩ := rs2.env j y hj
                refine ⟨v', k1, RepO.move (w := w2) (w' := { w2 with H := upd w2.H a (.ins C dx (L2.putF (T.nm f) v fs)) }) ⟨GLe.refl _, PLe.refl _, fun b ρ q => ⟨q, fun u hu => ?_⟩⟩ k2⟩
                show upd w2.H a _ b = some u
                rw [upd_ne (fun z => by rw [z, hl] at q; cases q; exact hji rfl)]
                exact hu
            · obtain ⟨v', k1, k2⟩ := rs2.sto n y hn
              refine ⟨v', k1, RepO.move (w := w2) (w' := { w2 with H := upd w2.H a (.ins C dx (L2.putF (T.nm f) v fs)) }) ⟨GLe.refl _, PLe.refl _, fun b ρ q => ⟨q, fun u hu => ?_⟩⟩ k2⟩
              show upd w2.H a _ b = some u
              rw [upd_ne (fun z => by rw [z, hl] at q; cases q)]
              exact hu
            · show (s1.env.set i _).length = σ.length
              rw [List.length_set]
              exact rs2.el
      · cases ev
    · cases ev
  · cases ev
end
end PyS
end

section
set_option Elab.async false
set_option linter.all false
set_option maxRecDepth 100000
set_option maxHeartbeats 2000000
/-! ZC: several names at once, dict displays, loops. -/
namespace PyS
open PySem L2
variable {T : Tb}
section
variable {c : Py.Cx} {X : Cx}
/-! ### a, b = x, y -/
/-- what a tuple display stored to a tuple of names does: swapped stores, and of which names (none: the model does not say) -/
def swNames (sc : Scope) (ts : List Expr) : List Str := ts.filterMap fun
  | .Name id pos => if sc.names.lookup id == some .local && pos.line == (ts.head?.map (·.pos.line)).getD 0 then some id else none
  | _ => none
def swC1 (sc : Scope) (ts vs : List Expr) : Bool := !(ts.length == 2 || ts.length == 3) || vs.length != ts.length || (if sc.kind.isAnnotationScope then ScopeKind.function else sc.kind) != .function
def swC2 (vs : List Expr) : Bool := vs.any fun | .Starred .. => true | _ => false
def swC3 (ts : List Expr) (names : List Str) : Bool := names.length != ts.length || names.eraseDups.length != names.length
def swSt (sc : Scope) (ts vs : List Expr) : Option (Option (List Str)) :=
  if swC1 sc ts vs = true then some none else if swC2 vs = true then some none else if swC3 ts (swNames sc ts) = true then some none else
  if (vs.all (foldedForSure 8)) = true then some none else if (vs.all (constantsAlone 8)) = true then none else some (some (swNames sc ts))
theorem swSt_ok {env : Env} {ts vs : List Expr} {k k2 : Nat} {p p2 : Pos} {r : Option (List Str)} (h : swSt env.scope ts vs = some r) : swappedStores [.Tuple ts k p] (.Tuple vs k2 p2) env = pure r := by
  unfold swSt at h
  unfold swappedStores
  by_cases h1 : swC1 env.scope ts vs = true
  · rw [if_pos h1] at h
    cases h
    exact if_pos h1
  rw [if_neg h1] at h
  refine (if_neg h1).trans ?_
  by_cases h2 : swC2 vs = true
  · rw [if_pos h2] at h
    cases h
    exact if_pos h2
  rw [if_neg h2] at h
  refine (if_neg h2).trans ?_
  by_cases h3 : swC3 ts (swNames env.scope ts) = true
  · rw [if_pos h3] at h
    cases h
    exact if_pos h3
  rw [if_neg h3] at h
  refine (if_neg h3).trans ?_
  by_cases h4 : (vs.all (foldedForSure 8)) = true
  · rw [if_pos h4] at h
    cases h
    exact if_pos h4
  rw [if_neg h4] at h
  refine (if_neg h4).trans ?_
  by_cases h5 : (vs.all (constantsAlone 8)) = true
  · rw [if_pos h5] at h
    cases h
  · rw [if_neg h5] at h
    cases h
    exact if_neg h5
/-- the names that get the values -/
def locsC (sc : Scope) (fq : Str → Bool) (N : List Str) : List Nat → List Expr → Bool
  | [], [] => true
  | i :: is, .Name x _ :: es => locC sc fq N x i && locsC sc fq N is es
  | _, _ => false
theorem locsC_len {sc : Scope} {fq : Str → Bool} {N : List Str} : ∀ {is : List Nat} {es : List Expr}, locsC sc fq N is es = true → es.length = is.length
  | [], [], _ => rfl
  | i :: is, e :: es, h => by
    cases e with
    | Name x p =>
      rw [locsC, Bool.and_eq_true] at h
      rw [List.length_cons, List.length_cons, locsC_len h.2]
    | _ => simp [locsC] at h
  | [], _ :: _, h => by simp [locsC] at h
  | _ :: _, [], h => by simp [locsC] at h
theorem locsC_tgs {sc : Scope} {fq : Str → Bool} {N : List Str} : ∀ {is : List Nat} {es : List Expr}, locsC sc fq N is es = true → tgCs sc fq N (is.map .nm) es = true
  | [], [], _ => rfl
  | i :: is, e :: es, h => by
    cases e with
    | Name x p =>
      rw [locsC, Bool.and_eq_true] at h
      rw [List.map_cons, tgCs, tgC, h.1, locsC_tgs h.2]
      rfl
    | _ => simp [locsC] at h
  | [], _ :: _, h => by simp [locsC] at h
  | _ :: _, [], h => by simp [locsC] at h
theorem locsC_lt {X : Cx} : ∀ {is : List Nat} {es : List Expr}, locsC X.env.scope X.fn X.N is es = true → ∀ i ∈ is, i < X.N.length
  | [], [], _, i, h => by simp at h
  | j :: is, e :: es, h, i, hi => by
    cases e with
    | Name x p =>
      rw [locsC, Bool.and_eq_true] at h
      rcases List.mem_cons.mp hi with q | q
      · subst q
        exact (List.getElem?_eq_some_iff.mp (locC_ok h.1).1).1
      · exact locsC_lt h.2 i q
    | _ => simp [locsC] at h
  | [], _ :: _, h, _, _ => by simp [locsC] at h
  | _ :: _, [], h, _, _ => by simp [locsC] at h
theorem gTs_set {K : PySem.W.Frag} : ∀ {is : List Nat} {vs : List V} {σ : L2.St} {H : Hp} {Q : L2.St → Hp → Prop}, vs.length = is.length → Q (setL is vs σ) H → gTs K (is.map .nm) vs σ H Q
  | [], [], _, _, _, _, q => ⟨rfl, q⟩
  | i :: is, v :: vs, σ, H, Q, hl, q => ⟨v, vs, rfl, gTs_set (Nat.succ.inj hl) q⟩
  | [], _ :: _, _, _, _, hl, _ => by simp at hl
  | _ :: _, [], _, _, _, hl, _ => by simp at hl
theorem evOs_len : ∀ {Es : List Py.E} {s : Py.St} {os : List Py.O} {s' : Py.St}, Py.evOs c Es s = some (os, s') → os.length = Es.length
  | [], s, os, s', e => by
    simp only [Py.evOs, Option.some.injEq, Prod.mk.injEq] at e
    rw [← e.1] <;> rfl
  | E :: Es, s, os, s', e => by
    rw [Py.evOs] at e
    split at e
    · split at e
      · rename_i e2
        simp only [Option.some.injEq, Prod.mk.injEq] at e
        rw [← e.1, List.length_cons, List.length_cons, evOs_len e2]
      · cases e
    · cases e
theorem stEs_len : ∀ {is : List Nat} {os : List Py.O} {s s' : Py.St}, Py.stEs c is os s = some s' → os.length = is.length
  | [], [], _, _, _ => rfl
  | i :: is, o :: os, s, s', e => by
    rw [Py.stEs] at e
    split at e
    · cases e
    · rw [List.length_cons, List.length_cons, stEs_len e]
  | [], _ :: _, _, _, e => by simp [Py.stEs] at e
  | _ :: _, [], _, _, e => by simp [Py.stEs] at e
theorem par_in {is : List Nat} {Es : List Py.E} {s : Py.St} {out : Py.Out} {s' : Py.St} (ev : Py.ex c (.par is Es) s = some (out, s')) : ∃ os s1, Py.evOs c Es s = some (os, s1) ∧ Py.stEs c is os s1 = some s' ∧ out = .nx := by
  simp only [Py.ex] at ev
  split at ev
  · rename_i os s1 e1
    cases e2 : Py.stEs c is os s1 with
    | none => rw [e2] at ev; cases ev
    | some s2 =>
      rw [e2] at ev
      simp only [Option.map_some, Option.some.injEq, Prod.mk.injEq] at ev
      obtain ⟨rfl, rfl⟩ := ev
      exact ⟨os, s1, e1, e2, rfl⟩
  · cases ev
/-- stored one after another -/
theorem simS_parN {ts es : List Expr} {is : List Nat} {Es : List Py.E} {k k2 : Nat} {p p2 pos : Pos} (hc : X.calm = true) (hN : X.N.Nodup) (hl : locsC X.env.scope X.fn X.N is ts = true) (hw : swSt X.env.scope ts es = some none) (hz : es.length ≤ 1000) (h : SimOs T c X es Es) (hes : es.length = Es.length) :
    SimS T c X (.Assign [.Tuple ts k p] (.Tuple es k2 p2) pos) (.par is Es) := by
  intro w σ s out s' rs ev D W tk d
  obtain ⟨os, s1, e1, e2, rfl⟩ := par_in ev
  have ht := locsC_tgs hl
  intro pins sh I
  refine (WS.of (ps_asg (pe_tup pa_self) (pg_tg (t := .tup (is.map .nm)) hc hN (show tgC X.env.scope X.fn X.N (.tup (is.map .nm)) (.Tuple ts k p) = true by rw [tgC]; exact ht)) (by rfl) (swSt_ok hw) (by rfl)) ?_) pins sh I
  refine h w σ s os s1 rs e1 _ fun vs w1 st1 rs1 r1 => ?_
  have hlen : vs.length = is.length := r1.1.trans (stEs_len e2)
  refine ⟨?_, fun q hq => ?_⟩
  · have := evOs_len e1
    have := r1.1
    have h2 : sizeLine = 2 ^ 24 := by first | rfl | exact sizeLine_eq
    omega
  · obtain ⟨a1, a2⟩ := rs1.alloc hq (.tup vs)
    refine ⟨q, vs, rfl, .inl (.inl upd_same), ?_, ?_⟩
    · rw [List.length_map]; exact hlen
    · refine gTs_set hlen ?_
      obtain ⟨w3, h3, st3, rs3⟩ := store_all (c := c) (r1.same a1) (st1.trans a1) a2 (fun i hi => by rw [I.len]; exact locsC_lt hl i hi) e2
      have := d w3 _ st3 rs3
      rw [show upd w1.H q (.tup vs) = w3.H from h3.symm]
      exact this
/-- two names, stored from the right -/
theorem simS_par2 {x y : Str} {px py p p2 pos : Pos} {a b : Expr} {i j : Nat} {Es : List Py.E} {k k2 : Nat} (hc : X.calm = true) (hN : X.N.Nodup) (hi : locC X.env.scope X.fn X.N x i = true) (hj : locC X.env.scope X.fn X.N y j = true) (hij : i ≠ j)
    (hx : X.env.scope.names.lookup x = some .local) (hy : X.env.scope.names.lookup y = some .local) (hw : swSt X.env.scope [.Name x px, .Name y py] [a, b] = some (some [x, y])) (h : SimOs T c X [a, b] Es) :
    SimS T c X (.Assign [.Tuple [.Name x px, .Name y py] k p] (.Tuple [a, b] k2 p2) pos) (.par [i, j] Es) := by
  intro w σ s out s' rs ev D W tk d
  obtain ⟨os, s1, e1, e2, rfl⟩ := par_in ev
  intro pins sh I
  refine (WS.of (ps_par hc hN (locC_ok hi).1 (locC_ok hj).1 hij hx hy pa_self (swSt_ok hw) (by rfl)) ?_) pins sh I
  refine h w σ s os s1 rs e1 _ fun vs w1 st1 rs1 r1 => ?_
  have hlen : vs.length = [i, j].length := r1.1.trans (stEs_len e2)
  match vs, hlen, r1 with
  | [v, u], _, r1 =>
    obtain ⟨w3, h3, st3, rs3⟩ := store_all (c := c) r1 st1 rs1 (fun l hl => by
      rw [I.len]
      simp only [List.mem_cons, List.not_mem_nil, or_false] at hl
      rcases hl with q | q
      · rw [q]; exact (List.getElem?_eq_some_iff.mp (locC_ok hi).1).1
      · rw [q]; exact (List.getElem?_eq_some_iff.mp (locC_ok hj).1).1) e2
    refine ⟨v, u, rfl, ?_⟩
    rw [← h3]
    exact d w3 _ st3 rs3
/-- three -/
theorem simS_par3 {x y z : Str} {px py pz p p2 pos : Pos} {a b e : Expr} {i j l : Nat} {Es : List Py.E} {k k2 : Nat} (hc : X.calm = true) (hN : X.N.Nodup) (hi : locC X.env.scope X.fn X.N x i = true) (hj : locC X.env.scope X.fn X.N y j = true) (hl : locC X.env.scope X.fn X.N z l = true)
    (hij : i ≠ j) (hil : i ≠ l) (hjl : j ≠ l) (hx : X.env.scope.names.lookup x = some .local) (hy : X.env.scope.names.lookup y = some .local) (hz : X.env.scope.names.lookup z = some .local)
    (hw : swSt X.env.scope [.Name x px, .Name y py, .Name z pz] [a, b, e] = some (some [x, y, z])) (h : SimOs T c X [a, b, e] Es) :
    SimS T c X (.Assign [.Tuple [.Name x px, .Name y py, .Name z pz] k p] (.Tuple [a, b, e] k2 p2) pos) (.par [i, j, l] Es) := by
  intro w σ s out s' rs ev D W tk d
  obtain ⟨os, s1, e1, e2, rfl⟩ := par_in ev
  intro pins sh I
  refine (WS.of (ps_par3 hc hN (locC_ok hi).1 (locC_ok hj).1 (locC_ok hl).1 hij hil hjl hx hy hz pa_self (swSt_ok hw) (by rfl)) ?_) pins sh I
  refine h w σ s os s1 rs e1 _ fun vs w1 st1 rs1 r1 => ?_
  have hlen : vs.length = [i, j, l].length := r1.1.trans (stEs_len e2)
  match vs, hlen, r1 with
  | [v, u, t], _, r1 =>
    obtain ⟨w3, h3, st3, rs3⟩ := store_all (c := c) r1 st1 rs1 (fun n hn => by
      rw [I.len]
      simp only [List.mem_cons, List.not_mem_nil, or_false] at hn
      rcases hn with q | q | q
      · rw [q]; exact (List.getElem?_eq_some_iff.mp (locC_ok hi).1).1
      · rw [q]; exact (List.getElem?_eq_some_iff.mp (locC_ok hj).1).1
      · rw [q]; exact (List.getElem?_eq_some_iff.mp (locC_ok hl).1).1) e2
    refine ⟨v, u, t, rfl, ?_⟩
    rw [← h3]
    exact d w3 _ st3 rs3
/-! ### loops -/
theorem simS_for {tg iter : Expr} {body : List Stmt} {t : Py.Tg} {k : Option Py.Itk} {Es : List Py.E} {B : List Py.S} {pos : Pos} (hp : PassesOwn (model X.prog X.w) X.A X.env X.xe) (hc : X.calm = true) (hN : X.N.Nodup) (ht : tgC X.env.scope X.fn X.N t tg = true)
    (hf : ∀ x, foldedSetIterable iter X.env x = pure x) (hi : SimI T c X tg iter k Es) (hb : SimB T c X body B) : SimS T c X (.For tg iter body [] pos) (.for_ t k Es B) := by
  intro w σ s out s' rs ev D W tk d
  simp only [Py.ex] at ev
  split at ev
  · rename_i ds s1 e1
    split at ev
    · rename_i xs e2
      refine WS.of (ps_for hp hc pi_self (pg_tg hc hN ht) pb_self hf) ?_
      refine hi w σ s ds s1 xs rs e1 e2 _ fun J w1 st1 rs1 yl => ?_
      generalize hfn : (fun (x : Py.D) (s : Py.St) => match Py.bindT t x s.env with
        | some env => Py.exs c B { s with env := env }
        | none => none) = f at ev
      let Iv : Nat → L2.St → Hp → Prop := fun i σ H => ∃ (w' : Wd) (s2 : Py.St), w'.H = H ∧ Stp w1 w' ∧ RS T w' σ s2 ∧ Py.forLoop f (xs.drop i) s2 = some (out, s')
      refine ⟨fun i n σ H => n = xs.length - i ∧ i ≤ xs.length ∧ Iv i σ H, ⟨_, rfl, Nat.zero_le _, w1, s1, rfl, Stp.refl _, rs1, ev⟩, ?_⟩
      rintro i n σ2 H ⟨rfl, hle, w2, s2, rfl, st2, rs2, lp⟩
      by_cases hlt : i < xs.length
      · refine .inr ⟨yl.go i w2 st2.lat rs2.toLabOk hlt, Iv (i + 1), fun σ' H' q => ⟨xs.length - (i + 1), by omega, rfl, hlt, q⟩, fun x H' y => ?_⟩
        have hd : xs[i]? = some xs[i] := List.getElem?_eq_getElem hlt
        obtain ⟨w3, rfl, st3, rs3, rx⟩ := yl.yld i w2 _ _ x H' _ st2.lat rs2 hd y
        rw [List.drop_eq_getElem_cons hlt, Py.forLoop] at lp
        cases hfx : f xs[i] s2 with
        | none => rw [hfx] at lp; cases lp
        | some r =>
          obtain ⟨o1, s3⟩ := r
          rw [hfx] at lp
          rw [← hfn] at hfx
          simp only at hfx
          cases hbd : Py.bindT t xs[i] s2.env with
          | none => rw [hbd] at hfx; cases hfx
          | some env =>
            rw [hbd] at hfx
            simp only at hfx
            refine bind_tg (s := s2) rs3 rx hbd _ fun σ3 rs4 _ => ?_
            refine hb w3 σ3 _ o1 s3 rs4 hfx _ W tk fun w4 σ4 st4 rs5 => ?_
            have st14 : Stp w1 w4 := (st2.trans st3).trans st4
            cases o1 with
            | nx => exact ⟨w4, s3, rfl, st14, rs5, lp⟩
            | cont => exact ⟨w4, s3, rfl, st14, rs5, lp⟩
            | brk =>
              simp only [Option.some.injEq, Prod.mk.injEq] at lp
              obtain ⟨rfl, rfl⟩ := lp
              exact d w4 σ4 (st1.trans st14) rs5
            | ret o =>
              simp only [Option.some.injEq, Prod.mk.injEq] at lp
              obtain ⟨rfl, rfl⟩ := lp
              exact fun v r => d w4 σ4 (st1.trans st14) rs5 v (r.from ((st1.trans st2).trans st3))
            | exc q =>
              simp only [Option.some.injEq, Prod.mk.injEq] at lp
              obtain ⟨rfl, rfl⟩ := lp
              exact d w4 σ4 (st1.trans st14) rs5
      · have hi' : i = xs.length := by omega
        subst hi'
        refine .inl ⟨yl.stop w2 st2.lat rs2.toLabOk, ?_⟩
        rw [List.drop_length, Py.forLoop] at lp
        simp only [Option.some.injEq, Prod.mk.injEq] at lp
        obtain ⟨rfl, rfl⟩ := lp
        exact d w2 σ2 (st1.trans st2) rs2
    · cases ev
  · cases ev
/-- how a loop's ways are told: with a count of its turns -/
def LpOk (lp : (Py.St → Option (Py.St ⊕ (Py.Out × Py.St))) → Py.St → Option (Py.Out × Py.St)) : Prop := ∀ f s r, lp f s = some r → ∃ n, Py.iter f n s = some r
theorem simS_whl {e : Expr} {E : Py.E} {body : List Stmt} {B : List Py.S} {pos : Pos} (hp : PassesOwn (model X.prog X.w) X.A X.env X.xe) (hlp : LpOk c.lp) (he : SimT T c X e E) (hb : SimB T c X body B) : SimS T c X (.While e body [] pos) (.whl E B) := by
  intro w σ s out s' rs ev D W tk d
  simp only [Py.ex] at ev
  obtain ⟨n0, it⟩ := hlp _ _ _ ev
  generalize hfn : (fun (s : Py.St) => match Py.ev c false E s with
      | some (.d (.bl true), s1) => match Py.exs c B s1 with
        | some (.nx, s2) => some (Sum.inl s2)
        | some (.cont, s2) => some (.inl s2)
        | some (.brk, s2) => some (.inr (Py.Out.nx, s2))
        | some (.ret o, s2) => some (.inr (.ret o, s2))
        | some (.exc q, s2) => some (.inr (.exc q, s2))
        | none => none
      | some (.d (.bl false), s1) => some (.inr (.nx, s1))
      | _ => none) = f at it
  refine WS.of (ps_while hp pt_self pb_self) ?_
  let Iv : Nat → L2.St → Hp → Prop := fun n σ H => ∃ (w' : Wd) (s2 : Py.St), w'.H = H ∧ Stp w w' ∧ RS T w' σ s2 ∧ Py.iter f n s2 = some (out, s')
  refine ⟨Iv, ⟨n0, w, s, rfl, Stp.refl _, rs, it⟩, ?_⟩
  rintro n σ2 H ⟨w2, s2, rfl, st2, rs2, it2⟩
  cases n with
  | zero => cases it2
  | succ n =>
    rw [Py.iter] at it2
    have hs : ∀ z, f s2 = z → (match Py.ev c false E s2 with
      | some (.d (.bl true), s1) => match Py.exs c B s1 with
        | some (.nx, s2) => some (Sum.inl s2)
        | some (.cont, s2) => some (.inl s2)
        | some (.brk, s2) => some (.inr (Py.Out.nx, s2))
        | some (.ret o, s2) => some (.inr (.ret o, s2))
        | some (.exc q, s2) => some (.inr (.exc q, s2))
        | none => none
      | some (.d (.bl false), s1) => some (.inr (.nx, s1))
      | _ => none) = z := fun z h => by rw [← h, ← hfn]
    cases hfx : f s2 with
    | none => rw [hfx] at it2; cases it2
    | some r =>
      rw [hfx] at it2
      have hb2 := hs _ hfx
      clear hs
      split at hb2
      · rename_i s3 e1
        refine he w2 σ2 s2 true s3 rs2 e1 _ fun w3 st3 rs3 _ => ?_
        rw [if_pos rfl]
        refine ⟨Iv n, fun σ' H' q => ⟨n, Nat.lt_succ_self _, q⟩, ?_⟩
        split at hb2
        · rename_i s4 e2
          cases hb2
          refine hb w3 σ2 s3 .nx s4 rs3 e2 _ W tk fun w4 σ4 st4 rs4 => ?_
          exact ⟨w4, s4, rfl, (st2.trans st3).trans st4, rs4, it2⟩
        · rename_i s4 e2
          cases hb2
          refine hb w3 σ2 s3 .cont s4 rs3 e2 _ W tk fun w4 σ4 st4 rs4 => ?_
          exact ⟨w4, s4, rfl, (st2.trans st3).trans st4, rs4, it2⟩
        · rename_i s4 e2
          cases hb2
          refine hb w3 σ2 s3 .brk s4 rs3 e2 _ W tk fun w4 σ4 st4 rs4 => ?_
          simp only [Option.some.injEq, Prod.mk.injEq] at it2
          obtain ⟨rfl, rfl⟩ := it2
          exact d w4 σ4 ((st2.trans st3).trans st4) rs4
        · rename_i o s4 e2
          cases hb2
          refine hb w3 σ2 s3 (.ret o) s4 rs3 e2 _ W tk fun w4 σ4 st4 rs4 => ?_
          simp only [Option.some.injEq, Prod.mk.injEq] at it2
          obtain ⟨rfl, rfl⟩ := it2
          exact fun v r => d w4 σ4 ((st2.trans st3).trans st4) rs4 v (r.from (st2.trans st3))
        · rename_i q s4 e2
          cases hb2
          refine hb w3 σ2 s3 (.exc q) s4 rs3 e2 _ W tk fun w4 σ4 st4 rs4 => ?_
          simp only [Option.some.injEq, Prod.mk.injEq] at it2
          obtain ⟨rfl, rfl⟩ := it2
          exact d w4 σ4 ((st2.trans st3).trans st4) rs4
        · cases hb2
      · rename_i s3 e1
        cases hb2
        refine he w2 σ2 s2 false s3 rs2 e1 _ fun w3 st3 rs3 _ => ?_
        rw [if_neg Bool.false_ne_true]
        simp only [Option.some.injEq, Prod.mk.injEq] at it2
        obtain ⟨rfl, rfl⟩ := it2
        exact d w3 σ2 (st2.trans st3) rs3
      · cases hb2
end
end PyS
end

section
set_option Elab.async false
set_option linter.all false
set_option maxRecDepth 100000
set_option maxHeartbeats 2000000
/-! ZD: dict displays. -/
namespace PyS
open PySem L2
variable {T : Tb}
/-- moved under one more index -/
structure Under (w w' : Wd) (r r' : Root) (n : Nat) : Prop where
  g : GLe w.G w'.G
  f : PLe w.φ w'.φ
  l : ∀ a π, w.lab a = some (r, π) → w'.lab a = some (r', n :: π) ∧ ∀ o, w.H a = some o → w'.H a = some o
mutual
theorem RepO.under {w w' : Wd} {r r' : Root} {n : Nat} (k : Under w w' r r' n) : ∀ {π : List Nat} {v : V} {o : Py.O}, RepO T w r π v o → RepO T w' r' (n :: π) v o
  | _, _, _, .d h => .d (h.mono k.g k.f)
  | _, _, _, .lst a b c => .lst (k.l _ _ a).1 ((k.l _ _ a).2 _ b) (c.under k)
  | _, _, _, .dic a b c => .dic (k.l _ _ a).1 ((k.l _ _ a).2 _ b) (c.under k)
  | _, _, _, .ins a t b c => .ins (k.l _ _ a).1 t ((k.l _ _ a).2 _ b) (c.under k)
  | _, _, _, .tab t a b c => .tab t (k.l _ _ a).1 ((k.l _ _ a).2 _ b) (c.mono k.g)
theorem RepOs.under {w w' : Wd} {r r' : Root} {n : Nat} (k : Under w w' r r' n) : ∀ {π : List Nat} {j : Nat} {v : List V} {o : List Py.O}, RepOs T w r π j v o → RepOs T w' r' (n :: π) j v o
  | _, _, _, _, .nil => .nil
  | _, _, _, _, .cons a b => .cons (a.under k) (b.under k)
theorem RepOk.under {w w' : Wd} {r r' : Root} {n : Nat} (k : Under w w' r r' n) : ∀ {π : List Nat} {j : Nat} {v : List (Key × V)} {o : List (Py.D × Py.O)}, RepOk T w r π j v o → RepOk T w' r' (n :: π) j v o
  | _, _, _, _, .nil => .nil
  | _, _, _, _, .cons a b => .cons (a.under k) (b.under k)
theorem RepOf.under {w w' : Wd} {r r' : Root} {n : Nat} (k : Under w w' r r' n) : ∀ {π : List Nat} {j : Nat} {v : List (Str × V)} {o : List (Nat × Py.O)}, RepOf T w r π j v o → RepOf T w' r' (n :: π) j v o
  | _, _, _, _, .nil => .nil
  | _, _, _, _, .cons a b => .cons (a.under k) (b.under k)
end
section
variable {c : Py.Cx} {X : Cx}
/-- pairs of a display -/
inductive SimKV (T : Tb) (c : Py.Cx) (X : Cx) : List (Option Expr) → List Expr → List Py.E → Prop
  | nil : SimKV T c X [] [] []
  | cons {k v : Expr} {ks : List (Option Expr)} {vs : List Expr} {K V : Py.E} {KVs : List Py.E} : SimE T c X k K → SimE T c X v V → SimKV T c X ks vs KVs → SimKV T c X (some k :: ks) (v :: vs) (K :: V :: KVs)
def wPairs (X : Cx) : List (Option Expr) → List Expr → List (TE × TE)
  | some k :: ks, v :: vs => (WE X k, WE X v) :: wPairs X ks vs
  | _, _ => []
theorem SimKV.pps {pos : Pos} : ∀ {ks : List (Option Expr)} {vs : List Expr} {KVs : List Py.E}, SimKV T c X ks vs KVs → PPs X pos ks vs (wPairs X ks vs)
  | _, _, _, .nil => pps_nil
  | _, _, _, .cons _ _ r => pps_cons pe_self pe_self r.pps
theorem SimKV.all : ∀ {ks : List (Option Expr)} {vs : List Expr} {KVs : List Py.E}, SimKV T c X ks vs KVs → ks.all (·.isSome) = true ∧ ks.length = vs.length
  | _, _, _, .nil => ⟨rfl, rfl⟩
  | _, _, _, .cons _ _ r => by
    obtain ⟨h1, h2⟩ := r.all
    exact ⟨by rw [List.all_cons, h1] <;> rfl, by rw [List.length_cons, List.length_cons, h2]⟩
/-- the keys of the pairs, as they stand in the heap -/
def KeysAre : List V → List (Py.D × Py.O) → Prop
  | [], [] => True
  | u :: us, (k, _) :: l => (∃ key, u = kV key ∧ k = kD key) ∧ KeysAre us l
  | _, _ => False
theorem SimKV.run : ∀ {ks : List (Option Expr)} {vs : List Expr} {KVs : List Py.E}, SimKV T c X ks vs KVs → ∀ {w : Wd} {σ : L2.St} {s : Py.St} {l : List (Py.D × Py.O)} {s' : Py.St}, RS T w σ s → Py.evKs c KVs s = some (l, s') → (∀ p ∈ l, Py.keyOf p.1 = true) →
    ∀ Q : List (V × V) → Hp → Prop, (∀ ps w', Stp w w' → RS T w' σ s' → KeysAre (ps.map (·.1)) l → ResL T w w' (ps.map (·.2)) (l.map (·.2)) → Q ps w'.H) → tPairs (wPairs X ks vs) σ w.H Q
  | _, _, _, .nil, w, σ, s, l, s', rs, ev, hk, Q, q => by
    simp only [Py.evKs, Option.some.injEq, Prod.mk.injEq] at ev
    obtain ⟨rfl, rfl⟩ := ev
    exact q [] w (Stp.refl _) rs trivial ResL.nil
  | _, _, _, @SimKV.cons _ _ _ k v ks vs K V KVs h1 h2 r, w, σ, s, l, s', rs, ev, hk, Q, q => by
    rw [Py.evKs] at ev
    split at ev
    · rename_i kd s1 e1
      split at ev
      · rename_i o s2 e2
        split at ev
        · rename_i l3 s3 e3
          simp only [Option.some.injEq, Prod.mk.injEq] at ev
          obtain ⟨rfl, rfl⟩ := ev
          refine h1 false w σ s _ s1 rs e1 _ fun u w1 st1 rs1 q1 p1 => ?_
          refine h2 false w1 σ s1 o s2 rs1 e2 _ fun y w2 st2 rs2 q2 p2 => ?_
          obtain ⟨key, hkd, hu⟩ := p1.res.of_d.key (hk _ List.mem_cons_self)
          -- the value, owned or frozen
          have fin : ∀ (w2' : Wd) (o' : Py.O), w2'.H = w2.H → Stp w1 w2' → RS T w2' σ s2 → Res T w1 w2' y o' → (if V.keeps = true then o else .d o.toD) = o' → tPairs (wPairs X ks vs) σ w2.H (fun ps H3 => Q ((u, y) :: ps) H3) := by
            intro w2' o' hH st2' rs2' r2 ho
            rw [← hH]
            refine SimKV.run r rs2' e3 (fun p hp => hk p (List.mem_cons_of_mem _ hp)) _ fun ps w3 st3 rs3 k3 r3 => ?_
            refine q ((u, y) :: ps) w3 ((st1.trans st2').trans st3) rs3 ⟨⟨key, hu, hkd⟩, k3⟩ ?_
            rw [List.map_cons, List.map_cons]
            show ResL T w w3 (y :: ps.map (·.2)) ((if V.keeps = true then o else .d o.toD) :: l3.map (·.2))
            rw [ho]
            exact ResL.cons (r2.from st1) (st1.trans st2') st3 r3
          cases hkp : V.keeps with
          | true => exact fin w2 o rfl st2 rs2 p2.res (by rw [hkp, if_pos rfl])
          | false =>
            obtain ⟨w3, h3, st3, rs3, r3, _⟩ := p2.res.toD st2 rs2
            exact fin w3 (.d o.toD) h3 st3 rs3 (Res.d r3) (by rw [hkp, if_neg Bool.false_ne_true])
        · cases ev
      · cases ev
    · cases ev
theorem keysOk_all : ∀ {l : List (Py.D × Py.O)}, Py.keysOk l = true → (∀ p ∈ l, Py.keyOf p.1 = true) ∧ l.length ≤ 15
  | [], _ => ⟨fun _ h => by simp at h, Nat.zero_le _⟩
  | (k, x) :: r, h => by
    rw [Py.keysOk, Bool.and_eq_true, Bool.and_eq_true, Bool.and_eq_true, decide_eq_true_eq] at h
    obtain ⟨⟨⟨h1, h2⟩, h3⟩, h4⟩ := h
    refine ⟨fun p hp => ?_, by rw [List.length_cons]; omega⟩
    rcases List.mem_cons.mp hp with e | e
    · rw [e]; exact h1
    · exact (keysOk_all h3).1 p e
/-- the pairs as a heap has them -/
theorem keys_kvs : ∀ {ps : List (V × V)} {l : List (Py.D × Py.O)}, KeysAre (ps.map (·.1)) l → ∃ kvs : List (Key × V), ps = kvs.map (fun kv => (kV kv.1, kv.2)) ∧ l.map (·.1) = kvs.map (fun kv => kD kv.1) ∧ kvs.map (·.2) = ps.map (·.2)
  | [], [], _ => ⟨[], rfl, rfl, rfl⟩
  | (u, y) :: ps, (k, o) :: l, h => by
    obtain ⟨⟨key, h1, h2⟩, h3⟩ := h
    obtain ⟨kvs, e1, e2, e3⟩ := keys_kvs h3
    refine ⟨(key, y) :: kvs, ?_, ?_, ?_⟩
    · rw [List.map_cons, ← e1]
      rw [show u = kV key from h1]
    · rw [List.map_cons, List.map_cons, e2]
      rw [show _ = kD key from h2]
    · rw [List.map_cons, List.map_cons, e3]
  | [], _ :: _, h => False.elim h
  | _ :: _, [], h => False.elim h
theorem putK_new {kvs : List (Key × V)} {k : Key} {v : V} (h : (kvs.any fun kv => decide (kv.1 = k)) = false) : putK kvs k v = kvs ++ [(k, v)] := by
  unfold putK
  rw [h, if_neg Bool.false_ne_true]
theorem mergeK_nodup : ∀ {more kvs : List (Key × V)} {l : List (Py.D × Py.O)}, l.map (·.1) = more.map (fun kv => kD kv.1) → Py.keysOk l = true → (∀ kv ∈ kvs, ∀ m ∈ more, kv.1 ≠ m.1) → mergeK kvs more = kvs ++ more
  | [], kvs, _, _, _, _ => (List.append_nil kvs).symm
  | (k, v) :: more, kvs, l, e, h, hd => by
    cases l with
    | nil => cases e
    | cons p l =>
      obtain ⟨d, o⟩ := p
      rw [List.map_cons, List.map_cons] at e
      obtain ⟨e1, e2⟩ := List.cons.inj e
      simp only at e1
      subst e1
      rw [Py.keysOk, Bool.and_eq_true, Bool.and_eq_true, Bool.and_eq_true] at h
      obtain ⟨⟨⟨h1, h2⟩, h3⟩, h4⟩ := h
      have hne : ∀ m ∈ more, k ≠ m.1 := fun m hm z => by
        have : kD m.1 ∈ l.map (·.1) := by rw [e2]; exact List.mem_map.mpr ⟨m, hm, rfl⟩
        obtain ⟨p, hp, hq⟩ := List.mem_map.mp this
        rw [Bool.not_eq_true'] at h2
        have := List.any_eq_false.mp h2 p hp
        rw [hq, kD_eqv, z] at this
        simp at this
      show mergeK (putK kvs k v) more = _
      rw [putK_new]
      · rw [mergeK_nodup e2 h3]
        · rw [List.append_assoc] <;> rfl
        · intro kv hkv m hm
          rcases List.mem_append.mp hkv with q | q
          · exact hd kv q m (List.mem_cons_of_mem _ hm)
          · rw [List.mem_singleton.mp q]
            exact hne m hm
      · refine List.any_eq_false.mpr fun kv hkv => ?_
        have := hd kv hkv (k, v) List.mem_cons_self
        simpa using this
theorem RepOk.of {w : Wd} {r : Root} {π : List Nat} : ∀ {kvs : List (Key × V)} {l : List (Py.D × Py.O)} {j : Nat}, l.map (·.1) = kvs.map (fun kv => kD kv.1) → (∀ (n : Nat) (v : V) (o : Py.O), (kvs.map (·.2))[n]? = some v → (l.map (·.2))[n]? = some o → RepO T w r (π ++ [j + n]) v o) → RepOk T w r π j kvs l
  | [], [], _, _, _ => .nil
  | (k, v) :: kvs, (d, o) :: l, j, e, h => by
    rw [List.map_cons, List.map_cons] at e
    obtain ⟨e1, e2⟩ := List.cons.inj e
    simp only at e1
    subst e1
    refine .cons (h 0 v o rfl rfl) (RepOk.of e2 fun n v' o' hv ho => ?_)
    have := h (n + 1) v' o' (by simpa using hv) (by simpa using ho)
    rw [show j + (n + 1) = j + 1 + n by omega] at this
    exact this
  | [], _ :: _, _, e, _ => by simp at e
  | _ :: _, [], _, e, _ => by simp at e
theorem sim_dict {ks : List (Option Expr)} {vs : List Expr} {KVs : List Py.E} {pos : Pos} (h : SimKV T c X ks vs KVs) (h0 : ks ≠ []) (h15 : ks.length ≤ 15) : SimE T c X (.Dict ks vs pos) (.dict KVs) := by
  intro m w σ s o s' rs ev Q q
  simp only [Py.ev] at ev
  split at ev
  · rename_i l s1 e1
    split at ev
    · rename_i hk
      simp only [Option.some.injEq, Prod.mk.injEq] at ev
      obtain ⟨rfl, rfl⟩ := ev
      obtain ⟨k1, k2⟩ := keysOk_all hk
      obtain ⟨a1, a2⟩ := h.all
      refine WE.of (pe_disp h.pps a1 a2 h0 h15) ?_
      intro p hp
      obtain ⟨st1, rs1⟩ := rs.alloc hp (.dK [])
      refine h.run rs1 e1 k1 _ fun ps w2 st2 rs2 kk r2 => ?_
      have hpl : w.lab p = none := by
        cases z : w.lab p with
        | none => rfl
        | some r => exact absurd hp (rs.lg p r z).2
      have hpg : w.G p = none := by
        cases z : w.G p with
        | none => rfl
        | some u => rw [rs.gh p u z] at hp; cases hp
      obtain ⟨b1, b2, b3⟩ := st2.h p (.dK []) upd_same hpl
      have b3 : w2.G p = none := b3.trans hpg
      refine ⟨b1, ?_⟩
      obtain ⟨kvs, c1, c2, c3⟩ := keys_kvs kk
      have hlen : kvs.length = l.length := by
        have := congrArg List.length c2
        rw [List.length_map, List.length_map] at this
        exact this.symm
      refine ⟨kvs, c1, by rw [hlen]; exact k2, ?_⟩
      rw [mergeK_nodup c2 hk (fun kv hkv => by simp at hkv), List.nil_append]
      obtain ⟨hl, lb, al, rl⟩ := r2
      have st : Stp w { w2 with H := upd w2.H p (.dK kvs) } := (st1.trans st2).updN hp
      refine q (.ref p) { w2 with H := upd w2.H p (.dK kvs) } st (rs2.updH b2 b3) (fun qq => by simp only [Py.E.quiet] at qq; cases qq) (PO.of ?_)
      have hpn : ∀ x, lb p = some x → False := fun x e => by
        rcases (al p x e).2.2.2 with z | z
        · have z : upd w.H p (.dK []) p = none := z
          rw [upd_same] at z
          cases z
        · exact z hpl
      refine ⟨fun a => if a = p then some (.tmp, []) else (lb a).map fun x => (.tmp, x.1 :: x.2), fun a x e => ?_, .dic (by simp) upd_same (RepOk.of (π := []) c2 fun n v o' hv ho => ?_)⟩
      · replace e : (if a = p then some (Root.tmp, ([] : List Nat)) else (lb a).map fun x => (Root.tmp, x.1 :: x.2)) = some x := e
        by_cases z : a = p
        · rw [if_pos z] at e
          cases e
          subst z
          exact ⟨rfl, b2, b3, (by show upd w2.H a _ a ≠ none; rw [upd_same]; exact fun z => nomatch z), .inl hp⟩
        · rw [if_neg z] at e
          cases hy : lb a with
          | none => rw [hy] at e; cases e
          | some y =>
            rw [hy] at e
            cases e
            obtain ⟨d1, d2, d3, d4⟩ := al a y hy
            refine ⟨rfl, d1, d2, (by show upd w2.H p _ a ≠ none; rw [upd_ne z]; exact d3), ?_⟩
            rcases d4 with d4 | d4
            · left
              have d4 : upd w.H p (.dK []) a = none := d4
              rw [upd_ne z] at d4
              exact d4
            · exact .inr d4
      · rw [Nat.zero_add, List.nil_append]
        rw [c3] at hv
        refine RepO.under (r := .slot n) (w := { w2 with lab := labJ lb }) (w' := { G := w2.G, φ := w2.φ, H := upd w2.H p (.dK kvs), lab := fun a => if a = p then some (Root.tmp, []) else Option.map (fun x => (Root.tmp, x.fst :: x.snd)) (lb a) }) ⟨GLe.refl _, PLe.refl _, fun a π e => ?_⟩ (rl n v o' hv ho)
        obtain ⟨j, f1, f2⟩ := labJ_some e
        cases f2
        have hne : a ≠ p := fun z => hpn _ (by rw [← z]; exact f1)
        refine ⟨?_, fun u hu => ?_⟩
        · show (if a = p then some (Root.tmp, ([] : List Nat)) else (lb a).map fun x => (Root.tmp, x.1 :: x.2)) = _
          rw [if_neg hne, f1]
          rfl
        · show upd w2.H p _ a = some u
          rw [upd_ne hne]
          exact hu
    · cases ev
  · cases ev
end
end PyS
end

section
set_option Elab.async false
set_option linter.all false
set_option maxRecDepth 100000
set_option maxHeartbeats 2000000
/-! ZE: what is left of the expressions. -/
namespace PyS
open PySem L2
variable {T : Tb}
section
variable {c : Py.Cx} {X : Cx}
/-- name i gives its object away -/
theorem sim_mv {e : Expr} {i : Nat} (p : PE X e (tVar i)) : SimE T c X e (.mv i) := by
  intro m w σ s o s' rs ev Q q
  simp only [Py.ev] at ev
  split at ev
  · rename_i u he
    simp only [Option.some.injEq, Prod.mk.injEq] at ev
    obtain ⟨rfl, rfl⟩ := ev
    obtain ⟨v, e1, e2⟩ := rs.env i _ he
    refine WE.of p ⟨v, e1, ?_⟩
    have st : Stp w { w with lab := dropL (.slot i) w.lab } := ⟨GLe.refl _, PLe.refl _, fun a u h l => ⟨h, dropL_none l, rfl⟩, fun _ h => h⟩
    have mv : ∀ r', r' ≠ Root.slot i → Moves w { w with lab := dropL (.slot i) w.lab } r' r' := fun r' hr => ⟨GLe.refl _, PLe.refl _, fun a π q => ⟨(dropL_ne fun π' z => by rw [q] at z; cases z; exact hr rfl).trans q, fun _ z => z⟩⟩
    have rs' : RS T { w with lab := dropL (.slot i) w.lab } σ { s with env := s.env.set i none } := by
      refine ⟨⟨rs.gh, fun a r z => rs.lg a r (dropL_some z).1⟩, fun j y hj => ?_, fun n y hn => ?_, rs.len, by rw [← rs.el]; exact List.length_set⟩
      · by_cases hji : j = i
        · subst hji
          have hlt : j < s.env.length := (List.getElem?_eq_some_iff.mp he).1
          rw [show (s.env.set j none)[j]? = _ from List.getElem?_set_self hlt] at hj
          cases hj
        · rw [show (s.env.set i none)[j]? = s.env[j]? from List.getElem?_set_ne (Ne.symm hji)] at hj
          obtain ⟨v', k1, k2⟩ := rs.env j y hj
          exact ⟨v', k1, k2.move (mv _ fun z => hji (Root.slot.inj z))⟩
      · obtain ⟨v', k1, k2⟩ := rs.sto n y hn
        exact ⟨v', k1, k2.move (mv (.cell n) fun z => nomatch z)⟩
    refine q v { w with lab := dropL (.slot i) w.lab } st rs' (fun qq => by simp only [Py.E.quiet] at qq; cases qq) (PO.of ?_)
    let l : Lab := fun a => match w.lab a with
      | some (r, π) => if r = Root.slot i then some (.tmp, π) else none
      | none => none
    have l1 : ∀ {a π}, w.lab a = some (.slot i, π) → l a = some (.tmp, π) := fun {a π} z => by
      show (match w.lab a with | some (r, π) => if r = Root.slot i then some (Root.tmp, π) else none | none => none) = _
      rw [z]
      exact if_pos rfl
    refine ⟨l, fun a x z => ?_, RepO.move (w := w) (w' := { w with lab := l }) ⟨GLe.refl _, PLe.refl _, fun a π q => ⟨l1 q, fun _ z => z⟩⟩ e2⟩
    have z : (match w.lab a with | some (r, π) => if r = Root.slot i then some (Root.tmp, π) else none | none => none) = some x := z
    split at z
    · rename_i r π hl
      split at z
      · rename_i hr
        subst hr
        cases z
        exact ⟨rfl, dropL_at hl, (rs.lg a _ hl).1, (rs.lg a _ hl).2, .inr (by rw [hl]; exact fun z => nomatch z)⟩
      · cases z
    · cases z
  · cases ev
theorem sim_keep {e : Expr} {E : Py.E} (h : SimE T c X e E) : SimE T c X e (.keep E) := by
  intro m w σ s o s' rs ev Q q
  simp only [Py.ev] at ev
  exact h false w σ s o s' rs ev Q fun v w1 st1 rs1 q1 p1 => q v w1 st1 rs1 (fun qq => by simp only [Py.E.quiet] at qq; cases qq) (PO.of p1.res)
theorem sim_dict0 {pos : Pos} : SimE T c X (.Dict [] [] pos) (.dict []) := by
  intro m w σ s o s' rs ev Q q
  simp only [Py.ev, Py.evKs, Py.keysOk, if_true, Option.some.injEq, Prod.mk.injEq] at ev
  obtain ⟨rfl, rfl⟩ := ev
  refine WE.of pe_dnewK fun p hp => ?_
  obtain ⟨st, rs'⟩ := rs.alloc hp (.dK [])
  refine q (.ref p) _ st rs' (fun qq => by simp only [Py.E.quiet] at qq; cases qq) (PO.of ⟨fun a => if a = p then some (.tmp, []) else none, fun a x e => ?_, .dic (by simp) upd_same .nil⟩)
  replace e : (if a = p then some (Root.tmp, ([] : List Nat)) else none) = some x := e
  by_cases z : a = p
  · rw [if_pos z] at e
    cases e
    subst z
    refine ⟨rfl, ?_, ?_, (by show upd w.H a _ a ≠ none; rw [upd_same]; exact fun z => nomatch z), .inl hp⟩
    · cases z : w.lab a with
      | none => rfl
      | some r => exact absurd hp (rs.lg a r z).2
    · cases z : w.G a with
      | none => rfl
      | some u => rw [rs.gh a u z] at hp; cases hp
  · rw [if_neg z] at e
    cases e
theorem pt_ife {t a b : Expr} {pos : Pos} {tt ta tb : TT} (ht : PT X t tt) (ha : PT X a ta) (hb : PT X b tb) : PT X (.IfExp t a b pos) (fun σ H Q => tt σ H fun z H1 => if z = true then ta σ H1 Q else tb σ H1 Q) := by
  refine ⟨fun pins s σ H Q I h => ?_⟩
  show wpAny (model X.prog X.w) X.A (isTrue t X.env (eval t X.env) >>= fun z => if z = true then isTrue a X.env (eval a X.env) else isTrue b X.env (eval b X.env)) _ _ s
  refine wpAny_bind (thn (ht.run pins s σ H _ I h) fun z s1 ⟨H1, I1, q1⟩ => ?_)
  cases z with
  | true =>
    rw [if_pos rfl] at q1 ⊢
    exact ha.run pins s1 σ H1 Q I1 q1
  | false =>
    rw [if_neg Bool.false_ne_true] at q1 ⊢
    exact hb.run pins s1 σ H1 Q I1 q1
theorem simT_ife {t a b : Expr} {C A B : Py.E} {pos : Pos} (ht : SimT T c X t C) (ha : SimT T c X a A) (hb : SimT T c X b B) : SimT T c X (.IfExp t a b pos) (.ife C A B) := by
  intro w σ s z s' rs ev Q q
  simp only [Py.ev] at ev
  refine WT.of (pt_ife pt_self pt_self pt_self) ?_
  split at ev
  · rename_i s1 e1
    refine ht w σ s _ _ rs e1 _ fun w1 st1 rs1 q1 => ?_
    rw [if_pos rfl]
    exact ha w1 σ s1 _ _ rs1 ev _ fun w2 st2 rs2 q2 => q w2 (st1.trans st2) rs2 (fun qq => by simp only [Py.E.quiet] at qq; cases qq)
  · rename_i s1 e1
    refine ht w σ s _ _ rs e1 _ fun w1 st1 rs1 q1 => ?_
    rw [if_neg Bool.false_ne_true]
    exact hb w1 σ s1 _ _ rs1 ev _ fun w2 st2 rs2 q2 => q w2 (st1.trans st2) rs2 (fun qq => by simp only [Py.E.quiet] at qq; cases qq)
  · cases ev
/-! ### what shapes there are -/
theorem stars_no {xs : List Expr} (h : xs.all notStar = true) (env : Env) (pos : Pos) : (backTo pos (starEach xs env)).any (·.1) = false := by
  induction xs with
  | nil => rfl
  | cons x xs ih =>
    rw [List.all_cons, Bool.and_eq_true] at h
    rw [starEach_not h.1]
    exact ih h.2
theorem kw_all {kws : List Keyword} {ks : List Str} (h : kws.map (·.arg) = ks.map some) (env : Env) (pos : Pos) : (backToKw pos (keywordEach kws env)).all (·.1.isSome) = true ∧ (backToKw pos (keywordEach kws env)).filterMap (·.1) = ks ∧ (backToKw pos (keywordEach kws env)).any (·.1.isNone) = false := by
  induction kws generalizing ks with
  | nil =>
    cases ks with
    | nil => exact ⟨rfl, rfl, rfl⟩
    | cons _ _ => cases h
  | cons kw kws ih =>
    cases ks with
    | nil => cases h
    | cons k ks =>
      obtain ⟨a, v, p⟩ := kw
      rw [List.map_cons, List.map_cons] at h
      obtain ⟨h1, h2⟩ := List.cons.inj h
      obtain ⟨i1, i2, i3⟩ := ih h2
      have h1 : a = some k := h1
      subst h1
      refine ⟨i1, ?_, i3⟩
      show k :: (backToKw pos (keywordEach kws env)).filterMap (·.1) = k :: ks
      rw [i2]
theorem attrB {x : Expr} (h : (match x with | .Call _ _ _ _ => false | _ => true) = true) (f : Str) (env : Env) (w : Sem Value) : attributeBase x f env w = w := by
  cases x <;> first | rfl | cases h
theorem foldB {x : Expr} (h : notSet x = true) (env : Env) (v : Value) : foldedSetIterable x env v = pure v := by
  cases x <;> first | rfl | cases h
theorem isTrueB {x : Expr} (h : (match x with | .BoolOp _ _ _ | .UnaryOp .Not _ _ | .Compare _ _ _ _ | .IfExp _ _ _ _ => false | _ => true) = true) (env : Env) (whole : Sem Value) : isTrue x env whole = (do let v ← whole; standAt x.pos; holding [v] (truthy v)) := by
  cases x with
  | UnaryOp op y p => cases op <;> first | rfl | cases h
  | BoolOp _ _ _ => cases h
  | Compare _ _ _ _ => cases h
  | IfExp _ _ _ _ => cases h
  | _ => rfl
theorem asgB {k : Expr} (h : notSlice k = true) {x : Str} {p sp : Pos} (env : Env) (v : Value) : assign (.Subscript (.Name x p) k sp) env v = (do
      let ov ← holding [v] (eval (.Name x p) env)
      let iv ← holding [v, ov] (eval k env)
      standAt sp
      holding [v, ov, iv] (setItem ov iv v)
      release [v, ov, iv] []) := by
  cases k <;> first | rfl | cases h
end
end PyS
end

section
set_option Elab.async false
set_option linter.all false
set_option maxRecDepth 100000
set_option maxHeartbeats 2000000
/-! X1: errors raised, calls that may raise. -/
namespace PyS
open PySem L2
variable {T : Tb}
/-- a def's promise, its errors too -/
def spX (T : Tb) (callX : Nat → List Py.D → List Py.O → Option (Option Nat × List Py.O)) (f n : Nat) : Sp := fun vs H Q E => vs.length = n ∧ ∃ (w : Wd) (ds : List Py.D) (sto : List Py.O) (r : Option Nat) (sto' : List Py.O),
  w.H = H ∧ RS T w [] ⟨[], sto⟩ ∧ Reps T w.G w.φ vs ds ∧ callX f ds sto = some (r, sto') ∧ ∀ w', Stp w w' → RS T w' [] ⟨[], sto'⟩ → match r with
    | none => ∀ v, Q v w'.H
    | some q => ∀ C, T.xc q = some C → E (.ref C) none w'.H
structure FnX (T : Tb) (c : Py.Cx) (X : Cx) (k : Nat) (f : Nat) (a : Addr) : Prop where
  ex : ∃ (fd : FuncData) (ps : List Str), FnOk X.prog X.w X.K X.mg X.base (L2.CX X.prog X.w) k a fd ps (spX T c.callX f ps.length) ∧ Binds X.K fd ps [] ∧ ∀ ds sto r, c.callX f ds sto = some r → ds.length = ps.length
  kp : PySem.W.keepIn X.K (.ref a) = true
section
variable {c : Py.Cx} {X : Cx}
theorem simS_exX {e : Expr} {es : List Expr} {Es : List Py.E} {f k : Nat} {a : Addr} {x : Str} {p pos pos2 : Pos} (F : FnX T c X k f a) (hr : Room k X.A) (hg : Gl X x) (hm : X.mg x = some (.ref a)) (hd : (x == ("__debug__" : Str)) = false) (n : notStar e = true)
    (hns : (backTo pos (starEach es X.env)).any (·.1) = false) (hs : SimEs T c X (e :: es) Es) : SimS T c X (.Expr (.Call (.Name x p) (e :: es) [] pos) pos2) (.exX f Es) := by
  intro w σ s out s' rs ev D W tk d
  simp only [Py.ex] at ev
  split at ev
  · rename_i ds s1 e1
    have key : ∃ r sto, c.callX f ds s1.sto = some (r, sto) ∧ s' = { s1 with sto := sto } ∧ out = (match r with | none => Py.Out.nx | some q => .exc q) := by
      split at ev
      · rename_i q sto e2
        simp only [Option.some.injEq, Prod.mk.injEq] at ev
        exact ⟨_, _, e2, ev.2.symm, ev.1.symm⟩
      · rename_i sto e2
        simp only [Option.some.injEq, Prod.mk.injEq] at ev
        exact ⟨_, _, e2, ev.2.symm, ev.1.symm⟩
      · cases ev
    obtain ⟨r, sto, e2, rfl, rfl⟩ := key
    obtain ⟨fd, ps, G, b, ar⟩ := F.ex
    refine WS.of (ps_expr (pe_callS (E := L2.WE W) G hr hg hm F.kp b (fun σ => passAt tk σ) pa_self hd (starEach_not n es X.env) hns) rfl) ?_
    refine hs w σ s ds s1 rs e1 _ fun vs w1 st1 rs1 q1 r1 => ?_
    have hl : vs.length = ps.length := r1.length.trans (ar _ _ _ e2)
    refine ⟨hl, hideE w1, ds, s1.sto, r, sto, rfl, rs1.hide, r1, e2, fun w2 st2 rs2 => ?_⟩
    obtain ⟨b1, b2, b3⟩ := rs1.back st2 rs2
    have z := d (unhide w1 w2) σ (st1.trans b1) b2
    cases r with
    | none => exact fun v => z
    | some q => exact z
  · cases ev
/-- an error class of the text -/
structure XcF (T : Tb) (K : PySem.W.Frag) (mg : Str → Option Value) (x : Str) (q : Nat) (C : Addr) : Prop where
  mg : mg x = some (.ref C)
  xc : T.xc q = some C
  ex : PySem.W.excIn K C [.type "ValueError", .type "Exception", .type "BaseException", .type "object"] "ValueError.__new__" = true
  kp : PySem.W.keepIn K (.ref C) = true
  sb : PySem.W.subIn K (.ref C) (.type "BaseException") = some true
  ty : PySem.W.typeIn K (.ref C) = some (.type "type")
theorem simS_raise {x m : Str} {q j : Nat} {C : Addr} {p p2 pos pos2 : Pos} (F : XcF T X.K X.mg x q C) (hc : X.calm = true) (hg : Gl X x) (hd : (x == ("__debug__" : Str)) = false) :
    SimS T c X (.Raise (some (.Call (.Name x p) [.Constant (.str m) j p2] [] pos)) none pos2) (.raise q) := by
  intro w σ s out s' rs ev D W tk d
  simp only [Py.ex, Option.some.injEq, Prod.mk.injEq] at ev
  obtain ⟨rfl, rfl⟩ := ev
  refine WS.of (ps_raise hc tk (pmk_own PySem.F.excBase_ValueError F.ex F.mg F.kp (raises_own F.sb F.ty) hg hd)) ?_
  exact d w σ (Stp.refl _) rs C F.xc
end
end PyS
end

section
set_option Elab.async false
set_option linter.all false
set_option maxRecDepth 100000
set_option maxHeartbeats 2000000
/-! X2: an error that is caught and kept. -/
namespace PyS
open PySem L2
section
variable {X : Cx} {pins : List (Addr × Obj)} {σ : L2.St} {H : Hp} {s : Shared}
/-- an object that was there already, new since the entry, is tracked from now on -/
theorem inv_track {a : Addr} {o : HO} (I : Inv X pins σ H s) (n0 : X.s_0.heap.get? a = none) (hn : H a = none) (hL : a ≠ X.env.locals) (hC : ∀ x c, X.env.cells.lookup x = some c → c ≠ a) (hp : ∀ p ∈ X.pn ++ pins, p.1 ≠ a)
    (new : ObjOk X.prog X.w (upd H a o) s.heap a o) : Inv X pins σ (upd H a o) s := by
  have ne0 : ∀ b u, X.s_0.heap.get? b = some u → b ≠ a := fun b u e z => by
    rw [z, n0] at e
    cases e
  have sm : ∀ b u, H b = some u → upd H a o b = some u := fun b u e => by
    rw [upd_ne (ne_of_none e hn)]
    exact e
  refine ⟨I.ok, I.os, I.bare, ⟨I.base.keep, I.base.slot, fun b u e n q => ?_, I.base.there, fun b xs e => sm _ _ (I.base.tups b xs e), fun b u v e => sm _ _ (I.base.frzs b u v e), fun b ps e => ?_⟩, I.loc, I.cell, ?_, fun x c e => ?_, fun p h => ?_, fun b u e => ?_, I.len⟩
  · rw [upd_ne (ne0 b u e)]
    exact I.base.free b u e n q
  · obtain ⟨m, z⟩ := I.base.tbls b ps e
    exact ⟨m, sm _ _ z⟩
  · rw [upd_ne (Ne.symm hL)]
    exact I.free
  · rw [upd_ne (hC x c e)]
    exact I.freeC x c e
  · obtain ⟨p1, p2, p3⟩ := I.pin p h
    exact ⟨p1, by rw [upd_ne (hp p h)]; exact p2, p3⟩
  · by_cases hb : b = a
    · subst hb
      rw [upd_same] at e
      cases e
      exact new
    · rw [upd_ne hb] at e
      exact (I.hok b u e).stay (fun _ _ _ z => z) (fun c z => sm _ _ z) fun c xs z => sm _ _ z
theorem exC_ok {P : Program} {w : World} {C a : Addr} {oe : Obj} (e : s.heap.get? a = some oe) (z : Zc (.ref C) none oe) (d : ∃ vs, oe.data = .fields vs) : ObjOk P w H s.heap a (ExC C a) := by
  obtain ⟨vs, d⟩ := d
  exact ⟨⟨oe, vs, e, z, d⟩, ⟨oe, e⟩, fun _ _ ⟨o, v, q, r⟩ k => ⟨o, v, k o q, r⟩⟩
end
/-- what such a clause wants of the error: place i is the error's name, place j what keeps it -/
def wKeep (K : PySem.W.Frag) (T : Value) (i j l : Nat) (Wo : WX) (D : Ends) : WX := fun cls dv σ H =>
  ∃ yes, PySem.W.exmOne K cls T = some yes ∧ (yes = true → ∃ C, cls = .ref C ∧ dv = none ∧ ∀ a, H a = none → σ.length = l → D.nx (((σ.set i (some (.ref a))).set j (some (.ref a))).set i none) (upd H a (ExC C a))) ∧ (yes = false → Wo cls dv σ H)
section
variable {X : Cx} {x n y : Str} {c : Value} {i j : Nat} {body : List Stmt} {np yp n2 ap pos pos' : Pos} {tb : WX → TS} {Wo : WX}
theorem ps_keep (hx : X.ex = []) (hs : X.stack = X.env :: X.outer) (hf : X.env.frame = some X.env.locals) (hN : X.N.Nodup) (hi : X.N[i]? = some n) (hj : X.N[j]? = some y) (hln : X.env.kindOf n = some .local) (hly : X.env.scope.names.lookup y = some .local) (hdn : (n == ("__debug__" : Str)) = false) (hcn : (n == ("__classdict__" : Str)) = false) (hc : Names X x c) (tk : Takes X Wo)
    (hb : ∀ (W : WX) (pn : List (Addr × Obj)) (xe : Value → Shared → Prop), Takes (X.tr pn xe) W → PassesOwn (model X.prog X.w) X.A X.env xe → PSs (X.tr pn xe) body (tb W)) :
    PS X (.Try body [.ExceptHandler (some (.Name x np)) (some n) [.Assign [.Name y yp] (.Name n n2) ap] pos'] [] [] pos) (fun D σ H => tb (wKeep X.K c i j X.N.length Wo D) D σ H) := by
  refine ⟨fun pins s σ H D I h => ?_⟩
  have ok := I.ok
  have top : X.A.frames = some (X.env :: X.outer) := by rw [ok.frames, hs]
  have loc : Loc X.env.scope n := .inl hln
  refine wpAny_Try_except (wpAny_mono ((hb (wKeep X.K c i j X.N.length Wo D) (X.pn ++ pins) (fun e t1 => wpAny (model X.prog X.w) X.A (noteFrame e X.env) (fun _ t2 => wpAny (model X.prog X.w) X.A (setFlight e none) (fun _ t3 =>
    wpAny (model X.prog X.w) X.A (handleBy e X.env [.ExceptHandler (some (.Name x np)) (some n) [.Assign [.Name y yp] (.Name n n2) ap] pos']) (SP X pins D) X.xe t3) X.xe t2) X.xe t1) (fun u s' xx => ?_) PassesOwn.looking).run [] s σ H D (I.toTry _) h) (fun f s1 hsp => ?_) fun e s1 he => he)
  · obtain ⟨a, B, sI, pins', σ', H', cls, dv, rfl, J', nb, up, sky, na, os, ag, yes, hb1, hyes, hno⟩ := xx
    have J : Inv X pins σ' H' sI := J'.ofTry ok
    rw [hs] at sky
    show wpAny (model X.prog X.w) X.A (noteFrame (.ref a) X.env) _ _ _
    refine Sky.land Zc.steady top hf sky fun h3 fl3 up3 => ?_
    have J3 : Inv X pins σ' H' { s' with heap := h3 } := J.landed nb fl3.1 (up.trans up3) os ag
    obtain ⟨oe3, vs3, he3, hz3, hd3⟩ := fl3.there
    have off : ∀ {g : Heap} {o : Obj} {vs : Array Value}, g.FunFrames B (X.env :: X.outer) → g.get? a = some o → o.data = .fields vs → a ∉ frs (X.env :: X.outer) := fun {g o vs} ff e dd hm => by
      obtain ⟨_, o', e', hnf⟩ := ff.mem hm
      rw [e] at e'
      cases e'
      exact hnf _ dd
    have nfr := off fl3.2.2.1 he3 hd3
    have nL : a ≠ X.env.locals := fun z => nfr (List.mem_filterMap.mpr ⟨X.env, List.mem_cons_self, by rw [hf, z]⟩)
    have nF : a ∉ X.fs := fun hm => by
      obtain ⟨e, he, q⟩ := List.mem_filterMap.mp hm
      exact nfr (List.mem_filterMap.mpr ⟨e, List.mem_cons_of_mem _ he, q⟩)
    have nI : sI.heap.get? a = none := by
      cases e : sI.heap.get? a with
      | none => rfl
      | some o =>
        have z := nb a o e (by rw [hs]; exact nfr)
        rw [fl3.2.1] at z
        cases z
    have n0 : X.s_0.heap.get? a = none := by
      cases e : X.s_0.heap.get? a with
      | none => rfl
      | some o =>
        obtain ⟨o', z⟩ := J.base.there a o e (by rw [hx]; exact fun z => nomatch z)
        rw [nI] at z
        cases z
    have S3 := J3.suite he3 hd3 na nL nF
    refine wpAny_handleBy_cons (codeAny_handlers_test ?_) (by intro q; cases q)
    have LT : PySem.W.Looks (model X.prog X.w) h3 (typeOf (.ref a)) cls := fun A Q E s k q => wpAny_typeOf_ref (k _ _ he3) (by rw [hz3.1]; exact q)
    have LM := PySem.W.exm_one (M := model X.prog X.w) (J3.kIn) LT hb1
    have test : ∀ {Q : Value → Shared → Prop} {E : Value → Shared → Prop}, Q c { s' with heap := h3 } → wpAny (model X.prog X.w) (X.A.mark (some (.ref a))) (eval (.Name x np) X.env) Q E { s' with heap := h3 } := fun {Q E} q => by
      obtain ⟨hg, hdbg, hm | ⟨hm, hv, hnn⟩⟩ := hc
      · exact ld_glob (X := X.suite a ((a, oe3) :: (X.pn ++ pins))) S3 hg hm q hdbg
      · exact ld_blt (X := X.suite a ((a, oe3) :: (X.pn ++ pins))) S3 hg hm hv q hnn hdbg
    refine test (LM.here ?_)
    cases yes with
    | true =>
      obtain ⟨C, rfl, rfl, fin⟩ := hyes rfl
      refine codeAny_handlers_suite_as (HandSPX.lands_againZ fl3 fun h4 fl4 up4 => ?_)
      obtain ⟨oe4, vs4, he4, hz4, hd4⟩ := fl4.there
      have J4 : Inv X pins σ' H' { s' with heap := h4 } := J.landed nb fl4.1 ((up.trans up3).trans up4) os ag
      have S4 := J4.suite he4 hd4 na nL nF
      refine store_ok (X := X.suite a ((a, oe4) :: (X.pn ++ pins))) (v := .ref a) S4 hN hi loc rfl (fun s5 S5 => ?_) (.inr hln)
      have hset : PSs (X.suite a ((a, oe4) :: (X.pn ++ pins))) [.Assign [.Name y yp] (.Name n n2) ap] _ := pss_one (ps_set hN hj (.inl hly) (pe_var (pos := n2) hi (.inl hln) hdn hcn) rfl (.inr hly))
      refine wpAny_mono (hset.run [] s5 _ H' { nx := fun σ6 H6 => σ6 = (σ'.set i (some (.ref a))).set j (some (.ref a)) ∧ H6 = H', rt := fun _ _ => False, bk := fun _ _ => False, ct := fun _ _ => False } S5 ?_) (fun f s6 hsp => ?_) (fun _ _ z => False.elim z)
      · have hlt : i < σ'.length := by
          rw [J.len]
          exact (List.getElem?_eq_some_iff.mp hi).1
        exact ⟨.ref a, by rw [List.getElem?_set_self hlt], rfl, rfl⟩
      · cases f with
        | next =>
          obtain ⟨σ6, H6, S6, rfl, rfl⟩ := hsp
          obtain ⟨p1, p2, p3, p4, p5⟩ := S6.pin (a, oe4) (List.mem_append.mpr (.inl List.mem_cons_self))
          have J6 : Inv X pins _ _ s6 := S6.unsuite ok
          have hobj : ∃ vs, oe4.data = .fields vs := ⟨_, hd4⟩
          have J7 : Inv X pins _ (upd H6 a (ExC C a)) s6 := inv_track J6 n0 na nL (fun u w e z => by
            obtain ⟨v, o, e1, e2⟩ := J6.cell u w e
            rw [z, p1] at e1
            cases e1
            rw [hd4] at e2
            cases e2) (fun p hp z => by
            have e1 := (J.pin p hp).1
            rw [z, nI] at e1
            cases e1) (exC_ok p1 hz4 hobj)
          exact gone_ok J7 hN hi hln fun s8 J8 => ⟨_, _, J8, fin a na J.len⟩
        | brk =>
          obtain ⟨_, _, _, q⟩ := hsp
          exact q.elim
        | cont =>
          obtain ⟨_, _, _, q⟩ := hsp
          exact q.elim
        | ret u =>
          obtain ⟨_, _, _, _, _, q⟩ := hsp
          exact q.elim
    | false =>
      show wpAny _ X.A (handleBy (.ref a) X.env []) _ _ _
      refine wpAny_handleBy_nil ?_
      obtain ⟨k1, k2, k3, oe, vs, Tb, oT, ts', he, hz, hd, h1, hr⟩ := id fl3
      have last : wpAny (model X.prog X.w) X.A (setFlight (.ref a) X.env.frame) (fun _ s4 => wpAny (model X.prog X.w) X.A (throw (.ref a) : Sem Flow) (SP X pins D) X.xe s4) X.xe { s' with heap := h3 } := by
        rw [hf]
        exact HandSPX.setFlight_upZ fl3 fun h4 hh4 up4 => wpAny_throw (tk _ _ ⟨a, B, sI, pins, σ', H', cls, dv, rfl, J, nb, (up.trans up3).trans up4, .inr (.inr (by rw [hs]; exact hh4)), na, os, ag, hno rfl⟩)
      unfold PySem.passOn
      refine wpAny_bind (wpAny_field he hd h1 ?_)
      rw [if_neg (show ¬ ((Value.ref Tb == Value.none) = true) from by simp)]
      first
        | exact wpAny_bind (wpAny_pure (wpAny_bind last))
        | exact wpAny_bind last
  · cases f with
    | next =>
      obtain ⟨σ', H', J', q⟩ := hsp
      exact wpAny_execs_nil ⟨σ', H', J'.ofTry ok, q⟩
    | brk =>
      obtain ⟨σ', H', J', q⟩ := hsp
      exact ⟨σ', H', J'.ofTry ok, q⟩
    | cont =>
      obtain ⟨σ', H', J', q⟩ := hsp
      exact ⟨σ', H', J'.ofTry ok, q⟩
    | ret u =>
      obtain ⟨v, σ', H', J', r, q⟩ := hsp
      exact ⟨v, σ', H', J'.ofTry ok, r, q⟩
end
end PyS
end

section
set_option Elab.async false
set_option linter.all false
set_option maxRecDepth 100000
set_option maxHeartbeats 4000000
/-! X3: a lambda's call given to the catcher. -/
namespace PyS
open PySem L2
variable {T : Tb}
/-- the maker's table, grown by one or as it was -/
inductive Made (H : Hp) (P : Addr) (ps : Array Value) (q : Str) (k : Addr) : Hp → Prop
  | old : H k = some (LamX.CodeO k q) → Made H P ps q k H
  | new (qs : Array Value) : H k = none → TriplesOk qs.toList → (∀ (pos : Pos) (cv : Value), codeAmong pos qs.toList = some cv → codeAmong pos ps.toList = some cv ∨ cv = .ref k) → Made H P ps q k (upd (upd H P (.tbl qs)) k (LamX.CodeO k q))
theorem Made.code {H H1 : Hp} {P : Addr} {ps : Array Value} {q : Str} {k : Addr} (m : Made H P ps q k H1) : H1 k = some (LamX.CodeO k q) := by
  cases m with
  | old h => exact h
  | new qs _ _ _ => exact upd_same
abbrev lamO (X : Cx) (ar : Arguments) (b : Expr) (sc : Scope) (pm ctv : Value) (k : Addr) : Obj := PySem.W.kla_obj "<lambda>" (X.env.qual ++ "<lambda>") ar b sc (cloFrom X.env.cells sc.names []) pm k ctv
section
variable {X : Cx} {pins : List (Addr × Obj)} {σ : L2.St} {H : Hp} {s : Shared}
/-- a lambda made; what becomes of the heap is told -/
theorem lam_told {k0 P : Addr} {ps : Array Value} {ar : Arguments} {b : Expr} {sc : Scope} {pos : Pos} {Q E : Value → Shared → Prop} (I : Inv X pins σ H s) (B : LamX.TabB X.base X.mg k0 P) (hk : X.env.code = .ref k0)
    (hP : H P = some (.tbl ps)) (tr : TriplesOk ps.toList) (cds : ∀ (pos : Pos) (cv : Value), codeAmong pos ps.toList = some cv → ∃ k, cv = .ref k ∧ H k = some (LamX.CodeO k (X.env.qual ++ "<lambda>")))
    (nd : defaultsOf ar X.env = ([], [])) (fr : ∀ y ∈ sc.names, y.2 = .free → ∃ k, X.env.cells.lookup y.1 = some k)
    (go : ∀ (f k : Addr) (pm ctv : Value) (H1 : Hp) (t : Shared), Inv X pins σ H1 t → Made H P ps (X.env.qual ++ "<lambda>") k H1 → t.heap.get? f = some (lamO X ar b sc pm ctv k) → H1 f = none → f ∉ frs X.stack → Q (.ref f) t) :
    wpAny (model X.prog X.w) X.A (eval (.Lambda ar b sc pos) X.env) Q E s := by
  have hP0 : s.heap.get? P = some { cls := .none, data := .fields ps } := I.hok P _ hP
  have bP : s.heap.BuiltinsAt X.mg P := B.bm.keeps I.bk
  have out : ∀ f, s.heap.objs.size ≤ f → f ∉ frs X.stack := by
    intro f hf z
    rcases List.mem_cons.mp (I.stkSub _ z) with e | e
    · have z2 := I.lt
      rw [← e] at z2
      exact absurd (Nat.lt_of_lt_of_le z2 hf) (Nat.lt_irrefl _)
    · exact I.nofs hf e
  apply PySem.W.kla_eval nd
  cases hc : codeAmong pos ps.toList with
  | some cv =>
    obtain ⟨k, rfl, hko⟩ := cds pos cv hc
    apply PySem.W.kla_makeFunctionHit (mg := X.mg) (c := k0) (P := P) (ps := ps) (closure_ok fr) I.ok.glob (I.mod.glob.keeps I.bk) hk (B.code.keeps I.bk) hP0 tr hc bP
    intro ctv h1 tk hx hsz
    refine go h1.objs.size k ((X.mg "__name__").getD .none) ctv H _ (I.kept (h' := h1.push (lamO X ar b sc ((X.mg "__name__").getD .none) ctv k)) (t' := tk) fun a o e => Heap.get?_push_of_some _ (hx a o e)) (.old hko) (Heap.get?_push_size _ rfl) (I.hok.fresh hsz) (out _ hsz)
  | none =>
    apply PySem.W.kla_makeFunction (mg := X.mg) (c := k0) (P := P) (ps := ps) (closure_ok fr) I.ok.glob (I.mod.glob.keeps I.bk) hk (B.code.keeps I.bk) hP0 tr hc B.gP bP
    intro k ctv h1 tk hx hge hlt hrec htb
    obtain ⟨k', oc, vs, t, ek, hoc, hd, hv⟩ := hrec
    cases ek
    have nk : H k = none := I.hok.fresh hge
    have le1 : s.heap.objs.size ≤ h1.objs.size := by omega
    have eL : (ps ++ #[rawInt pos.line, rawInt pos.col, .ref k]).toList = ps.toList ++ [rawInt pos.line, rawInt pos.col, .ref k] := by simp
    refine go h1.objs.size k ((X.mg "__name__").getD .none) ctv _ _ (LamX.inv_table (t' := tk) (q := X.env.qual ++ "<lambda>") (more := #[rawInt pos.line, rawInt pos.col, .ref k]) (h' := h1.push (lamO X ar b sc ((X.mg "__name__").getD .none) ctv k)) I hP
      (fun a o ha e => Heap.get?_push_of_some _ (hx a o ha e)) (Heap.get?_push_of_some _ htb) hge ⟨oc, vs, t, Heap.get?_push_of_some _ hoc, hd, hv⟩) (.new _ nk (by rw [eL]; exact PySem.TriplesOk_snoc _ _ _ _ tr) fun p' cv e => ?_) (Heap.get?_push_size _ rfl) ?_ (out _ le1)
    · rw [eL] at e
      exact LamX.among_app _ tr e
    · have n1 : h1.objs.size ≠ k := by omega
      have n2 : h1.objs.size ≠ P := Nat.ne_of_gt (Nat.lt_of_lt_of_le (Heap.lt_size hP0) le1)
      rw [upd_ne n1, upd_ne n2]
      exact I.hok.fresh le1
/-- the reading of g(lambda: b) -/
def tTold (P : Addr) (q : Str) (TT : (XK → Hp → VK → Prop) → Hp → VK → Prop) (t : XK → TE) : TE := fun σ H Q =>
  ∃ ps : Array Value, H P = some (.tbl ps) ∧ TriplesOk ps.toList ∧ (∀ (pos : Pos) (cv : Value), codeAmong pos ps.toList = some cv → ∃ k, cv = .ref k ∧ H k = some (LamX.CodeO k q)) ∧ ∀ (k : Addr) (H1 : Hp), Made H P ps q k H1 → TT (fun E H' Q' => t E σ H' Q') H1 Q
/-- the def that gets the lambda -/
structure Getter (K : PySem.W.Frag) (x a : Str) (g : Addr) (bg : List Stmt) (sg : Scope) (cdg : Value) : Prop where
  kp : PySem.W.keepIn K (.ref g) = true
  ex : ∃ (pg : Arguments) (dV kV doc pm ct oc : Value) (an od : Option Addr) (osl : Array (Option Value)), K.lookup g = some ⟨oc, od, .func (PySem.W.fnOf x x pg bg sg dV kV doc pm an cdg ct), osl⟩ ∧ L2.Binds K (PySem.W.fnOf x x pg bg sg dV kV doc pm an cdg ct) [a] []
  cd : PySem.W.codeIn K cdg x = true
theorem pe_lamTold {TT : (XK → Hp → VK → Prop) → Hp → VK → Prop} {x a : Str} {g k0 P : Addr} {n : Nat} {bg : List Stmt} {sg : Scope} {cdg : Value} {Ng : List Str} {ar : Arguments} {b : Expr} {sc : Scope} {t : XK → TE} {p lp pos : Pos}
    (Y : Getter X.K x a g bg sg cdg) (hg : Gl X x) (hm : X.mg x = some (.ref g)) (Sg : FnScope Ng [a] sg) (hN : Ng[0]? = some a) (va : Vis sg a)
    (hG : LamX.GivesTo X Ng x sg g cdg bg a (X.env.qual ++ "<lambda>") TT) (B : LamX.TabB X.base X.mg k0 P) (hk : X.env.code = .ref k0) (hr : Room (n + 2) X.A) (L : LamX.LamS X.env.scope sc) (nd : defaultsOf ar X.env = ([], []))
    (hbind : ∀ (q : Str) (cl : List (Str × Addr)) (pm cv ctv : Value), bindArgs (PySem.W.kla_fn "<lambda>" q ar b sc cl pm cv ctv) ⟨[], []⟩ = pure [])
    (hb : ∀ (A : Around) (outer : List Env) (s : Shared) (H : Hp) (E : XK) (f k : Addr), Room n (A.deeper (LamX.lamEnv X sc s.heap.objs.size f k)) → PE (LamX.lamCx X A outer s H E sc f k) b (t E))
    (hdb : (x == ("__debug__" : Str)) = false) (hd : (a == ("__debug__" : Str)) = false) (hcd : (a == ("__classdict__" : Str)) = false) :
    PE X (.Call (.Name x p) [.Lambda ar b sc lp] [] pos) (tTold P (X.env.qual ++ "<lambda>") TT t) := by
  obtain ⟨pg, dV, kV, doc, pm, ct, oc, an, od, osl, lk, bd⟩ := Y.ex
  refine ⟨fun pins s σ H Q I h => ?_⟩
  obtain ⟨ps, hP, tr, cds, h⟩ := h
  refine wpAny_Call_Name_kw (ld_glob I hg hm ?_ hdb)
  refine PySem.W.callWith_K (h₀ := X.base) I.ok.mod.kin Y.kp ?_ (by rfl) (by rfl)
  show wpAny _ _ (spliced ((false, eval (.Lambda ar b sc lp) X.env) :: backTo pos (starEach [] X.env))) _ _ s
  refine Calls.spliced_cons (lam_told I B hk hP tr cds nd (L.has I.ok) fun f k pm' ctv H1 s1 I1 md hf hfn hfr => Calls.spliced_nil ⟨I1.kIn, ?_⟩)
  have rc : codeAny (model X.prog X.w) X.A (.call (.ref g) ⟨[.ref f], []⟩) (CR C8.CX0 X.stack X.prog X.w H1 s1 Q C8.E0) s1 := by
    refine LamX.run_ofS (N := Ng) (ps := [a]) (us := [.ref f]) (vs := [.ref f]) lk Y.cd Sg hr I1.env0 (bd s1 [.ref f] I1.kIn rfl) (.cons rfl .nil) rfl fun hr1 => ?_
    obtain ⟨t1, ht1, hq1⟩ := hG f k s1 H1 Q (fun E H' Q' => t E σ H' Q') (fun W pn xe E p1 p2 tk hW => LamX.pe_act (i := 0) I1 L hf hfn hfr (hbind _ _ _ _ _) tk hW hr1 (fun A outer s H hr2 => hb A outer s H E f k hr2) hN va hd hcd) md.code (h k H1 md)
    exact ⟨t1, ht1.nox, hq1⟩
  refine wpAny_call (codeAny_mono rc fun r s2 hq => ?_)
  match r, hq with
  | .ok (.ret u), hq => exact I1.after hq
end
/-- the catcher's word of what is called -/
def TKeep (K : PySem.W.Frag) (CS : Addr) : (XK → Hp → VK → Prop) → Hp → VK → Prop := fun tl H Q =>
  ∀ R : VK, (∀ v H', Q .non H' → R v H') → tl (fun cls d H' => ∃ C, cls = .ref C ∧ d = none ∧ PySem.W.exmOne K cls (.ref CS) = some true ∧ ∀ a, H' a = none → Q (.ref a) (upd H' a (ExC C a))) H R
/-- the catcher's text -/
def catchB (work caught error E : Str) (doc : Option (Str × Nat × Pos × Pos)) (p0 p1 p2 p3 p4 p5 p6 p7 p8 p9 pa pb pc pd : Pos) (c0 : Nat) : List Stmt :=
  (match doc with | some (x, j, q, r) => [Stmt.Expr (.Constant (.str x) j q) r] | none => []) ++
  [.Assign [.Name caught p0] (.Constant .none c0 p1) p2, .Try [.Expr (.Call (.Name work p3) [] [] p4) p5] [.ExceptHandler (some (.Name E p6)) (some error) [.Assign [.Name caught p7] (.Name error p8) p9] pa] [] [] pb, .Return (some (.Name caught pc)) pd]
section
variable {X : Cx}
theorem keep_gives {sg : Scope} {work caught error x y q : Str} {g CS : Addr} {cdg : Value} {p0 p1 p2 p3 p4 p5 p6 p7 p8 p9 pa pb pc pd : Pos} {c0 : Nat}
    (nd : [work, caught, error].Nodup) (hc : sg.names.lookup caught = some .local) (he : sg.names.lookup error = some .local) (hy : sg.names.lookup y = some .globalImplicit) (hm : X.mg y = some (.ref CS)) (dy : (y == ("__debug__" : Str)) = false)
    (dc : (caught == ("__debug__" : Str)) = false) (cc : (caught == ("__classdict__" : Str)) = false) (de : (error == ("__debug__" : Str)) = false) (ce : (error == ("__classdict__" : Str)) = false) :
    LamX.GivesTo X [work, caught, error] x sg g cdg (catchB work caught error y none p0 p1 p2 p3 p4 p5 p6 p7 p8 p9 pa pb pc pd c0) work q (TKeep X.K CS) := by
  intro f k s H Q tl act hk h
  have hgl : Gl (cxOf C8.CX0 X.prog X.w X.K X.mg X.base [work, caught, error] x sg g cdg X.A X.stack s H C8.E0).nox y := hy
  have s1 := ps_set (X := (cxOf C8.CX0 X.prog X.w X.K X.mg X.base [work, caught, error] x sg g cdg X.A X.stack s H C8.E0).nox) (i := 1) (x := caught) (pos' := p0) (pos := p2) (e := .Constant .none c0 p1) nd rfl (.inl hc) pe_non rfl (.inl rfl)
  have s2 := ps_keep (X := (cxOf C8.CX0 X.prog X.w X.K X.mg X.base [work, caught, error] x sg g cdg X.A X.stack s H C8.E0).nox) (x := y) (n := error) (y := caught) (c := .ref CS) (i := 2) (j := 1) (np := p6) (yp := p7) (n2 := p8) (ap := p9) (pos := pb) (pos' := pa)
    (body := [.Expr (.Call (.Name work p3) [] [] p4) p5]) (tb := fun W D σ H => ∃ Ech : XK, (∀ cls d σ' H', Ech cls d H' → W cls d σ' H') ∧ σ[0]? = some (some (.ref f)) ∧ H k = some (LamX.CodeO k q) ∧ tl Ech H fun _ H1 => D.nx σ H1) (Wo := fun _ _ _ _ => False)
    rfl rfl rfl nd rfl rfl he hc de ce ⟨hgl, dy, .inl hm⟩ LamX.takes0 (fun W pn xe tk _ => ⟨fun pins s' σ H' D I h' => by
      obtain ⟨Ech, hW, h1, h2, h3⟩ := h'
      exact (pss_one (ps_expr (pos := p5) (act W pn xe Ech p3 p4 tk hW) rfl)).run pins s' σ H' D I ⟨h1, h2, h3⟩⟩)
  have s3 := ps_ret (X := (cxOf C8.CX0 X.prog X.w X.K X.mg X.base [work, caught, error] x sg g cdg X.A X.stack s H C8.E0).nox) (pos := pd) (pe_var (i := 1) (x := caught) (pos := pc) rfl (.inl hc) dc cc)
  refine ⟨_, pss_cons s1 (pss_cons s2 (pss_one s3)), ?_⟩
  show ∃ Ech : XK, _ ∧ _ ∧ _ ∧ _
  refine ⟨_, fun cls d σ' H' h' => ?_, rfl, hk, h _ fun v H' q => ⟨.non, rfl, q⟩⟩
  obtain ⟨C, rfl, rfl, h1, h2⟩ := h'
  refine ⟨true, h1, fun _ => ⟨C, rfl, rfl, fun a ha hl => ?_⟩, fun z => nomatch z⟩
  have hl : σ'.length = 3 := hl
  match σ', hl with
  | [x0, x1, x2], _ => exact ⟨.ref a, rfl, h2 a ha⟩
end
end PyS
end

section
set_option Elab.async false
set_option linter.all false
set_option maxRecDepth 100000
set_option maxHeartbeats 4000000
/-! X4: the error that a call raises, held as a value. -/
namespace PyS
open PySem L2
variable {T : Tb}
/-- a new object that never changes -/
theorem RS.newG {w : Wd} {σ : L2.St} {s : Py.St} (rs : RS T w σ s) {p : Addr} (hp : w.H p = none) (o : HO) :
    ∃ w' : Wd, w'.H = upd w.H p o ∧ Stp w w' ∧ RS T w' σ s ∧ w'.G p = some o := by
  obtain ⟨a1, a2⟩ := rs.alloc hp o
  have hG : w.G p = none := by
    cases z : w.G p with
    | none => rfl
    | some u => rw [rs.gh p u z] at hp; cases hp
  have hg : GLe w.G (upd w.G p o) := upd_gle hG
  have hl : ∀ a r, w.lab a = some r → a ≠ p := fun a r h z => by
    subst z
    exact (rs.lg a r h).2 hp
  refine ⟨{ w with H := upd w.H p o, G := upd w.G p o }, rfl, ⟨hg, PLe.refl _, fun a u h l => ?_, a1.t⟩, ⟨⟨fun a u h => ?_, fun a r h => ⟨?_, (a2.lg a r h).2⟩⟩, fun i u h => ?_, fun n u h => ?_, rs.len, rs.el⟩, upd_same⟩
  · obtain ⟨b1, b2, _⟩ := a1.h a u h l
    refine ⟨b1, b2, ?_⟩
    show upd w.G p o a = w.G a
    exact upd_ne (ne_of_none h hp)
  · by_cases q : a = p
    · subst q
      have h' : upd w.G a o a = some u := h
      rw [upd_same] at h'
      cases h'
      exact upd_same
    · have h' : upd w.G p o a = some u := h
      rw [upd_ne q] at h'
      show upd w.H p o a = some u
      rw [upd_ne q]
      exact rs.gh a u h'
  · show upd w.G p o a = none
    rw [upd_ne (hl a r h)]
    exact (rs.lg a r h).1
  · obtain ⟨v, e1, e2⟩ := a2.env i u h
    refine ⟨v, e1, RepO.move ?_ e2⟩
    exact ⟨hg, PLe.refl _, fun a π q => ⟨q, fun o' z => z⟩⟩
  · obtain ⟨v, e1, e2⟩ := a2.sto n u h
    refine ⟨v, e1, RepO.move ?_ e2⟩
    exact ⟨hg, PLe.refl _, fun a π q => ⟨q, fun o' z => z⟩⟩
/-- the table of cell n when a lambda is made -/
theorem RS.made {w : Wd} {σ : L2.St} {s : Py.St} (rs : RS T w σ s) {n k : Nat} (hn : s.sto[n]? = some (.tab k)) {P : Addr} {q : Str} (ht : T.tb k = some (P, q)) :
    ∃ ps : Array Value, w.H P = some (.tbl ps) ∧ TriplesOk ps.toList ∧ (∀ (pos : Pos) (cv : Value), codeAmong pos ps.toList = some cv → ∃ c, cv = .ref c ∧ w.H c = some (LamX.CodeO c q)) ∧
      ∀ (c : Addr) (H1 : Hp), Made w.H P ps q c H1 → ∃ w1 : Wd, w1.H = H1 ∧ Stp w w1 ∧ RS T w1 σ s := by
  obtain ⟨a, hφ, r⟩ := rs.sto n _ hn
  cases r with
  | @tab _ _ _ q' ps ht' hl hH tg =>
  have e := ht'.symm.trans ht
  simp only [Option.some.injEq, Prod.mk.injEq] at e
  obtain ⟨rfl, rfl⟩ := e
  refine ⟨ps, hH, tg.tr, fun pos cv h => ?_, fun c H1 m => ?_⟩
  · obtain ⟨c, h1, h2⟩ := tg.cd pos cv h
    exact ⟨c, h1, rs.gh _ _ h2⟩
  · cases m with
    | old h => exact ⟨w, rfl, Stp.refl _, rs⟩
    | new qs hk tr more =>
      have hG : w.G c = none := by
        cases z : w.G c with
        | none => rfl
        | some u => rw [rs.gh c u z] at hk; cases hk
      have hg : GLe w.G (upd w.G c (LamX.CodeO c q')) := upd_gle hG
      have nc : ∀ b, w.H b ≠ none → b ≠ c := fun b h z => h (by rw [z]; exact hk)
      have keep : ∀ b, w.H b ≠ none → b ≠ a → upd (upd w.H a (.tbl qs)) c (LamX.CodeO c q') b = w.H b := fun b h hb => by rw [upd_ne (nc b h), upd_ne hb]
      have ac : a ≠ c := nc a (by rw [hH]; exact fun z => nomatch z)
      have atA : upd (upd w.H a (.tbl qs)) c (LamX.CodeO c q') a = some (.tbl qs) := by rw [upd_ne ac, upd_same]
      have lne : ∀ {b : Addr} {x : Root × List Nat}, w.lab b = some x → w.H b ≠ none := fun h => (rs.lg _ _ h).2
      refine ⟨{ w with H := upd (upd w.H a (.tbl qs)) c (LamX.CodeO c q'), G := upd w.G c (LamX.CodeO c q') }, rfl, ⟨hg, PLe.refl _, fun b u h l => ?_, fun b h => ?_⟩, ⟨⟨fun b u h => ?_, fun b x h => ⟨?_, ?_⟩⟩, fun i o h => ?_, fun m o h => ?_, rs.len, rs.el⟩⟩
      · have hb : b ≠ a := fun z => by rw [z, hl] at l; cases l
        have hne : w.H b ≠ none := by rw [h]; exact fun z => nomatch z
        exact ⟨(keep b hne hb).trans h, l, upd_ne (nc b hne)⟩
      · by_cases hb : b = a
        · rw [hb]
          show upd (upd w.H a (.tbl qs)) c (LamX.CodeO c q') a ≠ none
          rw [atA]
          exact fun z => nomatch z
        · show upd (upd w.H a (.tbl qs)) c (LamX.CodeO c q') b ≠ none
          rw [keep b h hb]
          exact h
      · by_cases hb : b = c
        · subst hb
          have h' : upd w.G b (LamX.CodeO b q') b = some u := h
          rw [upd_same] at h'
          cases h'
          exact upd_same
        · have h' : upd w.G c (LamX.CodeO c q') b = some u := h
          rw [upd_ne hb] at h'
          have hH' := rs.gh b u h'
          have hba : b ≠ a := fun z => by rw [z, (rs.lg a _ hl).1] at h'; cases h'
          exact (keep b (by rw [hH']; exact fun z => nomatch z) hba).trans hH'
      · show upd w.G c (LamX.CodeO c q') b = none
        rw [upd_ne (nc b (lne h))]
        exact (rs.lg b x h).1
      · show upd (upd w.H a (.tbl qs)) c (LamX.CodeO c q') b ≠ none
        by_cases hb : b = a
        · rw [hb, atA]
          exact fun z => nomatch z
        · rw [keep b (lne h) hb]
          exact lne h
      · obtain ⟨v, e1, e2⟩ := rs.env i o h
        refine ⟨v, e1, RepO.move ?_ e2⟩
        refine ⟨hg, PLe.refl _, fun b π z => ⟨z, fun o' y => ?_⟩⟩
        have hb : b ≠ a := fun z' => by rw [z', hl] at z; cases z
        exact (keep b (lne z) hb).trans y
      · obtain ⟨v, e1, e2⟩ := rs.sto m o h
        refine ⟨v, e1, ?_⟩
        by_cases hm : m = n
        · subst hm
          rw [hn] at h
          cases h
          rw [hφ] at e1
          cases e1
          refine .tab ht' hl atA ⟨tr, fun pos cv z => ?_⟩
          rcases more pos cv z with y | rfl
          · obtain ⟨c0, y1, y2⟩ := tg.cd pos cv y
            exact ⟨c0, y1, hg _ _ y2⟩
          · exact ⟨c, rfl, upd_same⟩
        · refine RepO.move ?_ e2
          refine ⟨hg, PLe.refl _, fun b π z => ⟨z, fun o' y => ?_⟩⟩
          have hb : b ≠ a := fun z' => by
            rw [z', hl] at z
            cases z
            exact hm rfl
          exact (keep b (lne z) hb).trans y
/-- what is known of the catcher -/
structure CatF (T : Tb) (K : PySem.W.Frag) (mg : Str → Option Value) (x : Str) (g : Addr) : Prop where
  ex : ∃ (work caught error y : Str) (CS : Addr) (sg : Scope) (cdg : Value) (p0 p1 p2 p3 p4 p5 p6 p7 p8 p9 pa pb pc pd : Pos) (c0 : Nat), Getter K x work g (catchB work caught error y none p0 p1 p2 p3 p4 p5 p6 p7 p8 p9 pa pb pc pd c0) sg cdg ∧ FnScope [work, caught, error] [work] sg ∧ Vis sg work ∧
    sg.names.lookup caught = some .local ∧ sg.names.lookup error = some .local ∧ sg.names.lookup y = some .globalImplicit ∧ mg y = some (.ref CS) ∧ (y == ("__debug__" : Str)) = false ∧ (work == ("__debug__" : Str)) = false ∧ (work == ("__classdict__" : Str)) = false ∧
    (caught == ("__debug__" : Str)) = false ∧ (caught == ("__classdict__" : Str)) = false ∧ (error == ("__debug__" : Str)) = false ∧ (error == ("__classdict__" : Str)) = false ∧ ∀ q C, T.xc q = some C → PySem.W.exmOne K (.ref C) (.ref CS) = some true
/-- the arguments, wherever the lambda is entered -/
def tLamA (X : Cx) (sc : Scope) (n : Nat) (es : List Expr) : TA := fun σ H Q => ∀ (A : Around) (outer : List Env) (s : Shared) (H0 : Hp) (E : XK) (f k : Addr), Room n (A.deeper (LamX.lamEnv X sc s.heap.objs.size f k)) → WA (LamX.lamCx X A outer s H0 E sc f k) es σ H Q
section
variable {c : Py.Cx} {X : Cx}
theorem sim_caught {x z : Str} {g a k0 P : Addr} {n k j f m : Nat} {ar : Arguments} {u : Expr} {us : List Expr} {Es : List Py.E} {sc : Scope} {p lp pos p2 p3 : Pos} (CF : CatF T X.K X.mg x g) (hg : Gl X x) (hm : X.mg x = some (.ref g)) (hdx : (x == ("__debug__" : Str)) = false)
    (ht : T.tb k = some (P, X.env.qual ++ "<lambda>")) (B : LamX.TabB X.base X.mg k0 P) (hk : X.env.code = .ref k0) (hr : Room (j + 2) X.A) (L : LamX.LamS X.env.scope sc) (nd : defaultsOf ar X.env = ([], []))
    (hbind : ∀ (q : Str) (cl : List (Str × Addr)) (pm cv ctv : Value), bindArgs (PySem.W.kla_fn "<lambda>" q ar (.Call (.Name z p2) (u :: us) [] p3) sc cl pm cv ctv) ⟨[], []⟩ = pure [])
    (F : FnX T c X m f a) (hmj : m ≤ j) (gz : sc.names.lookup z = some .globalImplicit) (hz : X.mg z = some (.ref a)) (dz : (z == ("__debug__" : Str)) = false) (n1 : notStar u = true) (n2 : ∀ env : Env, (backTo p3 (starEach us env)).any (·.1) = false)
    (hs : ∀ (A : Around) (outer : List Env) (s : Shared) (H : Hp) (E : XK) (f k : Addr), Room j (A.deeper (LamX.lamEnv X sc s.heap.objs.size f k)) → SimEs T c (LamX.lamCx X A outer s H E sc f k) (u :: us) Es) :
    SimE T c X (.Call (.Name x p) [.Lambda ar (.Call (.Name z p2) (u :: us) [] p3) sc lp] [] pos) (.caught n k (.call f Es)) := by
  intro m0 w σ s o s' rs ev Q q
  obtain ⟨work, caught, error, y, CS, sg, cdg, p0, p1, p2', p3', p4, p5, p6, p7, p8, p9, pa, pb, pc, pd, c0, Y, S, va, l1, l2, l3, my, dy, dw, cw, dc, cc, de, ce, sub⟩ := CF.ex
  obtain ⟨fd, ps, G, b, ar'⟩ := F.ex
  simp only [Py.ev] at ev
  split at ev
  · rename_i k' hn
    split at ev
    · rename_i hkk
      subst hkk
      split at ev
      · rename_i ds s1 e1
        have key : ∃ r sto, c.callX f ds s1.sto = some (r, sto) ∧ s' = { s1 with sto := sto } ∧ o = (match r with | none => Py.O.d .non | some q => .d (.exn q)) := by
          split at ev
          · rename_i q sto e2
            simp only [Option.some.injEq, Prod.mk.injEq] at ev
            exact ⟨_, _, e2, ev.2.symm, ev.1.symm⟩
          · rename_i sto e2
            simp only [Option.some.injEq, Prod.mk.injEq] at ev
            exact ⟨_, _, e2, ev.2.symm, ev.1.symm⟩
          · cases ev
        obtain ⟨r, sto, e2, rfl, rfl⟩ := key
        obtain ⟨tps, hP, tr, cds, md⟩ := rs.made hn ht
        refine WE.of (pe_lamTold (n := j) (t := fun E => tCallS (spX T c.callX f ps.length) (fun _ => E) (tLamA X sc j (u :: us))) Y hg hm S rfl va
          (keep_gives S.nd l1 l2 l3 my dy dc cc de ce) B hk hr L nd hbind (fun A outer s0 H0 E f0 k1 hr0 => ?_) hdx dw cw) ⟨tps, hP, tr, cds, fun k1 H1 m1 => ?_⟩
        · exact pe_callS (X := LamX.lamCx X A outer s0 H0 E sc f0 k1) (E := fun _ => E) G (hr0.mono hmj) gz hz F.kp b (fun σ => passAt (W := fun cls d _ H => E cls d H) (takes_of rfl rfl rfl rfl) σ) ⟨fun pos pins s σ H Q I h => h A outer s0 H0 E f0 k1 hr0 pos pins s I⟩ dz
            (starEach_not n1 us _) (n2 _)
        · obtain ⟨w1, rfl, st1, rs1⟩ := md k1 H1 m1
          intro R hR A outer s0 H0 E f0 k2 hr0
          refine hs A outer s0 H0 E f0 k2 hr0 w1 σ s ds s1 rs1 e1 _ fun vs w2 st2 rs2 q2 r2 => ?_
          have hl : vs.length = ps.length := r2.length.trans (ar' _ _ _ e2)
          refine ⟨hl, hideE w2, ds, s1.sto, r, sto, rfl, rs2.hide, r2, e2, fun w3 st3 rs3 => ?_⟩
          obtain ⟨b1, b2, _⟩ := rs2.back st3 rs3
          have st : Stp w (unhide w2 w3) := st1.trans (st2.trans b1)
          cases r with
          | none => exact fun v => hR v _ <| q .non (unhide w2 w3) st b2 (fun qq => by simp only [Py.E.quiet] at qq; cases qq) (PO.of (Res.d .non))
          | some e =>
            refine fun C hC => ⟨C, rfl, rfl, sub e C hC, fun p hp => ?_⟩
            obtain ⟨w4, h4, st4, rs4, g4⟩ := b2.newG hp (ExC C p)
            have := q (.ref p) w4 (st.trans st4) rs4 (fun qq => by simp only [Py.E.quiet] at qq; cases qq) (PO.of (Res.d (.exn hC g4)))
            rw [h4] at this
            exact this
      · cases ev
    · cases ev
  · cases ev
end
end PyS
end

section
set_option Elab.async false
set_option linter.all false
set_option maxRecDepth 100000
set_option maxHeartbeats 4000000
/-! X5: list(zip(..)), list(range(..)), sorted. -/
namespace PyS
open PySem PySem.Spec PyProof.Rows L2
variable {T : Tb}
/-- where a zip stands -/
structure Zat (ka kb : Bool) (a b z P O i1 i2 : Addr) (i : Nat) (h : Heap) : Prop where
  z : ∃ f0 f1, Outs f0 ∧ IsZg h z P O f0 f1
  ti : IsTupOf2 h P (.ref i1) (.ref i2)
  to : ∃ x y, IsTupOf2 h O x y
  h1 : It2 ka h i1 a i
  h2 : It2 kb h i2 b i
theorem Zat.keep {ka kb : Bool} {a b z P O i1 i2 : Addr} {i : Nat} {h h' : Heap} (x : Zat ka kb a b z P O i1 i2 i h) (k : ∀ c ∈ [z, P, O, i1, i2], ∀ o, h.get? c = some o → h'.get? c = some o) : Zat ka kb a b z P O i1 i2 i h' := by
  obtain ⟨⟨f0, f1, fo, hz⟩, hP, ⟨u, v, hO⟩, h1, h2⟩ := x
  exact ⟨⟨f0, f1, fo, k z (by simp) _ hz⟩, k P (by simp) _ hP, ⟨u, v, k O (by simp) _ hO⟩, h1.at fun o q => k i1 (by simp) o q, h2.at fun o q => k i2 (by simp) o q⟩
theorem Zat.lt {ka kb : Bool} {a b z P O i1 i2 : Addr} {i : Nat} {h : Heap} (x : Zat ka kb a b z P O i1 i2 i h) : ∀ c ∈ [z, P, O, i1, i2], c < h.objs.size := by
  obtain ⟨⟨f0, f1, fo, hz⟩, hP, ⟨u, v, hO⟩, h1, h2⟩ := x
  intro c hc
  have e : c = z ∨ c = P ∨ c = O ∨ c = i1 ∨ c = i2 := by simpa using hc
  rcases e with q | q | q | q | q
  · rw [q]; exact Heap.lt_size hz
  · rw [q]; exact Heap.lt_size hP
  · rw [q]; exact Heap.lt_size hO
  · rw [q]; obtain ⟨_, e1, _⟩ := h1.ob; exact Heap.lt_size e1
  · rw [q]; obtain ⟨_, e2, _⟩ := h2.ob; exact Heap.lt_size e2
def pairD (p : Py.D × Py.D) : Py.D := .tup [p.1, p.2]
section
variable {X : Cx} {pins : List (Addr × Obj)} {σ : L2.St} {st : Py.St} {A : Around}
theorem fpOk_upd {H : Hp} {b p : Addr} {o : HO} (f : FpOk X pins H b) (n : b ≠ p) : FpOk X pins (L2.upd H p o) b := ⟨by rw [upd_ne n]; exact f.1, f.2⟩
theorem loop_zip (hh : A.in1.in1.handled = none) {ka kb : Bool} {a b z P O i1 i2 S : Addr} {res : Value} (Sw : ZipSep2 z P O i1 i2 [i1, a] [i2, b]) (na : a ≠ i1) (nb : b ≠ i2) (nS : S ∉ [z, P, O, i1, i2]) {dx dy : List Py.D} (hm : min dx.length dy.length ≤ sizeLine) {R : Result → Shared → Prop} :
    ∀ (k i : Nat) (s : Shared) (w : Wd) (xs ys : List V) (acc : Array Value) (c : Nat) (ts : List V), min dx.length dy.length - i = k → i ≤ min dx.length dy.length → L2.Inv X pins σ w.H s → (∀ q ∈ S :: [z, P, O, i1, i2], FpOk X pins w.H q) → RS T w σ st →
      Sq2 ka X.K w.H a xs → Sq2 kb X.K w.H b ys → Reps T w.G w.φ xs dx → Reps T w.G w.φ ys dy → Zat ka kb a b z P O i1 i2 i s.heap → s.heap.get? S = some { cls := .type "list", dict := none, data := .seq acc c, slots := #[] } → Vals ts acc.toList →
      Reps T w.G w.φ ts (((dx.zip dy).take i).map pairD) →
      (∀ (w' : Wd) (s' : Shared) (acc' : Array Value) (c' : Nat) (ts' : List V), Stp w w' → RS T w' σ st → GLe w.H w'.H → L2.Inv X pins σ w'.H s' → FpOk X pins w'.H S → s'.heap.get? S = some { cls := .type "list", dict := none, data := .seq acc' c', slots := #[] } → Vals ts' acc'.toList →
        Reps T w'.G w'.φ ts' ((dx.zip dy).map pairD) → R (.ok (.ret res)) s') →
      codeAny (model X.prog X.w) A (.builtin "list.extend.loop" ⟨[.ref S, .ref z, res], []⟩) R s := by
  intro k
  have ni : ∀ {c}, c ∈ [z, P, O, i1, i2] → S ≠ c := fun h e => nS (by rw [e]; exact h)
  induction k with
  | zero =>
    intro i s w xs ys acc c ts hk hi I fp rs qx qy rx ry x hS vt rt go
    have hin : i = min dx.length dy.length := by omega
    obtain ⟨⟨f0, f1, fo, hz⟩, hP, ⟨u, v, hO⟩, h1, h2⟩ := x
    obtain ⟨its, rv, p, _⟩ := Inv.sq2 I qx
    obtain ⟨its2, rv2, p2, _⟩ := Inv.sq2 I qy
    have l1 := rv.length
    have l2 := rv2.length
    have l3 := rx.length
    have l4 := ry.length
    refine codeAny_builtin F.entry_extend_loop ?_
    rw [Around.under_plainId F.plain_extend_loop _]
    show wpAny _ A.in1 (pyNext (.ref z) >>= _) _ _ s
    refine wpAny_bind (zg_pyNext_end fo Sw (draws2 hh ka i1 a na its.toArray) (draws2 hh kb i2 b nb its2.toArray) hz hP hO ⟨h1, p⟩ ⟨h2, p2⟩ (by simp; omega) (by simp; omega) (by simp; omega) fun h' tk kp => ?_)
    refine wpAny_pure (go w _ acc c ts (Stp.refl _) rs (GLe.refl _) (I.turnedL (t' := tk) (ch := [z, P, O, i1, i2]) (fun c o hb q => kp c o (fun e => hb (by simp [e])) (fun e => hb (by simp [e])) (fun e => hb (by simp [e])) (fun e => hb (by simp [e])) q) fun q hq => fp q (List.mem_cons_of_mem _ hq)) (fp S (by simp))
      (kp S _ (ni (by simp)) (ni (by simp)) (ni (by simp)) (ni (by simp)) hS) vt ?_)
    have e : (dx.zip dy).take i = dx.zip dy := List.take_of_length_le (by rw [List.length_zip]; omega)
    rw [e] at rt
    exact rt
  | succ k ih =>
    intro i s w xs ys acc c ts hk hi I fp rs qx qy rx ry x hS vt rt go
    have hlt : i < min dx.length dy.length := by omega
    have xlt := x.lt
    obtain ⟨⟨f0, f1, fo, hz⟩, hP, ⟨u, v, hO⟩, h1, h2⟩ := x
    obtain ⟨its, rv, p, _⟩ := Inv.sq2 I qx
    obtain ⟨its2, rv2, p2, _⟩ := Inv.sq2 I qy
    have l1 := rv.length
    have l2 := rv2.length
    have l3 := rx.length
    have l4 := ry.length
    obtain ⟨d1, hd1⟩ : ∃ d, dx[i]? = some d := ⟨dx[i]'(by omega), List.getElem?_eq_getElem _⟩
    obtain ⟨d2, hd2⟩ : ∃ d, dy[i]? = some d := ⟨dy[i]'(by omega), List.getElem?_eq_getElem _⟩
    obtain ⟨x1, hx1, r1⟩ := rx.get hd1
    obtain ⟨y1, hy1, r2⟩ := ry.get hd2
    obtain ⟨u1, hu1, ru1⟩ := rv.get hx1
    obtain ⟨u2, hu2, ru2⟩ := rv2.get hy1
    refine codeAny_builtin F.entry_extend_loop ?_
    rw [Around.under_plainId F.plain_extend_loop _]
    show wpAny _ A.in1 (pyNext (.ref z) >>= _) _ _ s
    refine wpAny_bind (zg_pyNext_item fo Sw (draws2 hh ka i1 a na its.toArray) (draws2 hh kb i2 b nb its2.toArray) hz hP hO ⟨h1, p⟩ ⟨h2, p2⟩ (by simp; omega) (by simp; omega) fun v1 v2 h' tk g0 g1 b1 b2 e1 e2 go' z' O' s1' s2' hT hsz kp => ?_)
    have e1' : v1 = u1 := by
      rw [show its.toArray[i]? = some u1 by simpa using hu1] at e1
      exact (Option.some.inj e1).symm
    have e2' : v2 = u2 := by
      rw [show its2.toArray[i]? = some u2 by simpa using hu2] at e2
      exact (Option.some.inj e2).symm
    subst e1' e2'
    have Slt : S < s.heap.objs.size := Heap.lt_size hS
    have hp : w.H s.heap.objs.size = none := I.hok.fresh (Nat.le_refl _)
    obtain ⟨w1, eH, st1, rs1, r3⟩ := rs.newT hp (xs := [x1, y1]) (ds := [d1, d2]) (.cons r1 (.cons r2 .nil))
    have new : ObjOk X.prog X.w (L2.upd w.H s.heap.objs.size (.tup [x1, y1])) h' s.heap.objs.size (.tup [x1, y1]) := ⟨by show 2 ≤ sizeLine; decide, [v1, v2], .cons ru1 (.cons ru2 .nil), ⟨_, hT, rfl, _, rfl⟩⟩
    have I1 : L2.Inv X pins σ (L2.upd w.H s.heap.objs.size (.tup [x1, y1])) { s with heap := h', toks := tk } :=
      I.turnedNew (t' := tk) (ch := [z, P, O, i1, i2]) (fun c o hb q => kp c o (fun e => hb (by simp [e])) (fun e => hb (by simp [e])) (fun e => hb (by simp [e])) (fun e => hb (by simp [e])) q) (fun q hq => fp q (List.mem_cons_of_mem _ hq)) (Nat.le_refl _) new
    have hS' : h'.get? S = some { cls := .type "list", dict := none, data := .seq acc c, slots := #[] } := kp S _ (ni (by simp)) (ni (by simp)) (ni (by simp)) (ni (by simp)) hS
    have fp1 : ∀ q ∈ S :: [z, P, O, i1, i2], FpOk X pins w1.H q := fun q hq => by
      rw [eH]
      refine fpOk_upd (fp q hq) (Nat.ne_of_lt ?_)
      rcases List.mem_cons.mp hq with e | e
      · rw [e]; exact Slt
      · exact xlt q e
    rw [← eH] at I1
    have hg : GLe w.H w1.H := by
      rw [eH]
      exact upd_gle hp
    have x' : Zat ka kb a b z P O i1 i2 (i + 1) h' := ⟨⟨g0, g1, go', z'⟩, kp _ _ Sw.TIz Sw.TITO Sw.TIi1 Sw.TIi2 hP, ⟨b1, b2, O'⟩, s1'.1, s2'.1⟩
    have tl : ts.length = i := by
      rw [rt.length, List.length_map, List.length_take, List.length_zip]
      omega
    have al : acc.size = i := by
      have := vt.length
      rw [tl] at this
      simpa using this.symm
    show wpAny _ A.in1 (updateSeq S (·.push (.ref s.heap.objs.size)) >>= _) _ _ _
    refine wpAny_bind ?_
    refine wpAny_updateSeq hS' rfl (wpAny_pure ⟨plainId_quiet F.plain_extend_loop _, ih (i + 1) _ w1 xs ys (acc.push (.ref s.heap.objs.size)) _ (ts ++ [.ref s.heap.objs.size]) (by omega) (by omega)
      (I1.turnedL (t' := tk) (ch := [S]) (h' := h'.update S (Obj.mapSeq (·.push (.ref s.heap.objs.size)))) (fun c o hb q => (Heap.get?_update_other _ _ (fun e : S = c => hb (by simp [e]))).trans q) fun q hq => ?_) fp1 rs1 (hg.sq2 qx) (hg.sq2 qy) (rx.mono st1.g st1.f) (ry.mono st1.g st1.f)
      (x'.keep fun c hc o q => (Heap.get?_update_other _ _ (ni hc)).trans q) (Heap.get?_update_self _ hS' rfl) ?_ ?_ fun w' s' acc' c' ts' y1 y2 y3 y4 y5 y6 y7 y8 => go w' s' acc' c' ts' (st1.trans y1) y2 (hg.trans y3) y4 y5 y6 y7 y8⟩) (by rw [al]; omega) (by show (acc.push _).size ≤ sizeLine + 1; rw [Array.size_push, al]; omega)
    · rw [List.mem_singleton.mp hq]
      exact fp1 S (by simp)
    · rw [Array.toList_push]
      exact vt.append (.cons rfl .nil)
    · have e : (dx.zip dy).take (i + 1) = (dx.zip dy).take i ++ [(d1, d2)] := by
        have hz : (dx.zip dy)[i]? = some (d1, d2) := by
          rw [List.getElem?_zip_eq_some]
          exact ⟨hd1, hd2⟩
        rw [List.take_succ, hz]
        rfl
      rw [e, List.map_append]
      exact (rt.mono st1.g st1.f).append (.cons r3 .nil)
end
theorem nolen_zg : typeLookup (.type "zip") "__len__" = pure none := by rw [typeLookup_type, builtinLookup_eq_fast]; kernel_rfl
theorem nohint_zg : typeLookup (.type "zip") "__length_hint__" = pure none := by rw [typeLookup_type, builtinLookup_eq_fast]; kernel_rfl
section
variable {X : Cx} {pins : List (Addr × Obj)} {σ : L2.St} {st : Py.St} {A : Around} {s : Shared}
/-- list.__init__ over a zip -/
theorem init_zip (hh : A.in1.in1.handled = none) {ka kb : Bool} {a b z P O i1 i2 S : Addr} (Sw : ZipSep2 z P O i1 i2 [i1, a] [i2, b]) (na : a ≠ i1) (nb : b ≠ i2) (nS : S ∉ [z, P, O, i1, i2]) {dx dy : List Py.D} (hm : min dx.length dy.length ≤ sizeLine) {R : Result → Shared → Prop}
    {w : Wd} {xs ys : List V} (I : L2.Inv X pins σ w.H s) (fp : ∀ q ∈ S :: [z, P, O, i1, i2], FpOk X pins w.H q) (rs : RS T w σ st) (qx : Sq2 ka X.K w.H a xs) (qy : Sq2 kb X.K w.H b ys) (rx : Reps T w.G w.φ xs dx) (ry : Reps T w.G w.φ ys dy) (x : Zat ka kb a b z P O i1 i2 0 s.heap)
    (hS : s.heap.get? S = some { cls := .type "list", data := .seq #[] })
    (go : ∀ (w' : Wd) (s' : Shared) (acc' : Array Value) (c' : Nat) (ts' : List V), Stp w w' → RS T w' σ st → GLe w.H w'.H → L2.Inv X pins σ w'.H s' → FpOk X pins w'.H S → s'.heap.get? S = some { cls := .type "list", dict := none, data := .seq acc' c', slots := #[] } → Vals ts' acc'.toList →
        Reps T w'.G w'.φ ts' ((dx.zip dy).map pairD) → R (.ok (.ret .none)) s') :
    wpAny (model X.prog X.w) A.in1 (Builtin.«list.__init__» ⟨[.ref S, .ref z], []⟩)
      (fun fin s' => match fin with | .done f => R (.ok f) s' | .again k => k.quiet = true ∧ codeAny (model X.prog X.w) A k R s') (fun e s' => R (.error e) s') s := by
  have ni : ∀ {c}, c ∈ [z, P, O, i1, i2] → S ≠ c := fun h e => nS (by rw [e]; exact h)
  show wpAny _ A.in1 (do let old ← Builtin.List.listItems (.ref S); Builtin.List.listUpdate (.ref S) (fun _ => #[]); letGo old.toList.reverse; Builtin.List.listExtendWith (.ref S) (.ref z) .none) _ _ s
  refine wpAny_bind ?_
  unfold Builtin.List.listItems
  refine wpAny_bind (wpAny_seqItems hS rfl (wpAny_pure ?_))
  show wpAny _ A.in1 (updateSeq S (fun _ => #[]) >>= fun _ => letGo (#[] : Array Value).toList.reverse >>= fun _ => Builtin.List.listExtendWith (.ref S) (.ref z) .none) _ _ s
  refine wpAny_bind (wpAny_updateSeq hS rfl ?_)
  have hS1 := Heap.get?_update_self (Obj.mapSeq (fun _ => (#[] : Array Value))) hS rfl
  have u1 : ∀ c o, c ≠ S → s.heap.get? c = some o → (s.heap.update S (Obj.mapSeq (fun _ => (#[] : Array Value)))).get? c = some o := fun c o hc e => (Heap.get?_update_other _ _ (Ne.symm hc)).trans e
  refine wpAny_bind (wpAny_letGo ?_)
  have x1 : Zat ka kb a b z P O i1 i2 0 (s.heap.update S (Obj.mapSeq (fun _ => (#[] : Array Value)))) := x.keep fun c hc o e => u1 c o (ni hc).symm e
  obtain ⟨⟨f0, f1, fo, hz⟩, _⟩ := id x1
  have hTz : ({ s with heap := s.heap.update S (Obj.mapSeq (fun _ => (#[] : Array Value))) } : Shared).TypeIs (.ref z) "zip" := ⟨_, hz, rfl⟩
  unfold Builtin.List.listExtendWith
  refine wpAny_bind (wpAny_typeOf hTz ?_)
  have g1 : Builtin.List.listSameRef (.ref S) (.ref z) = false := by simp [Builtin.List.listSameRef, ni (c := z) (by simp)]
  have g2 : (Value.type "zip" == Value.type "list") = false := by decide
  have g3 : (Value.type "zip" == Value.type "tuple") = false := by decide
  simp only [g1, g2, g3, Bool.or_false, Bool.false_eq_true, if_false]
  refine wpAny_bind (zg_pyIter hz ?_)
  refine wpAny_bind (wpAny_holding ?_)
  unfold Builtin.List.listLengthHint
  refine wpAny_bind (wpAny_specialOf hTz nolen_zg ?_)
  show wpAny _ A.in1 (specialOf (Value.ref z) (Str.ofString "__length_hint__") >>= _) _ _ _
  refine wpAny_bind (wpAny_specialOf hTz nohint_zg ?_)
  refine wpAny_pure ?_
  show wpAny _ A.in1 (rule "list.extend.makes-room" >>= fun _ => Builtin.List.listTouch (.ref S) >>= fun _ => again (.builtin "list.extend.loop" ⟨[.ref S, .ref z, .none], []⟩)) _ _ _
  refine wpAny_bind (wpAny_rule ?_)
  refine wpAny_bind ?_
  show wpAny _ A.in1 (updateSeq S (·.push .none) >>= fun _ => updateSeq S (·.pop)) _ _ _
  refine wpAny_bind (wpAny_updateSeq hS1 rfl ?_)
  have hS2 := Heap.get?_update_self (Obj.mapSeq (·.push Value.none)) hS1 rfl
  refine wpAny_updateSeq (hz := by seq_fits) hS2 rfl ?_
  have hS3 := Heap.get?_update_self (Obj.mapSeq (·.pop)) hS2 rfl
  have u3 : ∀ c o, c ≠ S → s.heap.get? c = some o → (((s.heap.update S (Obj.mapSeq (fun _ => (#[] : Array Value)))).update S (Obj.mapSeq (·.push Value.none))).update S (Obj.mapSeq (·.pop))).get? c = some o :=
    fun c o hc e => (Heap.get?_update_other _ _ (Ne.symm hc)).trans ((Heap.get?_update_other _ _ (Ne.symm hc)).trans (u1 c o hc e))
  have I3 : L2.Inv X pins σ w.H { s with heap := ((s.heap.update S (Obj.mapSeq (fun _ => (#[] : Array Value)))).update S (Obj.mapSeq (·.push Value.none))).update S (Obj.mapSeq (·.pop)), toks := s.toks } :=
    I.turnedL (s := s) (t' := s.toks) (ch := [S]) (fun c o hc e => u3 c o (fun z => hc (by simp [z])) e) fun q hq => by rw [List.mem_singleton.mp hq]; exact fp S (by simp)
  refine wpAny_pure ⟨plainId_quiet F.plain_extend_loop _, loop_zip (A := A) hh Sw na nb nS hm _ 0 _ w xs ys _ _ [] rfl (Nat.zero_le _) I3 fp rs qx qy rx ry (x.keep fun c hc o e => u3 c o (ni hc).symm e) hS3 (by exact .nil) (by exact .nil) go⟩
/-- list(z), z a new zip -/
theorem call_list_zip {E : Value → Shared → Prop} {Q : VK} (hc : X.calm = true) {ka kb : Bool} {a b z P O i1 i2 : Addr} (Sw : ZipSep2 z P O i1 i2 [i1, a] [i2, b]) (na : a ≠ i1) (nb : b ≠ i2) {dx dy : List Py.D} (hm : min dx.length dy.length ≤ sizeLine)
    {w : Wd} {xs ys : List V} (I : L2.Inv X pins σ w.H s) (fp : ∀ q ∈ [z, P, O, i1, i2], FpOk X pins w.H q) (rs : RS T w σ st) (qx : Sq2 ka X.K w.H a xs) (qy : Sq2 kb X.K w.H b ys) (rx : Reps T w.G w.φ xs dx) (ry : Reps T w.G w.φ ys dy) (x : Zat ka kb a b z P O i1 i2 0 s.heap)
    (q : ∀ (w' : Wd) (p : Addr), Stp w w' → RS T w' σ st → GLe w.H w'.H → Res T w w' (.ref p) (.lst (((dx.zip dy).map pairD).map .d)) → Q (.ref p) w'.H) :
    wpAny (model X.prog X.w) X.A (call (.type "list") [.ref z]) (EP X pins σ Q) E s := by
  have nS : s.heap.objs.size ∉ [z, P, O, i1, i2] := fun h => Nat.lt_irrefl _ (x.lt _ h)
  have kp : ∀ c o, s.heap.get? c = some o → (s.heap.push { cls := .type "list", data := .seq #[] }).get? c = some o := fun c o e => Heap.get?_push_of_some _ e
  have hf : w.H s.heap.objs.size = none := I.hok.fresh (Nat.le_refl _)
  have fS : FpOk X pins w.H s.heap.objs.size := I.fpOk (Nat.le_refl _) hf
  have hh : X.A.in1.in1.in1.handled = none := I.ok.hd hc
  refine callType_codes (Q₁ := fun obj s₁ => obj = .ref s.heap.objs.size ∧ s₁ = { s with heap := s.heap.push { cls := .type "list", data := .seq #[] } }) F.called_list (F.typeCall_list_1 _) F.entry_list_init (code_list_new _ ⟨rfl, rfl⟩) fun obj s1 h1 => ?_
  obtain ⟨rfl, rfl⟩ := h1
  have hS : (s.heap.push { cls := .type "list", data := .seq #[] }).get? s.heap.objs.size = some { cls := .type "list", data := .seq #[] } := Heap.get?_push_size _ rfl
  refine ⟨⟨_, hS, rfl⟩, F.args_list_init_2 _ _, init_zip (A := X.A.in1) hh Sw na nb nS hm (I.kept (t' := s.toks) kp) (fun q' hq => ?_) rs qx qy rx ry (x.keep fun c _ o e => kp c o e) hS fun w' s' acc c ts y1 y2 y3 y4 y5 y6 y7 y8 => ⟨rfl, ?_⟩⟩
  · rcases List.mem_cons.mp hq with e | e
    · rw [e]; exact fS
    · exact fp q' e
  · obtain ⟨f1, f2, f3, f4, f5, f6⟩ := y5
    have n0 : X.s_0.heap.get? s.heap.objs.size = none := by
      cases e : X.s_0.heap.get? s.heap.objs.size with
      | none => rfl
      | some o => exact absurd (Nat.lt_of_lt_of_le (Heap.lt_size e) I.sz) (Nat.lt_irrefl _)
    have le : ts.length ≤ sizeLine := by
      rw [y8.length, List.length_map, List.length_zip]
      exact hm
    have J := inv_track (o := .lst ts) y4 n0 f1 f2 f5 f6 (show ObjOk X.prog X.w _ _ _ (.lst ts) from ⟨le, acc.toList, c, y7, by rw [Array.toArray_toList]; exact y6⟩)
    obtain ⟨b1, b2⟩ := y2.alloc f1 (.lst ts)
    exact ⟨.ref s.heap.objs.size, _, J, rfl, q { w' with H := L2.upd w'.H s.heap.objs.size (.lst ts) } _ (y1.trans b1) b2 (y3.trans (upd_gle f1)) ((y2.newL f1 y8).from y1)⟩
end
end PyS
end

section
set_option Elab.async false
set_option linter.all false
set_option maxRecDepth 100000
set_option maxHeartbeats 4000000
/-! X6: sorted, list(zip(..)), list(range(..)) in the interpreter. -/
namespace PyS
open PySem PySem.Spec PyProof.Rows L2
variable {T : Tb}
section
variable {prog : Program} {w : World} {A : Around} {E : Value → Shared → Prop} {s : Shared}
/-- what is collected of a tuple -/
theorem collect_tp {l : Addr} {us : List Value} {Q : List Value → Shared → Prop} (ht : s.heap.IsTuple l us.toArray) (h : Q us { s with heap := (s.heap.push (seqObj "list" #[] 0)).update s.heap.objs.size (Obj.mapSeq (· ++ us.toArray)) }) (hz : us.length ≤ sizeLine) :
    wpAny (model prog w) A (collect (.ref l)) Q E s := by
  obtain ⟨ob, hob, hcls, n, hdat⟩ := id ht
  unfold collect
  refine wpAny_bind (wpAny_runValue (codeAny_builtin entry_proto_collect' ?_))
  show wpAny _ _ (do again (.builtin "list.__iadd__" ⟨[← newList [], .ref l], []⟩)) _ _ s
  refine wpAny_bind (wpAny_newList (wpAny_pure ⟨Code.quiet_builtin _ (by decide +kernel), codeAny_builtin entry_list_iadd' ?_⟩))
  show wpAny _ _ (Builtin.List.listExtendWith (.ref s.heap.objs.size) (.ref l) (.ref s.heap.objs.size)) _ _ { s with heap := s.heap.push (seqObj "list" #[] 0) }
  unfold Builtin.List.listExtendWith
  have hob1 : (s.heap.push (seqObj "list" #[] 0)).get? l = some ob := Heap.get?_push_of_some _ hob
  refine wpAny_bind (wpAny_typeOf (T := "tuple") ⟨ob, hob1, hcls⟩ ?_)
  have yes : (Value.type "tuple" == Value.type "tuple") = true := by rfl
  rw [if_pos (by rw [yes]; simp)]
  refine wpAny_bind (listItems_at hob1 hdat ?_)
  refine wpAny_bind (listItems_at (xs := #[]) (n := 0) (Heap.get?_push_size _ rfl) rfl ?_)
  rw [if_neg (by simp)]
  refine wpAny_bind (listUpdate_at (xs := #[]) (n := 0) (Heap.get?_push_size _ rfl) rfl ?_ (Nat.zero_le _) (by show (#[] ++ us.toArray).size ≤ sizeLine + 1; simp only [Array.size_append, List.size_toArray, List.length_nil]; omega))
  refine wpAny_pure ?_
  show wpAny (model prog w) A (do
      let ob ← load s.heap.objs.size
      match ob.data with
      | .seq us _ => pure us.toList
      | _ => unsupported "internal:collect") Q E { s with heap := (s.heap.push (seqObj "list" #[] 0)).update s.heap.objs.size (Obj.mapSeq (· ++ us.toArray)) }
  refine wpAny_bind (wpAny_load (get?_update_seq (Heap.get?_push_size _ rfl) _) ?_)
  show wpAny _ _ (pure ((#[] : Array Value) ++ us.toArray).toList) Q E _
  rw [show ((#[] : Array Value) ++ us.toArray).toList = us by simp]
  exact wpAny_pure h
theorem sorted_tp {l : Addr} {us : List Value} {lt : Value → Value → Bool} {Q : Value → Shared → Prop} (O : SrtO.Swo lt) (ht : s.heap.IsTuple l us.toArray) (hz : us.length ≤ sizeLine)
    (hS : 2 ≤ us.length → ∀ (h1 : Heap) (a : Addr), h1.get? a = some (seqObj "list" us.toArray 0) → (∀ b o, s.heap.get? b = some o → b ≠ a ∧ h1.get? b = some o) → SrtO.SortableO prog w A.in1.in1 { s with heap := h1 } a us lt)
    (h : ∀ out : List Value, SrtO.Srtd lt out → SrtO.Stb lt out us → Q (.ref (s.heap.objs.size + 1)) { s with heap := sortedAll s.heap us out.toArray }) :
    wpAny (model prog w) A (call (.builtin "sorted") [.ref l]) Q E s := by
  refine Calls.call_function_entry kind_sorted plain_sorted entry_sorted (args_sorted1 _) ?_
  unfold Builtin.«sorted»
  refine wpAny_bind (m := checkCount "sorted" 1 1 _) (wpAny_pure ?_)
  refine wpAny_bind (collect_tp ht ?_ hz)
  refine wpAny_bind (wpAny_newList ?_ hz)
  have hsz : ((s.heap.push (seqObj "list" #[] 0)).update s.heap.objs.size (Obj.mapSeq (· ++ us.toArray))).objs.size = s.heap.objs.size + 1 := by rw [Heap.size_update, size_push']
  have hoL : (((s.heap.push (seqObj "list" #[] 0)).update s.heap.objs.size (Obj.mapSeq (· ++ us.toArray))).push (seqObj "list" us.toArray 0)).get? (s.heap.objs.size + 1) = some (seqObj "list" us.toArray 0) := by rw [← hsz]; exact Heap.get?_push_size _ rfl
  have keep : ∀ b o, s.heap.get? b = some o → b ≠ s.heap.objs.size + 1 ∧ (((s.heap.push (seqObj "list" #[] 0)).update s.heap.objs.size (Obj.mapSeq (· ++ us.toArray))).push (seqObj "list" us.toArray 0)).get? b = some o := fun b o q => by
    have lt' : b < s.heap.objs.size := Heap.lt_size q
    refine ⟨Nat.ne_of_lt (Nat.lt_succ_of_lt lt'), Heap.get?_push_of_some _ ?_⟩
    rw [Heap.get?_update_ne _ _ _ _ (Nat.ne_of_lt lt')]
    exact Heap.get?_push_of_some _ q
  show wpAny _ _ _ _ _ { s with heap := ((s.heap.push (seqObj "list" #[] 0)).update s.heap.objs.size (Obj.mapSeq (· ++ us.toArray))).push (seqObj "list" us.toArray 0) }
  rw [hsz]
  refine wpAny_bind (wpAny_holding (wpAny_call_entry slot_list_sort ⟨_, hoL, rfl⟩ entry_list_sort (SrtO.list_sort_ord O hoL hz (fun h2 => hS h2 _ _ hoL keep) fun out hs hb => ⟨_, rfl, ?_⟩) (args_list_sort _)))
  exact wpAny_pure ⟨_, rfl, h out hs hb⟩
end
theorem reps_intsD {G : Hp} {φ : List Addr} : ∀ ns : List Int, Reps T G φ (ns.map V.int) (ns.map Py.D.int)
  | [] => .nil
  | n :: ns => .cons (.int n) (reps_intsD ns)
theorem reps_rg {G : Hp} {φ : List Addr} (a b : Int) : Reps T G φ (rgV a b) (Py.rangeL a b) := by
  have e1 : rgV a b = ((List.range (b - a).toNat).map fun k : Nat => a + (k : Int)).map V.int := by
    unfold rgV
    rw [List.map_map]
    rfl
  have e2 : Py.rangeL a b = ((List.range (b - a).toNat).map fun k : Nat => a + (k : Int)).map Py.D.int := by
    unfold Py.rangeL
    rw [List.map_map]
    rfl
  rw [e1, e2]
  exact reps_intsD _
/-- sorted(x), x a list or a tuple of numbers -/
def rSortedA (K : PySem.W.Frag) : CR1 := fun vs H Q => ∃ (a : Addr) (ns : List Int), vs = [V.ref a] ∧ (SqL K H a (ns.map V.int) ∨ SqT K H a (ns.map V.int)) ∧ ∀ (ms : List Int) (p : Addr), ms.Perm ns → ms.Pairwise (· ≤ ·) → H p = none → Q (.ref p) (L2.upd H p (.lst (ms.map V.int)))
theorem cb_sorted {X : Cx} : CallR X (.builtin "sorted") (rSortedA X.K) := by
  intro pins s σ H vs us Q I r h
  obtain ⟨a, ns, rfl, hs, q⟩ := h
  rcases hs with hs | hs
  · exact cr_sortedI pins s σ H _ us Q I r ⟨a, ns, rfl, hs, q⟩
  · obtain ⟨its, rv, ht, hz⟩ := I.tuple hs
    rw [Vals.ref1 r]
    have hi := rv.ints
    have hlz : its.length ≤ sizeLine := by
      rw [← rv.length]
      exact hz
    refine sorted_tp SrtO.swo_int ht hlz (fun h2 h1 b _ _ => SrtO.ints_sortable hi h2) fun out h1 h2 => ?_
    obtain ⟨k1, k2, k3⟩ := SrtO.ints_out hi h1 h2
    obtain ⟨ep, ho⟩ := PyProof.Rows.sortedAll_at s.heap its out.toArray
    have le : ((out.map SrtO.iv).map V.int).length ≤ sizeLine := by
      rw [List.length_map, k2.length_eq]
      rw [List.length_map] at hz
      exact hz
    exact ⟨.ref _, L2.upd H (s.heap.objs.size + 1) (.lst ((out.map SrtO.iv).map V.int)), I.laid (t' := s.toks) (fun _ _ => PyProof.Rows.sortedAll_old) (Nat.le_succ _) ⟨le, out, ep, vals_of_ints k1, ho⟩, rfl, q _ _ k2 k3 (I.hok.fresh (Nat.le_succ _))⟩
theorem insort_perm (x : Int) : ∀ l : List Int, (Py.insort x l).Perm (x :: l)
  | [] => .refl _
  | y :: r => by
    rw [Py.insort]
    split
    · exact .refl _
    · exact (List.Perm.cons y (insort_perm x r)).trans (List.Perm.swap x y r)
theorem isort_perm : ∀ l : List Int, (Py.isort l).Perm l
  | [] => .refl _
  | x :: r => by
    rw [Py.isort]
    exact (insort_perm x _).trans (List.Perm.cons x (isort_perm r))
theorem insort_ord (x : Int) : ∀ {l : List Int}, l.Pairwise (· ≤ ·) → (Py.insort x l).Pairwise (· ≤ ·)
  | [], _ => by simp [Py.insort]
  | y :: r, h => by
    rw [Py.insort]
    rw [List.pairwise_cons] at h
    split
    · rename_i q
      rw [List.pairwise_cons, List.pairwise_cons]
      exact ⟨fun z hz => by rcases List.mem_cons.mp hz with e | e; · omega
                            · have := h.1 z e; omega, h⟩
    · rename_i q
      rw [List.pairwise_cons]
      refine ⟨fun z hz => ?_, insort_ord x h.2⟩
      have := (insort_perm x r).mem_iff.mp hz
      rcases List.mem_cons.mp this with e | e
      · omega
      · exact h.1 z e
theorem isort_ord : ∀ l : List Int, (Py.isort l).Pairwise (· ≤ ·)
  | [] => by simp [Py.isort]
  | x :: r => by
    rw [Py.isort]
    exact insort_ord x (isort_ord r)
theorem sorted_one {l m : List Int} (p : l.Perm m) (hl : l.Pairwise (· ≤ ·)) (hm : m.Pairwise (· ≤ ·)) : l = m := by
  refine List.Perm.eq_of_pairwise (le := (· ≤ ·)) (fun a b _ _ h1 h2 => ?_) hl hm p
  omega
theorem bs_sorted : BiSim T .sorted (rSortedA T.K) := by
  intro ds z e w σ s vs rs h Q q
  have fin : ∀ (ns ms : List Int) (p : Addr), z = .lst ((Py.isort ns).map fun i => .d (.int i)) → ms.Perm ns → ms.Pairwise (· ≤ ·) → w.H p = none → Q (.ref p) (L2.upd w.H p (.lst (ms.map V.int))) := fun ns ms p ez h1 h2 hp => by
    have e := sorted_one (h1.trans (isort_perm ns).symm) h2 (isort_ord ns)
    obtain ⟨a1, a2⟩ := rs.alloc hp (.lst (ms.map V.int))
    refine q (.ref p) _ a1 a2 (upd_gle hp) ?_
    have r : Reps T w.G w.φ (ms.map V.int) (ms.map Py.D.int) := reps_intsD ms
    have := rs.newL hp r
    rw [ez, ← e]
    rw [List.map_map] at this
    exact this
  match ds, e with
  | [.lst l], e =>
    simp only [Py.bi] at e
    cases e2 : Py.intsD l with
    | none => rw [e2] at e; cases e
    | some ns =>
      rw [e2, Option.bind_some] at e
      split at e
      · simp only [Option.some.injEq] at e
        obtain ⟨v, rfl, hv⟩ := h.one
        obtain ⟨a, xs, rfl, h1, r1⟩ := hv.lst' rs.toLabOk
        rw [r1.intsD e2] at h1
        exact ⟨a, ns, rfl, .inl (SqL.of h1), fun ms p h1 h2 hp => fin ns ms p e.symm h1 h2 hp⟩
      · cases e
  | [.tup l], e =>
    simp only [Py.bi] at e
    cases e2 : Py.intsD l with
    | none => rw [e2] at e; cases e
    | some ns =>
      rw [e2, Option.bind_some] at e
      split at e
      · simp only [Option.some.injEq] at e
        obtain ⟨v, rfl, hv⟩ := h.one
        obtain ⟨a, xs, rfl, h1, r1⟩ := hv.tup' rs.toLabOk
        rw [r1.intsD e2] at h1
        exact ⟨a, ns, rfl, .inr (SqT.of h1), fun ms p h1 h2 hp => fin ns ms p e.symm h1 h2 hp⟩
      · cases e
section
variable {c : Py.Cx} {X : Cx}
/-- a new zip of what stands for dx and dy -/
def ZipV (T : Tb) (X : Cx) (pins : List (Addr × Obj)) (σ : L2.St) (w : Wd) (st : Py.St) (qt : Prop) (dx dy : List Py.D) (v : Value) (s : Shared) : Prop :=
  ∃ (w1 : Wd) (ka kb : Bool) (a b z P O i1 i2 : Addr) (xs ys : List V), v = .ref z ∧ Stp w w1 ∧ (qt → GLe w.H w1.H) ∧ RS T w1 σ st ∧ L2.Inv X pins σ w1.H s ∧ (∀ q ∈ [z, P, O, i1, i2], FpOk X pins w1.H q) ∧
    ZipSep2 z P O i1 i2 [i1, a] [i2, b] ∧ a ≠ i1 ∧ b ≠ i2 ∧ Sq2 ka X.K w1.H a xs ∧ Sq2 kb X.K w1.H b ys ∧ Reps T w1.G w1.φ xs dx ∧ Reps T w1.G w1.φ ys dy ∧ Zat ka kb a b z P O i1 i2 0 s.heap
theorem sim_listZip (hK : T.K = X.K) (hc : X.calm = true) {e e2 : Expr} {E E2 : Py.E} {p p2 pos pos2 : Pos} (hg : Gl X "list") (hm : X.mg "list" = none) (hg2 : Gl X "zip") (hm2 : X.mg "zip" = none) (n : notStar e = true) (n2 : notStar e2 = true) (n' : isStarE E = false) (n2' : isStarE E2 = false) (hs : SimEs T c X [e, e2] [E, E2]) :
    SimE T c X (.Call (.Name "list" p) [.Call (.Name "zip" p2) [e, e2] [] pos2] [] pos) (.bit .list .zip [E, E2]) := by
  intro m w σ s o s' rs ev Q q
  simp only [Py.ev] at ev
  split at ev
  · rename_i ds s1 e1
    have hl := evs_len (Es := [E, E2]) (by simp [n', n2']) e1
    match ds, hl, ev, e1 with
    | [d, d2], _, ev, e1 =>
      simp only [Py.itk] at ev
      cases hd : Py.seqOf d with
      | none => rw [hd] at ev; cases ev
      | some l =>
        cases hd2 : Py.seqOf d2 with
        | none => rw [hd, hd2] at ev; cases ev
        | some l2 =>
          rw [hd, hd2] at ev
          simp only [Option.bind_some, Option.map_some, Py.bit] at ev
          split at ev
          · rename_i hz
            simp only [Option.map_some, Option.some.injEq, Prod.mk.injEq] at ev
            obtain ⟨rfl, rfl⟩ := ev
            intro pins sh I
            refine Call_ (ld_blt I hg hm boot_list (PyProof.Rows.callWith_type1 (args_cons (thn (Q := ZipV T X pins σ w s1 (Py.E.quiet.go [E, E2] = true) l l2) ?_ fun v s2 hv => args_nil ?_) (by rfl)) (by rfl)))
            · refine Call_ (ld_blt I hg2 hm2 PyProof.Rows.boot_zip (PyProof.Rows.callWith_type1 (thn (hs w σ s [d, d2] s1 rs e1 (fun vs H' => ∃ w1 : Wd, H' = w1.H ∧ Stp w w1 ∧ (Py.E.quiet.go [E, E2] = true → GLe w.H w1.H) ∧ RS T w1 σ s1 ∧ Reps T w1.G w1.φ vs [d, d2]) (fun vs w1 st1 rs1 q1 r1 => ⟨w1, rfl, st1, q1, rs1, r1⟩) pos2 pins sh I) fun us s2 hu => ?_) (starEach_not n [e2] X.env) (by rw [starEach_not n2]; rfl)))
              obtain ⟨vs, H1, I1, r1, w1, rfl, st1, q1, rs1, rr⟩ := hu
              cases rr with
              | cons ra rr =>
                cases rr with
                | cons rb rr =>
                  cases rr
                  obtain ⟨a, ka, xs, rfl, hq, hr⟩ := ra.seq hd
                  obtain ⟨b, kb, ys, rfl, hq2, hr2⟩ := rb.seq hd2
                  have qx := Sq2.now hq (Lat.refl _) rs1.toLabOk
                  have qy := Sq2.now hq2 (Lat.refl _) rs1.toLabOk
                  rw [hK] at qx qy
                  cases r1 with
                  | cons t1 r1 =>
                    cases r1 with
                    | cons t2 r1 =>
                      cases r1
                      cases t1
                      cases t2
                      have fresh5 : ∀ c, c ∈ [s2.heap.objs.size + 4, s2.heap.objs.size + 2, s2.heap.objs.size + 3, s2.heap.objs.size, s2.heap.objs.size + 1] → FpOk X pins w1.H c := fun c hcm => by
                        have ec : c = s2.heap.objs.size + 4 ∨ c = s2.heap.objs.size + 2 ∨ c = s2.heap.objs.size + 3 ∨ c = s2.heap.objs.size ∨ c = s2.heap.objs.size + 1 := by simpa using hcm
                        have hle : s2.heap.objs.size ≤ c := by
                          rcases ec with z | z | z | z | z
                          · rw [z]; exact Nat.le_add_right _ _
                          · rw [z]; exact Nat.le_add_right _ _
                          · rw [z]; exact Nat.le_add_right _ _
                          · rw [z]; exact Nat.le_refl _
                          · rw [z]; exact Nat.le_add_right _ _
                        exact I1.fpOk hle (I1.hok.fresh hle)
                      obtain ⟨its, rv, pa, la⟩ := Inv.sq2 I1 qx
                      obtain ⟨its2, rv2, pb, lb⟩ := Inv.sq2 I1 qy
                      refine zip_begins2 (begins2 ka a its.toArray) (begins2 kb b its2.toArray) pa pb fun h' hz' hTI hTO k1 k2 hsz hk => ?_
                      refine ⟨w1, ka, kb, a, b, _, _, _, _, _, xs, ys, rfl, st1, q1, rs1, I1.kept (t' := s2.toks) hk, fresh5, zip_sep2 (fp1 := [a]) (fp2 := [b]) (fun c hc' => ?_) (fun c hc' => ?_), Nat.ne_of_lt la, Nat.ne_of_lt (Nat.lt_succ_of_lt lb), qx, qy, hr, hr2, ⟨⟨.none, false, .inl rfl, hz'⟩, hTI, ⟨_, _, hTO⟩, It2.new k1, It2.new k2⟩⟩
                      · rw [List.mem_singleton.mp hc']; exact la
                      · rw [List.mem_singleton.mp hc']; exact lb
            · obtain ⟨w1, ka, kb, a, b, z, P, O, i1, i2, xs, ys, rfl, st1, q1, rs1, I1, fp, Sw, na, nb, qx, qy, rx, ry, x⟩ := hv
              refine call_list_zip hc Sw na nb ?_ I1 fp rs1 qx qy rx ry x fun w' p st' rs' g' r' => q (.ref p) w' (st1.trans st') rs' (fun qq => (q1 (by simpa only [Py.E.quiet] using qq)).trans g') (PO.of (r'.from st1))
              have := lenOk_le hz
              rw [List.length_map, List.length_zip] at this
              exact this
          · cases ev
  · cases ev
theorem sim_listRange (hc : X.calm = true) {e : Expr} {E : Py.E} {p p2 pos pos2 : Pos} (hg : Gl X "list") (hm : X.mg "list" = none) (hg2 : Gl X "range") (hm2 : X.mg "range" = none) (n : notStar e = true) (n' : isStarE E = false) (h : SimE T c X e E) :
    SimE T c X (.Call (.Name "list" p) [.Call (.Name "range" p2) [e] [] pos2] [] pos) (.bit .list .range [E]) := by
  intro m w σ s o s' rs ev Q q
  simp only [Py.ev] at ev
  rw [evs_cons n'] at ev
  split at ev
  · rename_i ds s1 e1
    split at e1
    · rename_i o1 s2 e2
      simp only [Py.evs, Option.some.injEq, Prod.mk.injEq] at e1
      obtain ⟨rfl, rfl⟩ := e1
      cases hi : Py.itk .range [o1.toD] with
      | none => rw [hi] at ev; cases ev
      | some l =>
        rw [hi] at ev
        obtain ⟨j, ej, b1, b2, rfl⟩ := itk_range1 hi
        simp only [Py.bit] at ev
        split at ev
        · rename_i hz
          simp only [Option.map_some, Option.some.injEq, Prod.mk.injEq] at ev
          obtain ⟨rfl, rfl⟩ := ev
          refine WE.of (pe_listRg hc hg hm (prg_1 hg2 hm2 pe_self (starEach_not n [] X.env))) ?_
          refine h false w σ s o1 s2 rs e2 _ fun v w1 st1 rs1 q1 p1 => ?_
          have eo : o1 = .d (.int j) := by
            cases o1 with
            | d x => rw [Py.O.toD] at ej; rw [ej]
            | lst _ => rw [Py.O.toD] at ej; cases ej
            | dic _ => rw [Py.O.toD] at ej; cases ej
            | ins _ _ => rw [Py.O.toD] at ej; cases ej
            | tab _ => rw [Py.O.toD] at ej; cases ej
          subst eo
          have rv := p1.rep
          cases rv
          have hl : (j - 0).toNat ≤ 2 ^ 24 := by
            have := lenOk_le hz
            rw [sizeLine_eq] at this
            unfold Py.rangeL at this
            rw [List.length_map, List.length_range] at this
            omega
          refine ⟨j, rfl, ⟨by omega, by omega, b1, b2, hl⟩, fun q' hq' => ?_⟩
          obtain ⟨a1, a2⟩ := rs1.alloc hq' (.lst (rgV 0 j))
          refine q (.ref q') _ (st1.trans a1) a2 (fun qq => (q1 (quiet_go_cons (by simpa only [Py.E.quiet] using qq)).1).trans (upd_gle hq')) (PO.of ((rs1.newL hq' (ds := Py.rangeL 0 j) ?_).from st1))
          exact reps_rg 0 j
        · cases ev
    · cases e1
  · cases ev
end
end PyS
end

section
set_option Elab.async false
set_option linter.all false
set_option maxRecDepth 100000
set_option maxHeartbeats 4000000
/-! ZF: a text checked against a def's code. -/
namespace PyS
open PySem L2
/-- a block: its scope, the names that are its own, the slots -/
structure Ct where
  sc : Scope
  fq : Str → Bool
  N : List Str
  /-- its table's cell, the def whose it is -/
  tb : Option (Nat × Nat)
section
variable (G : Gx) (ct : Ct)
def globC (y : Str) : Bool := decide (ct.sc.names.lookup y = some .globalImplicit) && !(y == ("__debug__" : Str))
def conC (d : Py.D) (x : Expr) : Bool := match x with
  | .Constant v _ _ => (match d, v with
    | .int i, .int j => decide (i = j)
    | .str s, .str z => decide (z = ⟨s.toArray⟩)
    | .bl a, .bool b => decide (a = b)
    | .non, .none => true
    | _, _ => false)
  | .Name y _ => globC ct y && (match d with
    | .cls q => decide ((y, q) ∈ G.cls) || decide ((y, q) ∈ G.xcs)
    | .fn f => decide ((y, f) ∈ G.fns)
    | .int i => decide ((y, i) ∈ G.nums)
    | .ty n => (decide (n = "int") && decide (y = "int")) || (decide (n = "bool") && decide (y = "bool")) || (decide (n = "str") && decide (y = "str")) || (decide (n = "list") && decide (y = "list")) || (decide (n = "tuple") && decide (y = "tuple")) || (decide (n = "dict") && decide (y = "dict"))
    | _ => false)
  | _ => false
def bopC : Py.Bop → Operator → Bool
  | .add, .Add | .sub, .Sub | .mul, .Mult | .fdiv, .FloorDiv | .mod, .Mod | .pow, .Pow => true
  | _, _ => false
def copC : Py.Cop → CmpOp → Bool
  | .eq, .Eq | .ne, .NotEq | .lt, .Lt | .le, .LtE | .gt, .Gt | .ge, .GtE | .isin, .In | .notin, .NotIn | .is, .Is | .isnot, .IsNot => true
  | _, _ => false
def biC (b : Py.Bi) (y : Str) : Bool := match b with
  | .len => decide (y = "len")
  | .abs => decide (y = "abs")
  | .int => decide (y = "int")
  | .list => decide (y = "list")
  | .tuple => decide (y = "tuple")
  | .sum => decide (y = "sum")
  | .all => decide (y = "all")
  | .any => decide (y = "any")
  | .min => decide (y = "min")
  | .max => decide (y = "max")
  | .isinst => decide (y = "isinstance")
  | .sorted => decide (y = "sorted")
  | _ => false
def notCall : Expr → Bool
  | .Call _ _ _ _ => false
  | _ => true
/-- arguments, stars among them -/
def starM (f : Py.E → Expr → Bool) (e : Py.E) (x : Expr) : Bool := match x with
  | .Starred y _ => (match e with
    | .star e' => f e' y
    | _ => false)
  | x => !isStarE e && f e x
def argC (f : Py.E → Expr → Bool) : List Py.E → List Expr → Bool
  | [], [] => true
  | e :: es, x :: xs => starM f e x && argC f es xs
  | _, _ => false
/-- arguments without stars -/
def all2 (f : Py.E → Expr → Bool) : List Py.E → List Expr → Bool
  | [], [] => true
  | e :: es, x :: xs => notStar x && !isStarE e && f e x && all2 f es xs
  | _, _ => false
def kvC (f : Py.E → Expr → Bool) : List Py.E → List (Option Expr) → List Expr → Bool
  | [], [], [] => true
  | k :: v :: r, some a :: ks, b :: vs => f k a && f v b && kvC f r ks vs
  | _, _, _ => false
def kwC (f : Py.E → Expr → Bool) : List Py.E → List Keyword → Bool
  | [], [] => true
  | e :: es, k :: ks => !isStarE e && f e k.value && kwC f es ks
  | _, _ => false
def optC (f : Py.E → Expr → Bool) : Option Py.E → Option Expr → Bool
  | none, none => true
  | some e, some x => f e x
  | _, _ => false
/-- the names of a target with their places -/
def ownOf : Py.Tg → Expr → List (Str × Nat)
  | .nm i, .Name x _ => [(x, i)]
  | .tup l, .Tuple es _ _ => go l es
  | _, _ => []
where go : List Py.Tg → List Expr → List (Str × Nat)
  | t :: ts, e :: es => ownOf t e ++ go ts es
  | _, _ => []
def itC (f : Py.E → Expr → Bool) (k : Option Py.Itk) (es : List Py.E) (tg iter : Expr) : Bool := match k with
  | none => (match es with
    | [e] => !isStarE e && f e iter
    | _ => false)
  | some .range => (match iter with
    | .Call (.Name y _) xs [] _ => decide (y = "range") && globC ct y && all2 f es xs && (decide (xs.length = 1) || decide (xs.length = 2))
    | _ => false)
  | some .enum => (match iter with
    | .Call (.Name y _) xs [] _ => decide (y = "enumerate") && globC ct y && all2 f es xs && decide (xs.length = 1) && (match tg with | .Tuple _ _ _ => true | _ => false)
    | _ => false)
  | some .zip => (match iter with
    | .Call (.Name y _) xs [] _ => decide (y = "zip") && globC ct y && all2 f es xs && decide (xs.length = 2)
    | _ => false)
  | _ => false
def tsC (f : Py.E → Expr → Bool) : List Py.E → List Expr → Bool
  | [], [] => true
  | [e], [x] => f e x
  | _, _ => false
/-- the block of a comprehension -/
def Ct.blk (scope : Scope) : Ct := ⟨relS scope ct.sc, fun x => scope.names.lookup x == some .cell, ct.N, ct.tb⟩
/-- .. of a lambda -/
def Ct.lam (sc : Scope) : Ct := ⟨sc, fun _ => false, ct.N, none⟩
/-- no parameters -/
def noAr (ar : Arguments) : Bool := match ar with
  | ⟨[], [], none, [], [], none, []⟩ => true
  | _ => false
def popC (f : Py.E → Expr → Bool) (p : Py.E) (es : List Py.E) (x : Expr) : Bool := match x with
  | .Call (.Attribute q m ap) xs [] cp => decide (m = "pop") && (ap.endLine == cp.line) && (match p with
    | .var i => (match q with
      | .Name y _ => visC ct.sc ct.N y i && (match es, xs with
        | [], [] => true
        | [e], [a] => (match e, a with
          | .con (.int n), .Constant (.int k) _ _ => decide (n = k)
          | e, a => !Py.E.isCon e && !isStarE e && notStar a && f e a)
        | _, _ => false)
      | _ => false)
    | .idx (.var i) (.con d) => (match q with
      | .Subscript (.Name y _) (.Constant v j kp) _ => visC ct.sc ct.N y i && conC G ct d (.Constant v j kp) && (match es, xs with
        | [], [] => true
        | [.con (.int n)], [.Constant (.int k) _ _] => decide (n = k)
        | _, _ => false)
      | _ => false)
    | _ => false)
  | _ => false
end
def ckE (G : Gx) : Nat → Ct → Py.E → Expr → Bool
  | 0, _, _, _ => false
  | n + 1, ct, e, x => match e with
    | .var i => (match x with | .Name y _ => visC ct.sc ct.N y i | _ => false)
    | .mv i => (match x with | .Name y _ => visC ct.sc ct.N y i | _ => false)
    | .keep e => ckE G n ct e x
    | .con d => conC G ct d x
    | .tup es => (match x with | .Tuple xs _ _ => argC (ckE G n ct) es xs | _ => false)
    | .lst es => (match x with | .List xs _ => argC (ckE G n ct) es xs | _ => false)
    | .dict kvs => (match x with | .Dict ks vs _ => decide (ks.length ≤ 15) && kvC (ckE G n ct) kvs ks vs | _ => false)
    | .bin op a b => (match x with | .BinOp l p r _ => bopC op p && ckE G n ct a l && ckE G n ct b r | _ => false)
    | .neg a => (match x with | .UnaryOp .USub y _ => ckE G n ct a y | _ => false)
    | .not a => (match x with | .UnaryOp .Not y _ => ckE G n ct a y | _ => false)
    | .and a b => (match x with
      | .BoolOp .And [y, z] _ => ckE G n ct a y && ckE G n ct b z
      | .BoolOp .And (y :: z :: u :: r) p => ckE G n ct a y && ckE G n ct b (.BoolOp .And (z :: u :: r) p)
      | _ => false)
    | .or a b => (match x with
      | .BoolOp .Or [y, z] _ => ckE G n ct a y && ckE G n ct b z
      | .BoolOp .Or (y :: z :: u :: r) p => ckE G n ct a y && ckE G n ct b (.BoolOp .Or (z :: u :: r) p)
      | _ => false)
    | .cmp op a b => (match x with | .Compare l [p] [r] _ => copC op p && notSet r && ckE G n ct a l && ckE G n ct b r | _ => false)
    | .chain op op' a b d => (match x with | .Compare l [p, p'] [r, t] _ => copC op p && copC op' p' && notSet t && ckE G n ct a l && ckE G n ct b r && ckE G n ct d t | _ => false)
    | .ife t a b => (match x with | .IfExp y z u _ => ckE G n ct t y && ckE G n ct a z && ckE G n ct b u | _ => false)
    | .idx a i => (match x with | .Subscript y z _ => notSlice z && ckE G n ct a y && ckE G n ct i z | _ => false)
    | .slc a lo hi => (match x with | .Subscript y (.Slice l h none _) _ => ckE G n ct a y && optC (ckE G n ct) lo l && optC (ckE G n ct) hi h | _ => false)
    | .attr a f => (match x with | .Attribute y m _ => decide (m = G.nm f) && decide (f < G.na) && notCall y && ckE G n ct a y | _ => false)
    | .call f es => (match x with | .Call (.Name y _) (z :: zs) [] _ => globC ct y && decide ((y, f) ∈ G.fns) && all2 (ckE G n ct) es (z :: zs) | _ => false)
    | .calk f pm es => (match x with | .Call (.Name y _) xs kws _ => globC ct y && decide ((y, f, xs.length, kws.filterMap (·.arg), pm) ∈ G.kws) && kws.all (·.arg.isSome) && decide (es.length = xs.length + kws.length) && all2 (ckE G n ct) (es.take xs.length) xs && kwC (ckE G n ct) (es.drop xs.length) kws | _ => false)
    | .mk q es => (match x with | .Call (.Name y _) (z :: zs) [] _ => globC ct y && decide ((y, q) ∈ G.mks) && all2 (ckE G n ct) es (z :: zs) | _ => false)
    | .bi b es => (match x with | .Call (.Name y _) (z :: zs) [] _ => globC ct y && biC b y && all2 (ckE G n ct) es (z :: zs) | _ => false)
    | .pop p es => popC G ct (ckE G n ct) p es x
    | .lc t k es cs el => (match x with
      | .ListComp elt [⟨tg, iter, ifs, a⟩] scope _ => decide (a = 0) && notSet iter && itC ct (ckE G n ct) k es tg iter && blkC ct.N ct.sc scope (ownOf t tg) && decide ((ownOf t tg).map (·.2) = t.slots) && tgC (ct.blk scope).sc (ct.blk scope).fq ct.N t tg && tsC (ckE G n (ct.blk scope)) cs ifs && ckE G n (ct.blk scope) el elt
      | _ => false)
    | .bit b k es => (match x with
      | .Call (.Name y _) [.Call (.Name z _) (u :: us) [] _] [] _ => globC ct y && globC ct z && decide (y = "list") && (match b, k with
        | .list, .zip => decide (z = "zip") && decide (us.length = 1) && all2 (ckE G n ct) es (u :: us)
        | .list, .range => decide (z = "range") && decide (us.length = 0) && all2 (ckE G n ct) es (u :: us)
        | _, _ => false)
      | _ => false)
    | .caught j k e => (match e with
      | .call f es => (match x with
        | .Call (.Name y _) [.Lambda ar (.Call (.Name z _) (u :: us) [] _) sc _] [] _ => globC ct y && decide (y ∈ G.cats.map (·.1)) && decide (ct.tb = some (j, k)) && noAr ar && LamX.lamSB ct.sc sc && globC (ct.lam sc) z && decide ((z, f) ∈ G.fns) && all2 (ckE G n (ct.lam sc)) es (u :: us)
        | _ => false)
      | _ => false)
    | .stuck => true
    | _ => false
end PyS
end

section
set_option Elab.async false
set_option linter.all false
set_option maxRecDepth 100000
set_option maxHeartbeats 4000000
/-! ZG: what was checked holds: expressions. -/
namespace PyS
open PySem L2
variable {T : Tb}
/-- what is known where a def's code runs; j the calls that are left -/
structure GOk (T : Tb) (c : Py.Cx) (X : Cx) (j : Nat) (G : Gx) : Prop where
  calm : X.calm = true
  hK : T.K = X.K
  cl : Clss T
  room : Room (j + 1) X.A
  nm : T.nm = G.nm
  na : T.na = G.na
  fn : ∀ y f, (y, f) ∈ G.fns → ∃ a, X.mg y = some (.ref a) ∧ FnF T c X j f a ∧ T.fn f = some a
  kw : ∀ y f n ks pm, (y, f, n, ks, pm) ∈ G.kws → ∃ a, X.mg y = some (.ref a) ∧ FnK T c X j f a n ks pm
  nums : ∀ y i, (y, i) ∈ G.nums → ∃ t, X.mg y = some (.int i t)
  cls : ∀ y q, (y, q) ∈ G.cls → ∃ C, X.mg y = some (.ref C) ∧ T.cls q = some C
  mks : ∀ y q, (y, q) ∈ G.mks → ∃ C, X.mg y = some (.ref C) ∧ MkF T c X j q C
  blt : ∀ y ∈ blts, X.mg y = none
  fx : ∀ y f, (y, f) ∈ G.fns → ∃ a, X.mg y = some (.ref a) ∧ FnX T c X j f a
  xcs : ∀ y q, (y, q) ∈ G.xcs → ∃ C, XcF T X.K X.mg y q C
  cats : ∀ y ∈ G.cats.map (·.1), ∃ g, X.mg y = some (.ref g) ∧ CatF T X.K X.mg y g
/-- where lambdas are made -/
def TbOk (T : Tb) (X : Cx) (j : Nat) (ct : Ct) : Prop := ∀ n k, ct.tb = some (n, k) → ∃ k0 P, T.tb k = some (P, X.env.qual ++ "<lambda>") ∧ LamX.TabB X.base X.mg k0 P ∧ X.env.code = .ref k0 ∧ Room (j + 3) X.A
/-- the context is of that block -/
structure COk (X : Cx) (ct : Ct) : Prop where
  sc : X.env.scope = ct.sc
  fq : X.fn = ct.fq
  N : X.N = ct.N
  nd : ct.N.Nodup
theorem GOk.hu {c : Py.Cx} {X : Cx} {j : Nat} {G : Gx} (g : GOk T c X j G) : X.A.units + 64 < cLine := g.room.units
theorem GOk.blk {c : Py.Cx} {X : Cx} {j : Nat} {G : Gx} (g : GOk T c X j G) (s : Shared) (H : Hp) (scope : Scope) (ce : Env) (fp : List Addr) : GOk T c (X.blk s H scope ce fp) j G :=
  ⟨g.calm, g.hK, g.cl, g.room, g.nm, g.na, fun y f h => by
    obtain ⟨a, h1, h2, h3⟩ := g.fn y f h
    exact ⟨a, h1, ⟨h2.ex, h2.kp⟩, h3⟩, fun y f n ks pm h => by
    obtain ⟨a, h1, h2⟩ := g.kw y f n ks pm h
    exact ⟨a, h1, ⟨h2.ex, h2.kp⟩⟩, g.nums, g.cls, fun y q h => by
    obtain ⟨C, h1, h2⟩ := g.mks y q h
    exact ⟨C, h1, ⟨h2.ex, h2.cls⟩⟩, g.blt, fun y f h => by
    obtain ⟨a, h1, h2⟩ := g.fx y f h
    exact ⟨a, h1, ⟨h2.ex, h2.kp⟩⟩, g.xcs, g.cats⟩
theorem GOk.lam {c : Py.Cx} {X : Cx} {j : Nat} {G : Gx} (g : GOk T c X j G) (A : Around) (outer : List Env) (s : Shared) (H : Hp) (E : XK) (sc : Scope) (f k : Addr) (hr : Room (j + 1) (A.deeper (LamX.lamEnv X sc s.heap.objs.size f k))) : GOk T c (LamX.lamCx X A outer s H E sc f k) j G :=
  ⟨rfl, g.hK, g.cl, hr, g.nm, g.na, fun y f h => by
    obtain ⟨a, h1, h2, h3⟩ := g.fn y f h
    exact ⟨a, h1, ⟨h2.ex, h2.kp⟩, h3⟩, fun y f n ks pm h => by
    obtain ⟨a, h1, h2⟩ := g.kw y f n ks pm h
    exact ⟨a, h1, ⟨h2.ex, h2.kp⟩⟩, g.nums, g.cls, fun y q h => by
    obtain ⟨C, h1, h2⟩ := g.mks y q h
    exact ⟨C, h1, ⟨h2.ex, h2.cls⟩⟩, g.blt, fun y f h => by
    obtain ⟨a, h1, h2⟩ := g.fx y f h
    exact ⟨a, h1, ⟨h2.ex, h2.kp⟩⟩, g.xcs, g.cats⟩
theorem COk.lam {X : Cx} {ct : Ct} (h : COk X ct) (A : Around) (outer : List Env) (s : Shared) (H : Hp) (E : XK) (sc : Scope) (f k : Addr) : COk (LamX.lamCx X A outer s H E sc f k) (ct.lam sc) := ⟨rfl, rfl, h.N, h.nd⟩
theorem TbOk.lam {X : Cx} {ct : Ct} {j : Nat} (A : Around) (outer : List Env) (s : Shared) (H : Hp) (E : XK) (sc : Scope) (f k : Addr) : TbOk T (LamX.lamCx X A outer s H E sc f k) j (ct.lam sc) := fun n k h => (by cases h)
theorem TbOk.blk {X : Cx} {ct : Ct} {j : Nat} (h : TbOk T X j ct) (s : Shared) (H : Hp) (scope : Scope) (cl : List (Str × Addr)) (C : Addr) (fp : List Addr) : TbOk T (X.blk s H scope (compEnvC scope cl C X.env) fp) j (ct.blk scope) := fun n k e => h n k e
theorem COk.blk {X : Cx} {ct : Ct} (h : COk X ct) (s : Shared) (H : Hp) (scope : Scope) (cl : List (Str × Addr)) (C : Addr) (fp : List Addr) : COk (X.blk s H scope (compEnvC scope cl C X.env) fp) (ct.blk scope) := by
  refine ⟨?_, rfl, h.N, h.nd⟩
  show relabel scope X.env = relS scope ct.sc
  rw [← h.sc]
  rfl
section
variable {c : Py.Cx} {X : Cx} {G : Gx} {ct : Ct} {j : Nat}
/-- both readings of an expression -/
def Sim2 (T : Tb) (c : Py.Cx) (X : Cx) (x : Expr) (e : Py.E) : Prop := SimE T c X x e ∧ SimT T c X x e
theorem globC_ok (hc : COk X ct) {y : Str} (h : globC ct y = true) : Gl X y ∧ (y == ("__debug__" : Str)) = false := by
  unfold globC at h
  rw [Bool.and_eq_true, decide_eq_true_eq, Bool.not_eq_true'] at h
  refine ⟨?_, h.2⟩
  show X.env.scope.names.lookup y = _
  rw [hc.sc]
  exact h.1
theorem vis_ok (hc : COk X ct) {y : Str} {i : Nat} {p : Pos} (h : visC ct.sc ct.N y i = true) : PE X (.Name y p) (tVar i) := by
  rw [← hc.sc, ← hc.N] at h
  exact visC_pe h
theorem sim2_val {x : Expr} {e : Py.E} (hx : (match x with | .BoolOp _ _ _ | .UnaryOp .Not _ _ | .Compare _ _ _ _ | .IfExp _ _ _ _ => false | _ => true) = true) (h : SimE T c X x e) : Sim2 T c X x e := ⟨h, simT_val (isTrueB hx X.env) h⟩
theorem sim_ty {y : Str} {n : String} {p : Pos} (g : GOk T c X j G) (hg : Gl X y) (hb : y ∈ blts) (hv : bootBuiltins y = some (.type n)) (hn : y ≠ "__name__") (hd : (y == ("__debug__" : Str)) = false) : SimE T c X (.Name y p) (.con (.ty n)) :=
  sim_con (v := .ty n) (pe_bltn hg (g.blt y hb) hv rfl hn hd) fun _ _ => .ty n
theorem con_ok (g : GOk T c X j G) (hc : COk X ct) {d : Py.D} {x : Expr} (h : conC G ct d x = true) : SimE T c X x (.con d) := by
  unfold conC at h
  split at h
  · rename_i v k p
    split at h
    · rename_i i i'
      have := of_decide_eq_true h
      subst this
      exact sim_con pe_int fun _ _ => .int _
    · rename_i s z
      have := of_decide_eq_true h
      subst this
      exact sim_con pe_str fun _ _ => .str _
    · rename_i a b
      have := of_decide_eq_true h
      subst this
      exact sim_con pe_bl fun _ _ => .bl _
    · exact sim_con pe_non fun _ _ => .non
    · cases h
  · rename_i y p
    rw [Bool.and_eq_true] at h
    obtain ⟨hg, hd⟩ := globC_ok hc h.1
    have h2 := h.2
    split at h2
    · rw [Bool.or_eq_true] at h2
      rcases h2 with h2 | h2
      · obtain ⟨C, h3, h4⟩ := g.cls _ _ (of_decide_eq_true h2)
        exact sim_con (v := .ref C) (pe_glob hg h3 rfl hd) fun _ _ => .cls h4
      · obtain ⟨C, h3⟩ := g.xcs _ _ (of_decide_eq_true h2)
        exact sim_con (v := .ref C) (pe_glob hg h3.mg rfl hd) fun _ _ => .xcl h3.xc
    · obtain ⟨a, h3, _, h4⟩ := g.fn _ _ (of_decide_eq_true h2)
      exact sim_con (v := .ref a) (pe_glob hg h3 rfl hd) fun _ _ => .fn h4
    · obtain ⟨t, h3⟩ := g.nums _ _ (of_decide_eq_true h2)
      exact sim_con (v := .int _) (pe_glob hg h3 ⟨t, rfl⟩ hd) fun _ _ => .int _
    · simp only [Bool.or_eq_true, Bool.and_eq_true, decide_eq_true_eq] at h2
      rcases h2 with ((((h2 | h2) | h2) | h2) | h2) | h2
      all_goals
        obtain ⟨rfl, rfl⟩ := h2
        exact sim_ty g hg (by decide +kernel) (by decide +kernel) (by decide +kernel) hd
    · cases h2
  · cases h
theorem bop_ok (g : GOk T c X j G) {op : Py.Bop} {p : Operator} (h : bopC op p = true) {a b : Expr} {A B : Py.E} {pos : Pos} (ha : SimE T c X a A) (hb : SimE T c X b B) : SimE T c X (.BinOp a p b pos) (.bin op A B) := by
  unfold bopC at h
  have hK := g.hK
  split at h
  · exact sim_bin (by rw [hK]; exact op_addA) os_add ha hb
  · exact sim_bin op_subA os_sub ha hb
  · exact sim_bin (by rw [hK]; exact op_mulA) os_mul ha hb
  · exact sim_bin op_fdivA os_fdiv ha hb
  · exact sim_bin op_modA os_mod ha hb
  · exact sim_bin op_powA os_pow ha hb
  · cases h
/-- an operator of comparison -/
theorem cop_ok (g : GOk T c X j G) {op : Py.Cop} {p : CmpOp} (h : copC op p = true) : ∃ r : R2, OpR X (compareOp p) r ∧ OpSim T (copO op) r := by
  have hK := g.hK
  have hu := g.hu
  unfold copC at h
  split at h
  · exact ⟨_, by rw [hK]; exact op_eqD hu, os_eq⟩
  · exact ⟨_, by rw [hK]; exact op_neD hu, os_ne⟩
  · exact ⟨_, op_lt, os_int ic_lt⟩
  · exact ⟨_, op_le, os_int ic_le⟩
  · exact ⟨_, op_gt, os_int ic_gt⟩
  · exact ⟨_, op_ge, os_int ic_ge⟩
  · exact ⟨_, by rw [hK]; exact op_inA (by omega), os_in⟩
  · exact ⟨_, by rw [hK]; exact op_notInA (by omega), os_notin⟩
  · exact ⟨_, op_isA, os_is⟩
  · exact ⟨_, op_isNotA, os_isnot⟩
  · cases h
theorem args_ok (hK : T.K = X.K) {f : Py.E → Expr → Bool} (hf : ∀ e x, f e x = true → SimE T c X x e) : ∀ {es : List Py.E} {xs : List Expr}, argC f es xs = true → SimEs T c X xs es
  | [], [], _ => sims_nil
  | e :: es, x :: xs, h => by
    rw [argC, Bool.and_eq_true] at h
    have ih := args_ok hK hf h.2
    have h1 := h.1
    unfold starM at h1
    split at h1
    · split at h1
      · exact sims_star hK (hf _ _ h1) ih
      · cases h1
    · rename_i hx
      rw [Bool.and_eq_true, Bool.not_eq_true'] at h1
      refine sims_cons ?_ h1.1 (hf _ _ h1.2) ih
      cases x <;> first | rfl | exact absurd rfl (hx _ _)
  | [], _ :: _, h => by simp [argC] at h
  | _ :: _, [], h => by simp [argC] at h
theorem all2_in {f : Py.E → Expr → Bool} : ∀ {es : List Py.E} {xs : List Expr}, all2 f es xs = true → es.length = xs.length ∧ xs.all notStar = true ∧ (es.all fun E => !isStarE E) = true
  | [], [], _ => ⟨rfl, rfl, rfl⟩
  | e :: es, x :: xs, h => by
    rw [all2, Bool.and_eq_true, Bool.and_eq_true, Bool.and_eq_true] at h
    obtain ⟨h1, h2, h3⟩ := all2_in h.2
    refine ⟨by rw [List.length_cons, List.length_cons, h1], ?_, ?_⟩
    · rw [List.all_cons, h2, h.1.1.1] <;> rfl
    · rw [List.all_cons, h3, h.1.1.2] <;> rfl
  | [], _ :: _, h => by simp [all2] at h
  | _ :: _, [], h => by simp [all2] at h
theorem all2_ok {f : Py.E → Expr → Bool} (hf : ∀ e x, f e x = true → SimE T c X x e) : ∀ {es : List Py.E} {xs : List Expr}, all2 f es xs = true → SimEs T c X xs es ∧ SimVs T c X xs es ∧ SimOs T c X xs es
  | [], [], _ => ⟨sims_nil, simv_nil, simo_nil⟩
  | e :: es, x :: xs, h => by
    rw [all2, Bool.and_eq_true, Bool.and_eq_true, Bool.and_eq_true, Bool.not_eq_true'] at h
    obtain ⟨⟨⟨h1, h2⟩, h3⟩, h4⟩ := h
    obtain ⟨i1, i2, i3⟩ := all2_ok hf h4
    exact ⟨sims_cons h1 h2 (hf _ _ h3) i1, simv_cons h1 (hf _ _ h3) i2, simo_cons h1 (hf _ _ h3) i3⟩
  | [], _ :: _, h => by simp [all2] at h
  | _ :: _, [], h => by simp [all2] at h
theorem kv_ok {f : Py.E → Expr → Bool} (hf : ∀ e x, f e x = true → SimE T c X x e) : ∀ {es : List Py.E} {ks : List (Option Expr)} {vs : List Expr}, kvC f es ks vs = true → SimKV T c X ks vs es
  | [], [], [], _ => .nil
  | k :: v :: r, some a :: ks, b :: vs, h => by
    rw [kvC, Bool.and_eq_true, Bool.and_eq_true] at h
    exact .cons (hf _ _ h.1.1) (hf _ _ h.1.2) (kv_ok hf h.2)
  | [], _ :: _, _, h => by simp [kvC] at h
  | [], [], _ :: _, h => by simp [kvC] at h
  | [_], _, _, h => by simp [kvC] at h
  | _ :: _ :: _, [], _, h => by simp [kvC] at h
  | _ :: _ :: _, none :: _, _, h => by simp [kvC] at h
  | _ :: _ :: _, some _ :: _, [], h => by simp [kvC] at h
theorem kw_ok {f : Py.E → Expr → Bool} (hf : ∀ e x, f e x = true → SimE T c X x e) : ∀ {es : List Py.E} {ks : List Keyword}, kwC f es ks = true → SimKs T c X ks es ∧ (es.all fun E => !isStarE E) = true ∧ es.length = ks.length
  | [], [], _ => ⟨simk_nil, rfl, rfl⟩
  | e :: es, k :: ks, h => by
    rw [kwC, Bool.and_eq_true, Bool.and_eq_true, Bool.not_eq_true'] at h
    obtain ⟨i1, i2, i3⟩ := kw_ok hf h.2
    obtain ⟨a, v, p⟩ := k
    refine ⟨simk_cons h.1.1 (hf _ _ h.1.2) i1, ?_, by rw [List.length_cons, List.length_cons, i3]⟩
    rw [List.all_cons, h.1.1, i2] <;> rfl
  | [], _ :: _, h => by simp [kwC] at h
  | _ :: _, [], h => by simp [kwC] at h
theorem opt_ok {f : Py.E → Expr → Bool} (hf : ∀ e x, f e x = true → SimE T c X x e) {e : Option Py.E} {x : Option Expr} (h : optC f e x = true) : SimO T c X x e := by
  unfold optC at h
  split at h
  · exact simo_none
  · exact simo_some (hf _ _ h)
  · cases h
theorem it_ok (g : GOk T c X j G) (hc : COk X ct) {f : Py.E → Expr → Bool} (hf : ∀ e x, f e x = true → SimE T c X x e) {k : Option Py.Itk} {es : List Py.E} {tg iter : Expr} (ht : okTg tg) (h : itC ct f k es tg iter = true) : SimI T c X tg iter k es := by
  have hK := g.hK
  unfold itC at h
  split at h
  · split at h
    · rw [Bool.and_eq_true, Bool.not_eq_true'] at h
      exact simI_seq hK h.1 (hf _ _ h.2)
    · cases h
  · split at h
    · rename_i y p xs pos
      simp only [Bool.and_eq_true, Bool.or_eq_true, decide_eq_true_eq] at h
      obtain ⟨⟨⟨rfl, hg⟩, ha⟩, hl⟩ := h
      obtain ⟨hg, _⟩ := globC_ok hc hg
      have hm := g.blt "range" (by decide +kernel)
      obtain ⟨l1, l2, l3⟩ := all2_in ha
      have hs := (all2_ok hf ha).1
      rcases hl with hl | hl
      · match xs, es, hl, l1, l2, l3, hs with
        | [x], [e], _, _, l2, l3, hs =>
          simp only [List.all_cons, List.all_nil, Bool.and_true, Bool.not_eq_true'] at l2 l3
          exact simI_range1 hg hm l2 l3 hs
      · match xs, es, hl, l1, l2, l3, hs with
        | [x, x2], [e, e2], _, _, l2, l3, hs =>
          simp only [List.all_cons, List.all_nil, Bool.and_true, Bool.and_eq_true, Bool.not_eq_true'] at l2 l3
          exact simI_range2 hg hm l2.1 l2.2 l3.1 l3.2 hs
    · cases h
  · split at h
    · rename_i y p xs pos
      simp only [Bool.and_eq_true, decide_eq_true_eq] at h
      obtain ⟨⟨⟨⟨rfl, hg⟩, ha⟩, hl⟩, ht2⟩ := h
      obtain ⟨hg, _⟩ := globC_ok hc hg
      have hm := g.blt "enumerate" (by decide +kernel)
      obtain ⟨l1, l2, l3⟩ := all2_in ha
      have hs := (all2_ok hf ha).1
      match xs, es, hl, l1, l2, l3, hs with
      | [x], [e], _, _, l2, l3, hs =>
        simp only [List.all_cons, List.all_nil, Bool.and_true, Bool.not_eq_true'] at l2 l3
        split at ht2
        · exact simI_enum hK hg hm l2 l3 hs
        · cases ht2
    · cases h
  · split at h
    · rename_i y p xs pos
      simp only [Bool.and_eq_true, decide_eq_true_eq] at h
      obtain ⟨⟨⟨rfl, hg⟩, ha⟩, hl⟩ := h
      obtain ⟨hg, _⟩ := globC_ok hc hg
      have hm := g.blt "zip" (by decide +kernel)
      obtain ⟨l1, l2, l3⟩ := all2_in ha
      have hs := (all2_ok hf ha).1
      match xs, es, hl, l1, l2, l3, hs with
      | [x, x2], [e, e2], _, _, l2, l3, hs =>
        simp only [List.all_cons, List.all_nil, Bool.and_true, Bool.and_eq_true, Bool.not_eq_true'] at l2 l3
        exact simI_zip hK ht hg hm l2.1 l2.2 l3.1 l3.2 hs
    · cases h
  · cases h
theorem bi_ok (g : GOk T c X j G) (hc : COk X ct) {b : Py.Bi} {y : Str} (hy : biC b y = true) (hg : globC ct y = true) {z : Expr} {zs : List Expr} {es : List Py.E} {p pos : Pos} (hs : SimVs T c X (z :: zs) es) (hz : (z :: zs).all notStar = true) :
    SimE T c X (.Call (.Name y p) (z :: zs) [] pos) (.bi b es) := by
  have hK := g.hK
  have hu := g.hu
  have hca := g.calm
  obtain ⟨hg, hd⟩ := globC_ok hc hg
  rw [List.all_cons, Bool.and_eq_true] at hz
  have he := starEach_not hz.1 zs X.env
  have hpl := stars_no hz.2 X.env pos
  unfold biC at hy
  split at hy
  · have := of_decide_eq_true hy
    subst this
    exact sim_bi (E := .stuck) (pe_callB (cb_len) hg (g.blt _ (by decide +kernel)) (by decide +kernel) pa_self (by decide +kernel) hd he hpl) (by rw [← hK]; exact bs_len) hs
  · have := of_decide_eq_true hy
    subst this
    exact sim_bi (E := .stuck) (pe_callB (cb_abs) hg (g.blt _ (by decide +kernel)) (by decide +kernel) pa_self (by decide +kernel) hd he hpl) bs_abs hs
  · have := of_decide_eq_true hy
    subst this
    exact sim_bi (E := .stuck) (pe_callTy (cb_int) hg (g.blt _ (by decide +kernel)) (by decide +kernel) pa_self (by decide +kernel) hd he hpl) bs_int hs
  · have := of_decide_eq_true hy
    subst this
    exact sim_bi (E := .stuck) (pe_callTy (cb_list) hg (g.blt _ (by decide +kernel)) (by decide +kernel) pa_self (by decide +kernel) hd he hpl) (by rw [← hK]; exact bs_list) hs
  · have := of_decide_eq_true hy
    subst this
    exact sim_bi (E := .stuck) (pe_callTy (cb_tuple) hg (g.blt _ (by decide +kernel)) (by decide +kernel) pa_self (by decide +kernel) hd he hpl) (by rw [← hK]; exact bs_tuple) hs
  · have := of_decide_eq_true hy
    subst this
    exact sim_bi (E := .stuck) (pe_callB (cb_sum hca) hg (g.blt _ (by decide +kernel)) (by decide +kernel) pa_self (by decide +kernel) hd he hpl) (by rw [← hK]; exact bs_sum) hs
  · have := of_decide_eq_true hy
    subst this
    exact sim_bi (E := .stuck) (pe_callB (cb_all hca) hg (g.blt _ (by decide +kernel)) (by decide +kernel) pa_self (by decide +kernel) hd he hpl) (by rw [← hK]; exact bs_all) hs
  · have := of_decide_eq_true hy
    subst this
    exact sim_bi (E := .stuck) (pe_callB (cb_any hca) hg (g.blt _ (by decide +kernel)) (by decide +kernel) pa_self (by decide +kernel) hd he hpl) (by rw [← hK]; exact bs_any) hs
  · have := of_decide_eq_true hy
    subst this
    exact sim_bi (E := .stuck) (pe_callB (cb_min hca hu) hg (g.blt _ (by decide +kernel)) (by decide +kernel) pa_self (by decide +kernel) hd he hpl) (by rw [← hK]; exact bs_min) hs
  · have := of_decide_eq_true hy
    subst this
    exact sim_bi (E := .stuck) (pe_callB (cb_max hca hu) hg (g.blt _ (by decide +kernel)) (by decide +kernel) pa_self (by decide +kernel) hd he hpl) (by rw [← hK]; exact bs_max) hs
  · have := of_decide_eq_true hy
    subst this
    exact sim_bi (E := .stuck) (pe_callB (cb_isi) hg (g.blt _ (by decide +kernel)) (by decide +kernel) pa_self (by decide +kernel) hd he hpl) (by rw [← hK]; exact bs_isi g.cl) hs
  · have := of_decide_eq_true hy
    subst this
    exact sim_bi (E := .stuck) (pe_callB (cb_sorted) hg (g.blt _ (by decide +kernel)) (by decide +kernel) pa_self (by decide +kernel) hd he hpl) (by rw [← hK]; exact bs_sorted) hs
  · cases hy
end
end PyS
end

section
set_option Elab.async false
set_option linter.all false
set_option maxRecDepth 100000
set_option maxHeartbeats 4000000
/-! ZH: what was checked holds: the main theorem for expressions. -/
namespace PyS
open PySem L2
variable {T : Tb}
section
variable {c : Py.Cx} {G : Gx} {j : Nat}
theorem tsC_ok {X : Cx} {scope : Scope} {ct : Ct} {f : Py.E → Expr → Bool} (hf : ∀ e x, f e x = true → Blk X scope fun B => Sim2 T c B x e) {es : List Py.E} {xs : List Expr} (h : tsC f es xs = true) : ∃ tt, SimTs T c X scope xs es tt := by
  unfold tsC at h
  split at h
  · exact ⟨_, .nil⟩
  · exact ⟨_, .one fun s H C cl fp => (hf _ _ h s H C cl fp).2⟩
  · cases h
theorem pop_ok {X : Cx} {ct : Ct} (g : GOk T c X j G) (hc : COk X ct) {f : Py.E → Expr → Bool} (hf : ∀ e x, f e x = true → SimE T c X x e) {p : Py.E} {es : List Py.E} {x : Expr} (h : popC G ct f p es x = true) : SimE T c X x (.pop p es) ∧ ∃ q as ks pos, x = .Call q as ks pos := by
  unfold popC at h
  split at h
  · rename_i q m ap xs cp
    simp only [Bool.and_eq_true, decide_eq_true_eq] at h
    obtain ⟨⟨rfl, hl⟩, h⟩ := h
    refine ⟨?_, _, _, _, _, rfl⟩
    split at h
    · rename_i i
      split at h
      · rename_i y yp
        rw [Bool.and_eq_true] at h
        obtain ⟨hv, h⟩ := h
        rw [← hc.sc, ← hc.N] at hv
        split at h
        · exact sim_pop0 (plc0 hv) (by rfl) hl
        · rename_i e a
          split at h
          · have := of_decide_eq_true h
            subst this
            exact sim_popC (plc0 hv) (by rfl) hl
          · simp only [Bool.and_eq_true, Bool.not_eq_true'] at h
            exact sim_pop1 hv h.1.1.1 h.1.2 h.1.1.2 hl (hf _ _ h.2)
        · cases h
      · cases h
    · rename_i i d
      split at h
      · rename_i y yp v k kp sp
        simp only [Bool.and_eq_true] at h
        obtain ⟨⟨hv, hk⟩, h⟩ := h
        rw [← hc.sc, ← hc.N] at hv
        -- the constant
        obtain ⟨kv, pk, rk⟩ : ∃ kv, PE X (.Constant v k kp) (tC kv) ∧ ∀ G φ, Rep T G φ kv d := by
          unfold conC at hk
          simp only at hk
          split at hk
          · have := of_decide_eq_true hk
            subst this
            exact ⟨_, pe_int, fun _ _ => .int _⟩
          · have := of_decide_eq_true hk
            subst this
            exact ⟨_, pe_str, fun _ _ => .str _⟩
          · have := of_decide_eq_true hk
            subst this
            exact ⟨_, pe_bl, fun _ _ => .bl _⟩
          · exact ⟨_, pe_non, fun _ _ => .non⟩
          · cases hk
        split at h
        · exact sim_pop0 (plc1 g.hu hv pk rk rfl) (by rfl) hl
        · have := of_decide_eq_true h
          subst this
          exact sim_popC (plc1 g.hu hv pk rk rfl) (by rfl) hl
        · cases h
      · cases h
    · cases h
  · cases h
theorem kws_args : ∀ {kws : List Keyword}, kws.all (·.arg.isSome) = true → kws.map (·.arg) = (kws.filterMap (·.arg)).map some
  | [], _ => rfl
  | k :: ks, h => by
    rw [List.all_cons, Bool.and_eq_true] at h
    obtain ⟨a, v, p⟩ := k
    cases a with
    | none => cases h.1
    | some a =>
      rw [List.map_cons, kws_args h.2]
      rfl
theorem ck_ok : ∀ (n : Nat) {X : Cx} {ct : Ct}, GOk T c X j G → COk X ct → TbOk T X j ct → ∀ (e : Py.E) (x : Expr), ckE G n ct e x = true → Sim2 T c X x e
  | 0, X, ct, g, hc, ht, e, x, h => by cases h
  | n + 1, X, ct, g, hc, ht, e, x, h => by
    have ih : ∀ (e : Py.E) (x : Expr), ckE G n ct e x = true → Sim2 T c X x e := ck_ok n g hc ht
    have ihE : ∀ (e : Py.E) (x : Expr), ckE G n ct e x = true → SimE T c X x e := fun e x h => (ih e x h).1
    have hK := g.hK
    unfold ckE at h
    cases e with
    | var i =>
      simp only at h
      split at h
      · exact sim2_val rfl (sim_var (vis_ok hc h))
      · cases h
    | mv i =>
      simp only at h
      split at h
      · exact sim2_val rfl (sim_mv (vis_ok hc h))
      · cases h
    | keep e =>
      simp only at h
      have := ih _ _ h
      exact ⟨sim_keep this.1, fun w σ s b s' rs ev Q q => by
        simp only [Py.ev] at ev
        exact this.2 w σ s b s' rs ev Q fun w' st rs' _ => q w' st rs' fun qq => by simp only [Py.E.quiet] at qq; cases qq⟩
    | con d =>
      simp only at h
      refine sim2_val ?_ (con_ok g hc h)
      unfold conC at h
      cases x <;> first | rfl | cases h
    | tup es =>
      simp only at h
      split at h
      · exact sim2_val rfl (sim_tup (args_ok hK ihE h))
      · cases h
    | lst es =>
      simp only at h
      split at h
      · exact sim2_val rfl (sim_lst (args_ok hK ihE h))
      · cases h
    | star e => cases h
    | dict kvs =>
      simp only at h
      split at h
      · rename_i ks vs pos
        rw [Bool.and_eq_true, decide_eq_true_eq] at h
        have hk := kv_ok ihE h.2
        cases hk with
        | nil => exact sim2_val rfl sim_dict0
        | cons h1 h2 h3 => exact sim2_val rfl (sim_dict (.cons h1 h2 h3) (by simp) h.1)
      · cases h
    | bin op a b =>
      simp only at h
      split at h
      · simp only [Bool.and_eq_true] at h
        exact sim2_val rfl (bop_ok g h.1.1 (ihE _ _ h.1.2) (ihE _ _ h.2))
      · cases h
    | neg a =>
      simp only at h
      split at h
      · exact sim2_val rfl (sim_neg (ihE _ _ h))
      · cases h
    | not a =>
      simp only at h
      split at h
      · exact ⟨sim_not (ih _ _ h).1, simT_not (ih _ _ h).2⟩
      · cases h
    | and a b =>
      simp only at h
      split at h
      · simp only [Bool.and_eq_true] at h
        obtain ⟨h1, h2⟩ := h
        exact ⟨sim_and (ih _ _ h1).1 (sim_one (ih _ _ h2).1), simT_W (simW_and (ih _ _ h1).2 (simW_and1 (ih _ _ h2).2))⟩
      · rename_i y z u r p
        simp only [Bool.and_eq_true] at h
        obtain ⟨h1, h2⟩ := h
        have i2 := ih _ _ h2
        refine ⟨sim_and (ih _ _ h1).1 i2.1, simT_W (simW_and (ih _ _ h1).2 ?_)⟩
        exact fun w σ s b' s' rs ev Q q whole pins sh I => i2.2 w σ s b' s' rs ev Q q pins sh I
      · cases h
    | or a b =>
      simp only at h
      split at h
      · simp only [Bool.and_eq_true] at h
        obtain ⟨h1, h2⟩ := h
        exact ⟨sim_or (ih _ _ h1).1 (sim_one (ih _ _ h2).1), simT_W (simW_or (ih _ _ h1).2 (simW_or1 (ih _ _ h2).2))⟩
      · rename_i y z u r p
        simp only [Bool.and_eq_true] at h
        obtain ⟨h1, h2⟩ := h
        have i2 := ih _ _ h2
        refine ⟨sim_or (ih _ _ h1).1 i2.1, simT_W (simW_or (ih _ _ h1).2 ?_)⟩
        exact fun w σ s b' s' rs ev Q q whole pins sh I => i2.2 w σ s b' s' rs ev Q q pins sh I
      · cases h
    | cmp op a b =>
      simp only at h
      split at h
      · simp only [Bool.and_eq_true] at h
        obtain ⟨⟨⟨h1, h2⟩, h3⟩, h4⟩ := h
        obtain ⟨r, r1, r2⟩ := cop_ok g h1
        exact ⟨sim_cmp r1 r2 h2 (ihE _ _ h3) (ihE _ _ h4), simT_cmp r1 r2 h2 (ihE _ _ h3) (ihE _ _ h4)⟩
      · cases h
    | chain op op' a b d =>
      simp only at h
      split at h
      · simp only [Bool.and_eq_true] at h
        obtain ⟨⟨⟨⟨⟨h1, h1'⟩, h2⟩, h3⟩, h4⟩, h5⟩ := h
        obtain ⟨r, r1, r2⟩ := cop_ok g h1
        obtain ⟨r', r1', r2'⟩ := cop_ok g h1'
        exact ⟨sim_chain r1 r1' r2 r2' h2 (ihE _ _ h3) (ihE _ _ h4) (ihE _ _ h5), simT_chain r1 r1' r2 r2' h2 (ihE _ _ h3) (ihE _ _ h4) (ihE _ _ h5)⟩
      · cases h
    | ife t a b =>
      simp only at h
      split at h
      · simp only [Bool.and_eq_true] at h
        obtain ⟨⟨h1, h2⟩, h3⟩ := h
        exact ⟨sim_ife (ih _ _ h1).2 (ih _ _ h2).1 (ih _ _ h3).1, simT_ife (ih _ _ h1).2 (ih _ _ h2).2 (ih _ _ h3).2⟩
      · cases h
    | idx a i =>
      simp only at h
      split at h
      · simp only [Bool.and_eq_true] at h
        exact sim2_val rfl (sim_idx g.hu h.1.1 (ihE _ _ h.1.2) (ihE _ _ h.2))
      · cases h
    | slc a lo hi =>
      simp only at h
      split at h
      · simp only [Bool.and_eq_true] at h
        exact sim2_val rfl (sim_slc (ihE _ _ h.1.1) (opt_ok ihE h.1.2) (opt_ok ihE h.2) hK.symm)
      · cases h
    | attr a f =>
      simp only at h
      split at h
      · simp only [Bool.and_eq_true, decide_eq_true_eq] at h
        obtain ⟨⟨⟨h1, h2⟩, h3⟩, h4⟩ := h
        subst h1
        refine sim2_val rfl ?_
        rw [← g.nm]
        refine sim_attr g.cl hK.symm (by rw [g.na]; exact h2) (attrB ?_ _ _ _) (ihE _ _ h4)
        revert h3
        unfold notCall
        split <;> simp
      · cases h
    | call f es =>
      simp only at h
      split at h
      · simp only [Bool.and_eq_true, decide_eq_true_eq] at h
        obtain ⟨⟨h1, h2⟩, h3⟩ := h
        obtain ⟨hg, hd⟩ := globC_ok hc h1
        obtain ⟨a, hm, F, _⟩ := g.fn _ _ h2
        obtain ⟨l1, l2, l3⟩ := all2_in h3
        rw [List.all_cons, Bool.and_eq_true] at l2
        exact sim2_val rfl (sim_call F (g.room.mono (Nat.le_succ _)) hg hm hd l2.1 (stars_no l2.2 _ _) (all2_ok ihE h3).1)
      · cases h
    | calk f pm es =>
      simp only at h
      split at h
      · rename_i y yp xs kws pos
        simp only [Bool.and_eq_true, decide_eq_true_eq] at h
        obtain ⟨⟨⟨⟨⟨h1, h2⟩, h3⟩, h4⟩, h5⟩, h6⟩ := h
        obtain ⟨hg, hd⟩ := globC_ok hc h1
        obtain ⟨a, hm, F⟩ := g.kw _ _ _ _ _ h2
        obtain ⟨l1, l2, l3⟩ := all2_in h5
        obtain ⟨k1, k2, k3⟩ := kw_ok ihE h6
        obtain ⟨w1, w2, w3⟩ := kw_all (kws_args h3) X.env pos
        have hks : (es.drop xs.length).length = (kws.filterMap (·.arg)).length := by
          rw [k3]
          have := congrArg List.length (kws_args h3)
          rw [List.length_map, List.length_map] at this
          exact this
        refine sim2_val rfl ?_
        cases xs with
        | nil =>
          have e0 : es.drop ([] : List Expr).length = es := rfl
          rw [e0] at k1 k2 hks
          exact sim_calk0 F (g.room.mono (Nat.le_succ _)) hg hm hd w1 w2 (by rw [w3]; rfl) hks k2 k1
        | cons z zs =>
          have e1 : es = es.take (z :: zs).length ++ es.drop (z :: zs).length := (List.take_append_drop _ _).symm
          have l2' := l2
          rw [List.all_cons, Bool.and_eq_true] at l2'
          rw [e1]
          exact sim_calk F (g.room.mono (Nat.le_succ _)) hg hm hd l2'.1 w1 w2 (by rw [w3, stars_no l2]; rfl) l1 hks l3 k2 (all2_ok ihE h5).1 k1
      · cases h
    | calv i es => cases h
    | mk q es =>
      simp only at h
      split at h
      · simp only [Bool.and_eq_true, decide_eq_true_eq] at h
        obtain ⟨⟨h1, h2⟩, h3⟩ := h
        obtain ⟨hg, hd⟩ := globC_ok hc h1
        obtain ⟨C, hm, F⟩ := g.mks _ _ h2
        obtain ⟨l1, l2, l3⟩ := all2_in h3
        rw [List.all_cons, Bool.and_eq_true] at l2
        exact sim2_val rfl (sim_mk F g.room hg hm hd l2.1 (stars_no l2.2 _ _) (all2_ok ihE h3).1)
      · cases h
    | bi b es =>
      simp only at h
      split at h
      · simp only [Bool.and_eq_true] at h
        obtain ⟨⟨h1, h2⟩, h3⟩ := h
        exact sim2_val rfl (bi_ok g hc h2 h1 (all2_ok ihE h3).2.1 (all2_in h3).2.1)
      · cases h
    | bm b a es => cases h
    | bit b k es =>
      simp only at h
      split at h
      · rename_i y yp z zp u us pos2 pos
        simp only [Bool.and_eq_true, decide_eq_true_eq] at h
        obtain ⟨⟨⟨h1, h2⟩, rfl⟩, h3⟩ := h
        obtain ⟨hg, _⟩ := globC_ok hc h1
        obtain ⟨hg2, _⟩ := globC_ok hc h2
        have hm := g.blt "list" (by decide +kernel)
        split at h3
        · simp only [Bool.and_eq_true, decide_eq_true_eq] at h3
          obtain ⟨⟨rfl, hl⟩, ha⟩ := h3
          obtain ⟨l1, l2, l3⟩ := all2_in ha
          have hs := (all2_ok ihE ha).1
          match us, es, hl, l1, l2, l3, hs with
          | [u2], [e, e2], _, _, l2, l3, hs =>
            simp only [List.all_cons, List.all_nil, Bool.and_true, Bool.and_eq_true, Bool.not_eq_true'] at l2 l3
            exact sim2_val rfl (sim_listZip hK g.calm hg hm hg2 (g.blt "zip" (by decide +kernel)) l2.1 l2.2 l3.1 l3.2 hs)
        · simp only [Bool.and_eq_true, decide_eq_true_eq] at h3
          obtain ⟨⟨rfl, hl⟩, ha⟩ := h3
          obtain ⟨l1, l2, l3⟩ := all2_in ha
          match us, es, hl, l1, l2, l3, ha with
          | [], [e], _, _, l2, l3, ha =>
            simp only [List.all_cons, List.all_nil, Bool.and_true, Bool.not_eq_true'] at l2 l3
            simp only [all2, Bool.and_eq_true] at ha
            exact sim2_val rfl (sim_listRange g.calm hg hm hg2 (g.blt "range" (by decide +kernel)) l2 l3 (ihE _ _ ha.1.2))
        · cases h3
      · cases h
    | caught n' k e =>
      simp only at h
      split at h
      · rename_i f es
        split at h
        · rename_i y yp ar z zp u us p3 sc lp pos
          simp only [Bool.and_eq_true, decide_eq_true_eq] at h
          obtain ⟨⟨⟨⟨⟨⟨⟨h1, h2⟩, h3⟩, h4⟩, h5⟩, h6⟩, h7⟩, h8⟩ := h
          obtain ⟨hg, hd⟩ := globC_ok hc h1
          obtain ⟨cg, hm, CF⟩ := g.cats y h2
          obtain ⟨k0, P, t1, t2, t3, t4⟩ := ht n' k h3
          obtain ⟨a, hz, F⟩ := g.fx _ _ h7
          obtain ⟨l1, l2, l3⟩ := all2_in h8
          rw [List.all_cons, Bool.and_eq_true] at l2
          have gz := h6
          unfold globC at gz
          rw [Bool.and_eq_true, decide_eq_true_eq, Bool.not_eq_true'] at gz
          have nar : ar = ⟨[], [], none, [], [], none, []⟩ := by
            unfold noAr at h4
            split at h4
            · rfl
            · cases h4
          subst nar
          refine sim2_val rfl (sim_caught (j := j + 1) (m := j) CF hg hm hd t1 t2 t3 t4 (LamX.lamS_by (by rw [hc.sc]; exact h5)) rfl (fun q cl pm cv ctv => rfl) F (by omega) gz.1 hz gz.2 l2.1 (fun env => stars_no l2.2 env _) fun A outer s H E f k hr => ?_)
          have ihL : ∀ (e : Py.E) (x : Expr), ckE G n (ct.lam sc) e x = true → SimE T c (LamX.lamCx X A outer s H E sc f k) x e := fun e x h => (ck_ok n (g.lam A outer s H E sc f k hr) (hc.lam A outer s H E sc f k) (TbOk.lam A outer s H E sc f k) e x h).1
          exact (all2_ok ihL h8).1
        · cases h
      · cases h
    | pop p es =>
      simp only at h
      obtain ⟨h1, q, as, ks, pos, rfl⟩ := pop_ok g hc ihE h
      exact sim2_val rfl h1
    | lc t k es cs el =>
      simp only at h
      split at h
      · rename_i elt tg iter ifs a scope pos
        simp only [Bool.and_eq_true, decide_eq_true_eq] at h
        obtain ⟨⟨⟨⟨⟨⟨⟨h0, h1⟩, h2⟩, h3⟩, h4⟩, h5⟩, h6⟩, h7⟩ := h
        subst h0
        have ihb : ∀ (e : Py.E) (x : Expr), ckE G n (ct.blk scope) e x = true → Blk X scope fun B => Sim2 T c B x e := fun e x h s H C cl fp => ck_ok n (g.blk s H scope _ fp) (hc.blk s H scope cl C fp) (ht.blk s H scope cl C fp) e x h
        obtain ⟨tt, hts⟩ := tsC_ok (T := T) (c := c) (ct := ct) ihb h6
        refine sim2_val rfl (sim_lc (tt := tt) (own := ownOf t tg) ⟨g.calm, by rw [hc.N]; exact hc.nd, it_ok g hc ihE (tgC_shape h5) h2, ?_, h4, fun s H C cl fp => ?_, hts, fun s H C cl fp => (ihb _ _ h7 s H C cl fp).1, foldB h1 _⟩)
        · rw [hc.sc, hc.N]
          exact blkOk_by h3
        · have := (hc.blk s H scope cl C fp)
          show tgC (X.blk s H scope (compEnvC scope cl C X.env) fp).env.scope (X.blk s H scope (compEnvC scope cl C X.env) fp).fn (X.blk s H scope (compEnvC scope cl C X.env) fp).N t tg = true
          rw [this.sc, this.fq, this.N]
          exact h5
      · cases h
    | stuck => exact ⟨fun m w σ s o s' rs ev => (by simp only [Py.ev] at ev; cases ev), fun w σ s b s' rs ev => (by simp only [Py.ev] at ev; cases ev)⟩
end
end PyS
end

section
set_option Elab.async false
set_option linter.all false
set_option maxRecDepth 100000
set_option maxHeartbeats 4000000
/-! ZI: statements checked. -/
namespace PyS
open PySem L2
/-- a comprehension stored to a name swaps -/
def swLc (sc : Scope) (y : Str) (py : Pos) (scope : Scope) (pos : Pos) : Bool :=
  (if sc.kind.isAnnotationScope then ScopeKind.function else sc.kind) == .function && sc.names.lookup y == some .local && py.line == pos.line && !(scope.names.any fun (n, k) => n == y && (k == .local || k == .cell))
def noSwap : Expr → Bool
  | .ListComp _ _ _ _ | .SetComp _ _ _ _ | .DictComp _ _ _ _ _ => false
  | _ => true
def isLc : Py.E → Bool
  | .lc _ _ _ _ _ => true
  | _ => false
def notTup : Expr → Bool
  | .Tuple _ _ _ => false
  | _ => true
def blC (f : Py.S → Stmt → Bool) : List Py.S → List Stmt → Bool
  | [], [] => true
  | s :: ss, x :: xs => f s x && blC f ss xs
  | _, _ => false
def parC (G : Gx) (ct : Ct) (f : Py.E → Expr → Bool) (is : List Nat) (es : List Py.E) (ts vs : List Expr) : Bool :=
  locsC ct.sc ct.fq ct.N is ts && all2 f es vs && (match swSt ct.sc ts vs with
    | some none => decide (vs.length ≤ 1000)
    | some (some _) => (match ts with
      | [.Name x px, .Name y py] => (match is with
        | [i, j] => decide (i ≠ j) && decide (ct.sc.names.lookup x = some .local) && decide (ct.sc.names.lookup y = some .local) && decide (swSt ct.sc [.Name x px, .Name y py] vs = some (some [x, y]))
        | _ => false)
      | [.Name x px, .Name y py, .Name z pz] => (match is with
        | [i, j, l] => decide (i ≠ j) && decide (i ≠ l) && decide (j ≠ l) && decide (ct.sc.names.lookup x = some .local) && decide (ct.sc.names.lookup y = some .local) && decide (ct.sc.names.lookup z = some .local) && decide (swSt ct.sc [.Name x px, .Name y py, .Name z pz] vs = some (some [x, y, z]))
        | _ => false)
      | _ => false)
    | none => false)
def ckS (G : Gx) : Nat → Ct → Py.S → Stmt → Bool
  | 0, _, _, _ => false
  | n + 1, ct, s, x => match s with
    | .asg tg e => (match x with
      | .Assign [t] v pos => (match tg with
        | .nm i => (match t with
          | .Name y py => locC ct.sc ct.fq ct.N y i && ckE G n ct e v && (match v with
            | .ListComp elt gs scope cp => isLc e && (!swLc ct.sc y py scope cp || decide (ct.sc.names.lookup y = some .local))
            | v => noSwap v)
          | _ => false)
        | .tup l => notTup v && tgC ct.sc ct.fq ct.N (.tup l) t && ckE G n ct e v)
      | _ => false)
    | .par is es => (match x with
      | .Assign [.Tuple ts _ _] (.Tuple vs _ _) _ => parC G ct (ckE G n ct) is es ts vs
      | _ => false)
    | .set p k e => (match p with
      | .var i => (match x with
        | .Assign [.Subscript (.Name y _) kx _] v _ => visC ct.sc ct.N y i && notSlice kx && ckE G n ct k kx && ckE G n ct e v
        | _ => false)
      | _ => false)
    | .setA i f e => (match x with
      | .Assign [.Attribute (.Name y _) m _] v _ => visC ct.sc ct.N y i && decide (m = G.nm f) && decide (f < G.na) && ckE G n ct e v
      | _ => false)
    | .app p e => (match p with
      | .var i => (match x with
        | .Expr (.Call (.Attribute (.Name y _) m ap) [v] [] cp) _ => decide (m = "append") && (ap.endLine == cp.line) && visC ct.sc ct.N y i && notStar v && ckE G n ct e v
        | _ => false)
      | _ => false)
    | .ex e => (match x with
      | .Expr v _ => noSwap v && ckE G n ct e v
      | _ => false)
    | .pass => (match x with
      | .Pass _ => true
      | .Expr (.Constant (.str _) _ _) _ => true
      | _ => false)
    | .ret e => (match x with
      | .Return (some v) _ => ckE G n ct e v
      | _ => false)
    | .ite t a b => (match x with
      | .If y xa xb _ => ckE G n ct t y && blC (ckS G n ct) a xa && blC (ckS G n ct) b xb
      | _ => false)
    | .for_ t k es b => (match x with
      | .For tg iter xb [] _ => notSet iter && tgC ct.sc ct.fq ct.N t tg && itC ct (ckE G n ct) k es tg iter && blC (ckS G n ct) b xb
      | _ => false)
    | .whl t b => (match x with
      | .While y xb [] _ => ckE G n ct t y && blC (ckS G n ct) b xb
      | _ => false)
    | .cont => (match x with
      | .Continue _ => true
      | _ => false)
    | .brk => (match x with
      | .Break _ => true
      | _ => false)
    | .raise q => (match x with
      | .Raise (some (.Call (.Name y _) [.Constant (.str _) _ _] [] _)) none _ => globC ct y && decide ((y, q) ∈ G.xcs)
      | _ => false)
    | .exX f es => (match x with
      | .Expr (.Call (.Name y _) (z :: zs) [] _) _ => globC ct y && decide ((y, f) ∈ G.fns) && all2 (ckE G n ct) es (z :: zs)
      | _ => false)
    | .stuck => true
    | _ => false
variable {T : Tb}
section
variable {c : Py.Cx} {G : Gx} {j : Nat} {X : Cx} {ct : Ct}
theorem noSwap_ok {v : Expr} (h : noSwap v = true) (t : Option Expr) (l : Nat) (env : Env) : swapsWith v t l env = pure false := by
  cases v <;> first | rfl | cases h
theorem swTup {v : Expr} {es : List Expr} {k : Nat} {p : Pos} {l : Nat} {env : Env} : swapsWith v (some (.Tuple es k p)) l env = pure false := by
  cases v <;> rfl
theorem notTup_ok {v : Expr} (h : notTup v = true) {es : List Expr} {k : Nat} {p : Pos} {env : Env} : swappedStores [.Tuple es k p] v env = pure none := by
  cases v <;> first | rfl | cases h
theorem swLc_ok (hc : COk X ct) {elt : Expr} {gs : List Comprehension} {scope : Scope} {cp py : Pos} {y : Str} {l : Nat} : swapsWith (.ListComp elt gs scope cp) (some (.Name y py)) l X.env = pure (swLc ct.sc y py scope cp) := by
  rw [← hc.sc]
  rfl
theorem bl_ok {f : Py.S → Stmt → Bool} (hf : ∀ s x, f s x = true → SimS T c X x s) : ∀ {ss : List Py.S} {xs : List Stmt}, blC f ss xs = true → SimB T c X xs ss
  | [], [], _ => simB_nil
  | s :: ss, x :: xs, h => by
    rw [blC, Bool.and_eq_true] at h
    exact simB_cons (hf _ _ h.1) (bl_ok hf h.2)
  | [], _ :: _, h => by simp [blC] at h
  | _ :: _, [], h => by simp [blC] at h
theorem par_ok (g : GOk T c X j G) (hc : COk X ct) {f : Py.E → Expr → Bool} (hf : ∀ e x, f e x = true → SimE T c X x e) {is : List Nat} {es : List Py.E} {ts vs : List Expr} {k k2 : Nat} {p p2 pos : Pos} (h : parC G ct f is es ts vs = true) :
    SimS T c X (.Assign [.Tuple ts k p] (.Tuple vs k2 p2) pos) (.par is es) := by
  have hN : X.N.Nodup := by rw [hc.N]; exact hc.nd
  unfold parC at h
  simp only [Bool.and_eq_true] at h
  obtain ⟨⟨h1, h2⟩, h3⟩ := h
  obtain ⟨l1, l2, l3⟩ := all2_in h2
  have hs := (all2_ok hf h2).2.2
  rw [← hc.sc, ← hc.fq, ← hc.N] at h1
  split at h3
  · rename_i hw
    rw [← hc.sc] at hw
    exact simS_parN g.calm hN h1 hw (of_decide_eq_true h3) hs l1.symm
  · split at h3
    · rename_i x px y py
      split at h3
      · rename_i i j'
        simp only [Bool.and_eq_true, decide_eq_true_eq] at h3
        obtain ⟨⟨⟨a1, a2⟩, a3⟩, a4⟩ := h3
        rw [← hc.sc] at a2 a3 a4
        rw [locsC, locsC, locsC, Bool.and_eq_true, Bool.and_eq_true] at h1
        have hv : vs.length = 2 := by
          cases vs with
          | nil => simp [swSt, swC1] at a4
          | cons v1 vs =>
            cases vs with
            | nil => simp [swSt, swC1] at a4
            | cons v2 vs =>
              cases vs with
              | nil => rfl
              | cons v3 vs => simp [swSt, swC1] at a4
        match vs, hv, hs, a4 with
        | [v1, v2], _, hs, a4 => exact simS_par2 g.calm hN h1.1 h1.2.1 a1 a2 a3 a4 hs
      · cases h3
    · rename_i x px y py z pz
      split at h3
      · rename_i i j' l
        simp only [Bool.and_eq_true, decide_eq_true_eq] at h3
        obtain ⟨⟨⟨⟨⟨⟨a1, a2⟩, a3⟩, a4⟩, a5⟩, a6⟩, a7⟩ := h3
        rw [← hc.sc] at a4 a5 a6 a7
        rw [locsC, locsC, locsC, locsC, Bool.and_eq_true, Bool.and_eq_true, Bool.and_eq_true] at h1
        have hv : vs.length = 3 := by
          cases vs with
          | nil => simp [swSt, swC1] at a7
          | cons v1 vs =>
            cases vs with
            | nil => simp [swSt, swC1] at a7
            | cons v2 vs =>
              cases vs with
              | nil => simp [swSt, swC1] at a7
              | cons v3 vs =>
                cases vs with
                | nil => rfl
                | cons v4 vs => simp [swSt, swC1] at a7
        match vs, hv, hs, a7 with
        | [v1, v2, v3], _, hs, a7 => exact simS_par3 g.calm hN h1.1 h1.2.1 h1.2.2.1 a1 a2 a3 a4 a5 a6 a7 hs
      · cases h3
    · cases h3
  · cases h3
theorem ckS_ok (g : GOk T c X j G) (hc : COk X ct) (ht : TbOk T X j ct) (hp : PassesOwn (model X.prog X.w) X.A X.env X.xe) (hlp : LpOk c.lp) : ∀ (n : Nat) (s : Py.S) (x : Stmt), ckS G n ct s x = true → SimS T c X x s
  | 0, s, x, h => by cases h
  | n + 1, s, x, h => by
    have ih : ∀ (s : Py.S) (x : Stmt), ckS G n ct s x = true → SimS T c X x s := ckS_ok g hc ht hp hlp n
    have ihE : ∀ (e : Py.E) (x : Expr), ckE G n ct e x = true → SimE T c X x e := fun e x h => (ck_ok n g hc ht e x h).1
    have ihT : ∀ (e : Py.E) (x : Expr), ckE G n ct e x = true → SimT T c X x e := fun e x h => (ck_ok n g hc ht e x h).2
    have hN : X.N.Nodup := by rw [hc.N]; exact hc.nd
    unfold ckS at h
    cases s with
    | asg tg e =>
      simp only at h
      split at h
      · rename_i t v pos
        split at h
        · rename_i i
          split at h
          · rename_i y py
            simp only [Bool.and_eq_true] at h
            obtain ⟨⟨h1, h2⟩, h3⟩ := h
            rw [← hc.sc, ← hc.fq, ← hc.N] at h1
            split at h3
            · rename_i elt gs scope cp
              cases hsw : swLc ct.sc y py scope cp with
              | false => exact simS_set hN h1 (by rw [swLc_ok hc, hsw]) (ihE _ _ h2)
              | true =>
                rw [hsw, Bool.not_true, Bool.false_or, Bool.and_eq_true, decide_eq_true_eq] at h3
                obtain ⟨hlc, h3⟩ := h3
                -- the comprehension's own facts
                cases n with
                | zero => cases h2
                | succ n =>
                  have h2' := h2
                  unfold ckE at h2'
                  cases e with
                  | lc t k es cs el =>
                    simp only at h2'
                    split at h2'
                    · rename_i elt' tg iter ifs a scope' pos' heq
                      cases heq
                      simp only [Bool.and_eq_true, decide_eq_true_eq] at h2'
                      obtain ⟨⟨⟨⟨⟨⟨⟨b0, b1⟩, b2⟩, b3⟩, b4⟩, b5⟩, b6⟩, b7⟩ := h2'
                      subst b0
                      have ihE' : ∀ (e : Py.E) (x : Expr), ckE G n ct e x = true → SimE T c X x e := fun e x h => (ck_ok n g hc ht e x h).1
                      have ihb : ∀ (e : Py.E) (x : Expr), ckE G n (ct.blk scope) e x = true → Blk X scope fun B => Sim2 T c B x e := fun e x h s H C cl fp => ck_ok n (g.blk s H scope _ fp) (hc.blk s H scope cl C fp) (ht.blk s H scope cl C fp) e x h
                      obtain ⟨tt, hts⟩ := tsC_ok (T := T) (c := c) (ct := ct) ihb b6
                      refine simS_setLc (tt := tt) (own := ownOf t tg) (locC_ok h1).1 (by rw [hc.sc]; exact h3) (by rw [swLc_ok hc, hsw]) ⟨g.calm, hN, it_ok g hc ihE' (tgC_shape b5) b2, ?_, b4, fun s H C cl fp => ?_, hts, fun s H C cl fp => (ihb _ _ b7 s H C cl fp).1, foldB b1 _⟩
                      · rw [hc.sc, hc.N]
                        exact blkOk_by b3
                      · have := (hc.blk s H scope cl C fp)
                        show tgC (X.blk s H scope (compEnvC scope cl C X.env) fp).env.scope (X.blk s H scope (compEnvC scope cl C X.env) fp).fn (X.blk s H scope (compEnvC scope cl C X.env) fp).N t tg = true
                        rw [this.sc, this.fq, this.N]
                        exact b5
                    · cases h2'
                  | _ => cases hlc
            · exact simS_set hN h1 (noSwap_ok h3 _ _ _) (ihE _ _ h2)
          · cases h
        · rename_i l
          simp only [Bool.and_eq_true] at h
          obtain ⟨⟨h1, h2⟩, h3⟩ := h
          rw [← hc.sc, ← hc.fq, ← hc.N] at h2
          cases t with
          | Tuple es k p => exact simS_tup g.calm hN h2 swTup (notTup_ok h1) (ihE _ _ h3)
          | _ => simp [tgC] at h2
      · cases h
    | par is es =>
      simp only at h
      split at h
      · exact par_ok g hc ihE h
      · cases h
    | set p k e =>
      simp only at h
      split at h
      · split at h
        · simp only [Bool.and_eq_true] at h
          obtain ⟨⟨⟨h1, h2⟩, h3⟩, h4⟩ := h
          rw [← hc.sc, ← hc.N] at h1
          exact simS_setK g.hu h1 (asgB h2 _) (ihE _ _ h3) (ihE _ _ h4)
        · cases h
      · cases h
    | setA i f e =>
      simp only at h
      split at h
      · simp only [Bool.and_eq_true, decide_eq_true_eq] at h
        obtain ⟨⟨⟨h1, h2⟩, h3⟩, h4⟩ := h
        rw [← hc.sc, ← hc.N] at h1
        subst h2
        rw [← g.nm]
        exact simS_setA g.cl g.hK.symm (by rw [g.na]; exact h3) h1 (ihE _ _ h4)
      · cases h
    | aug i op e => cases h
    | augS p k op e => cases h
    | app p e =>
      simp only at h
      split at h
      · split at h
        · simp only [Bool.and_eq_true, decide_eq_true_eq] at h
          obtain ⟨⟨⟨⟨rfl, h1⟩, h2⟩, h3⟩, h4⟩ := h
          rw [← hc.sc, ← hc.N] at h2
          exact simS_app h2 h3 h1 (ihE _ _ h4)
        · cases h
      · cases h
    | ex e =>
      simp only at h
      split at h
      · rw [Bool.and_eq_true] at h
        exact simS_ex (noSwap_ok h.1 _ _ _) (ihE _ _ h.2)
      · cases h
    | ret e =>
      simp only at h
      split at h
      · exact simS_ret (ihE _ _ h)
      · cases h
    | ite t a b =>
      simp only at h
      split at h
      · simp only [Bool.and_eq_true] at h
        exact simS_if (ihT _ _ h.1.1) (bl_ok ih h.1.2) (bl_ok ih h.2)
      · cases h
    | for_ t k es b =>
      simp only at h
      split at h
      · simp only [Bool.and_eq_true] at h
        obtain ⟨⟨⟨h1, h2⟩, h3⟩, h4⟩ := h
        have h2' := h2
        rw [← hc.sc, ← hc.fq, ← hc.N] at h2'
        exact simS_for hp g.calm hN h2' (foldB h1 _) (it_ok g hc ihE (tgC_shape h2) h3) (bl_ok ih h4)
      · cases h
    | whl t b =>
      simp only at h
      split at h
      · rw [Bool.and_eq_true] at h
        exact simS_whl hp hlp (ihT _ _ h.1) (bl_ok ih h.2)
      · cases h
    | cont =>
      simp only at h
      split at h
      · exact simS_cont
      · cases h
    | brk =>
      simp only at h
      split at h
      · exact simS_brk
      · cases h
    | pass =>
      simp only at h
      split at h
      · exact simS_pass
      · exact simS_doc
      · cases h
    | raise q =>
      simp only at h
      split at h
      · rw [Bool.and_eq_true, decide_eq_true_eq] at h
        obtain ⟨hg, hd⟩ := globC_ok hc h.1
        obtain ⟨C, F⟩ := g.xcs _ _ h.2
        exact simS_raise F g.calm hg hd
      · cases h
    | exX f es =>
      simp only at h
      split at h
      · simp only [Bool.and_eq_true, decide_eq_true_eq] at h
        obtain ⟨⟨h1, h2⟩, h3⟩ := h
        obtain ⟨hg, hd⟩ := globC_ok hc h1
        obtain ⟨a, hm, F⟩ := g.fx _ _ h2
        obtain ⟨l1, l2, l3⟩ := all2_in h3
        rw [List.all_cons, Bool.and_eq_true] at l2
        exact simS_exX F (g.room.mono (Nat.le_succ _)) hg hm hd l2.1 (stars_no l2.2 _ _) (all2_ok ihE h3).1
      · cases h
    | stuck => exact fun w σ s out s' rs ev => by simp only [Py.ex] at ev; cases ev
end
end PyS
end

section
set_option Elab.async false
set_option linter.all false
set_option maxRecDepth 100000
set_option maxHeartbeats 4000000
/-! ZJ: an __init__'s statements, which leave the names alone. -/
namespace PyS
open PySem L2
variable {T : Tb}
section
variable {c : Py.Cx} {X : Cx} {G : Gx} {ct : Ct} {j : Nat}
def EndsF (T : Tb) (w : Wd) (σ : L2.St) (D : Ends) (out : Py.Out) (s' : Py.St) : Prop := ∀ w' : Wd, Stp w w' → RS T w' σ s' → out = .nx ∧ D.nx σ w'.H
/-- such a statement, if it ends as it should -/
def SimF (T : Tb) (c : Py.Cx) (X : Cx) (st : Stmt) (S : Py.S) : Prop :=
  ∀ (w : Wd) (σ : L2.St) (s : Py.St) (s' : Py.St), RS T w σ s → Py.ex c S s = some (.nx, s') → ∀ D : Ends, (∀ w' : Wd, Stp w w' → RS T w' σ s' → D.nx σ w'.H) → WS X st D σ w.H
def SimFB (T : Tb) (c : Py.Cx) (X : Cx) (st : List Stmt) (S : List Py.S) : Prop :=
  ∀ (w : Wd) (σ : L2.St) (s : Py.St) (s' : Py.St), RS T w σ s → Py.exs c S s = some (.nx, s') → ∀ D : Ends, (∀ w' : Wd, Stp w w' → RS T w' σ s' → D.nx σ w'.H) → WB X st D σ w.H
theorem simFB_nil : SimFB T c X [] [] := by
  intro w σ s s' rs ev D d
  simp only [Py.exs, Option.some.injEq, Prod.mk.injEq, true_and] at ev
  subst ev
  exact WB.of pss_nil (d w (Stp.refl _) rs)
theorem simFB_cons {st : Stmt} {sts : List Stmt} {S : Py.S} {Ss : List Py.S} (h : SimF T c X st S) (hs : SimFB T c X sts Ss) : SimFB T c X (st :: sts) (S :: Ss) := by
  intro w σ s s' rs ev D d
  refine WB.of (pss_cons ps_self pb_self) ?_
  rw [Py.exs] at ev
  split at ev
  · rename_i s1 e1
    refine h w σ s s1 rs e1 _ fun w1 st1 rs1 => ?_
    exact hs w1 σ s1 s' rs1 ev D fun w2 st2 rs2 => d w2 (st1.trans st2) rs2
  · rename_i o s1 hn e1
    simp only [Option.some.injEq, Prod.mk.injEq] at ev
    obtain ⟨rfl, rfl⟩ := ev
    exact (hn rfl).elim
  · cases ev
theorem simF_doc {x : Str} {k : Nat} {p p' : Pos} : SimF T c X (.Expr (.Constant (.str x) k p) p') .pass := by
  intro w σ s s' rs ev D d
  simp only [Py.ex, Option.some.injEq, Prod.mk.injEq, true_and] at ev
  subst ev
  exact WS.of ps_doc (d w (Stp.refl _) rs)
theorem simF_if {e : Expr} {E : Py.E} {a b : List Stmt} {A B : List Py.S} {p : Pos} (h : SimT T c X e E) (ha : SimFB T c X a A) (hb : SimFB T c X b B) : SimF T c X (.If e a b p) (.ite E A B) := by
  intro w σ s s' rs ev D d
  simp only [Py.ex] at ev
  refine WS.of (ps_if pt_self pb_self pb_self) ?_
  split at ev
  · rename_i s1 e1
    refine h w σ s true s1 rs e1 _ fun w1 st1 rs1 _ => ?_
    rw [if_pos rfl]
    exact ha w1 σ s1 s' rs1 ev D fun w2 st2 rs2 => d w2 (st1.trans st2) rs2
  · rename_i s1 e1
    refine h w σ s false s1 rs e1 _ fun w1 st1 rs1 _ => ?_
    rw [if_neg Bool.false_ne_true]
    exact hb w1 σ s1 s' rs1 ev D fun w2 st2 rs2 => d w2 (st1.trans st2) rs2
  · cases ev
theorem simF_setA {e : Expr} {E : Py.E} {i f : Nat} {x : Str} {p ap pos : Pos} (F : Clss T) (hK : X.K = T.K) (hf : f < T.na) (hv : visC X.env.scope X.N x i = true) (h : SimE T c X e E) :
    SimF T c X (.Assign [.Attribute (.Name x p) (T.nm f) ap] e pos) (.setA i f E) := by
  intro w σ s s' rs ev D d
  simp only [Py.ex] at ev
  split at ev
  · rename_i o s1 e1
    split at ev
    · rename_i k l he
      split at ev
      · rename_i hz
        simp only [Option.some.injEq, Prod.mk.injEq, true_and] at ev
        subst ev
        refine WS.of (ps_fld (visC_pe hv) pe_self swA) ?_
        refine h false w σ s o s1 rs e1 _ fun v w1 st1 rs1 q1 p1 => ?_
        obtain ⟨w2, h2, st2, rs2, r2, _⟩ := p1.res.toD st1 rs1
        obtain ⟨u, g1, g2⟩ := rs2.env i _ he
        rw [← h2]
        cases g2 with
        | @ins _ a C dx fs _ _ hl hC hH hs =>
          refine ⟨_, g1, a, C, dx, fs, rfl, hH, ?_, ?_, ?_, ?_⟩
          · rw [hK]; exact (F.one k C hC).cl
          · rw [hK]; exact F.na k C f hC hf
          · rw [hs.len]; omega
          · have hie : i < s1.env.length := (List.getElem?_eq_some_iff.mp he).1
            refine d { w2 with H := upd w2.H a (.ins C dx (L2.putF (T.nm f) v fs)) } (st2.trans ⟨GLe.refl _, PLe.refl _, fun b u h l => ?_, fun b h => ?_⟩) ⟨⟨fun b u h => ?_, fun b r' h => ⟨(rs2.lg b r' h).1, ?_⟩⟩, fun j y hj => ?_, fun n y hn => ?_, rs2.len, ?_⟩
            · have : b ≠ a := fun z => by rw [z, hl] at l; cases l
              exact ⟨(upd_ne this).trans h, l, rfl⟩
            · show upd w2.H a _ b ≠ none
              by_cases z : b = a
              · rw [z, upd_same]; exact fun q => nomatch q
              · rw [upd_ne z]; exact h
            · show upd w2.H a _ b = some u
              rw [upd_ne (fun z => by rw [z, (rs2.lg a _ hl).1] at h; cases h)]
              exact rs2.gh b u h
            · show upd w2.H a _ b ≠ none
              by_cases z : b = a
              · rw [z, upd_same]; exact fun q => nomatch q
              · rw [upd_ne z]; exact (rs2.lg b r' h).2
            · by_cases hji : j = i
              · subst hji
                rw [show (s1.env.set j _)[j]? = _ from List.getElem?_set_self hie] at hj
                cases hj
                exact ⟨_, g1, .ins hl hC upd_same ((RepOf.kid (mkid hl _) hs).put (w := { w2 with H := upd w2.H a (.ins C dx (L2.putF (T.nm f) v fs)) }) F.inj f r2)⟩
              · rw [show (s1.env.set i _)[j]? = s1.env[j]? from List.getElem?_set_ne (Ne.symm hji)] at hj
                obtain ⟨v', k1, k2⟩ := rs2.env j y hj
                refine ⟨v', k1, RepO.move (w := w2) (w' := { w2 with H := upd w2.H a (.ins C dx (L2.putF (T.nm f) v fs)) }) ⟨GLe.refl _, PLe.refl _, fun b ρ q => ⟨q, fun u hu => ?_⟩⟩ k2⟩
                show upd w2.H a _ b = some u
                rw [upd_ne (fun z => by rw [z, hl] at q; cases q; exact hji rfl)]
                exact hu
            · obtain ⟨v', k1, k2⟩ := rs2.sto n y hn
              refine ⟨v', k1, RepO.move (w := w2) (w' := { w2 with H := upd w2.H a (.ins C dx (L2.putF (T.nm f) v fs)) }) ⟨GLe.refl _, PLe.refl _, fun b ρ q => ⟨q, fun u hu => ?_⟩⟩ k2⟩
              show upd w2.H a _ b = some u
              rw [upd_ne (fun z => by rw [z, hl] at q; cases q)]
              exact hu
            · show (s1.env.set i _).length = σ.length
              rw [List.length_set]
              exact rs2.el
      · cases ev
    · cases ev
  · cases ev
def ckF (G : Gx) (m : Nat) : Nat → Ct → Py.S → Stmt → Bool
  | 0, _, _, _ => false
  | n + 1, ct, s, x => match s with
    | .setA i f e => (match x with
      | .Assign [.Attribute (.Name y _) z _] v _ => visC ct.sc ct.N y i && decide (z = G.nm f) && decide (f < G.na) && ckE G m ct e v
      | _ => false)
    | .pass => (match x with
      | .Expr (.Constant (.str _) _ _) _ => true
      | _ => false)
    | .ite t a b => (match x with
      | .If y xa xb _ => ckE G m ct t y && blC (ckF G m n ct) a xa && blC (ckF G m n ct) b xb
      | _ => false)
    | .stuck => true
    | _ => false
theorem blF_ok {f : Py.S → Stmt → Bool} (hf : ∀ s x, f s x = true → SimF T c X x s) : ∀ {ss : List Py.S} {xs : List Stmt}, blC f ss xs = true → SimFB T c X xs ss
  | [], [], _ => simFB_nil
  | s :: ss, x :: xs, h => by
    rw [blC, Bool.and_eq_true] at h
    exact simFB_cons (hf _ _ h.1) (blF_ok hf h.2)
  | [], _ :: _, h => by simp [blC] at h
  | _ :: _, [], h => by simp [blC] at h
theorem ckF_ok (g : GOk T c X j G) (hc : COk X ct) (ht : TbOk T X j ct) {m : Nat} : ∀ (n : Nat) (s : Py.S) (x : Stmt), ckF G m n ct s x = true → SimF T c X x s
  | 0, s, x, h => by cases h
  | n + 1, s, x, h => by
    have ih : ∀ (s : Py.S) (x : Stmt), ckF G m n ct s x = true → SimF T c X x s := ckF_ok g hc ht n
    have ihE : ∀ (e : Py.E) (x : Expr), ckE G m ct e x = true → SimE T c X x e := fun e x h => (ck_ok m g hc ht e x h).1
    have ihT : ∀ (e : Py.E) (x : Expr), ckE G m ct e x = true → SimT T c X x e := fun e x h => (ck_ok m g hc ht e x h).2
    unfold ckF at h
    cases s with
    | setA i f e =>
      simp only at h
      split at h
      · simp only [Bool.and_eq_true, decide_eq_true_eq] at h
        obtain ⟨⟨⟨h1, h2⟩, h3⟩, h4⟩ := h
        rw [← hc.sc, ← hc.N] at h1
        subst h2
        rw [← g.nm]
        exact simF_setA g.cl g.hK.symm (by rw [g.na]; exact h3) h1 (ihE _ _ h4)
      · cases h
    | pass =>
      simp only at h
      split at h
      · exact simF_doc
      · cases h
    | ite t a b =>
      simp only at h
      split at h
      · simp only [Bool.and_eq_true] at h
        exact simF_if (ihT _ _ h.1.1) (blF_ok ih h.1.2) (blF_ok ih h.2)
      · cases h
    | stuck => exact fun w σ s s' rs ev => by simp only [Py.ex] at ev; cases ev
    | _ => cases h
end
end PyS
end

section
set_option Elab.async false
set_option linter.all false
set_option maxRecDepth 100000
set_option maxHeartbeats 4000000
/-! ZK: defs, level by level. -/
namespace PyS
open PySem L2
def isIni (P : Py.Prog) (f : Nat) : Bool := P.ini.any fun p => p.2 == f
def fuel : Nat := 60
def Gx.tbOf (G : Gx) (f : Nat) : Option (Nat × Nat) := if G.tab = some f then some (0, f) else none
/-- the def's code fits its text -/
def bodyC (G : Gx) (P : Py.Prog) (f : Nat) (sc : Scope) (N : List Str) (b : List Py.S) (body : List Stmt) : Bool :=
  if isIni P f then blC (ckF G fuel fuel ⟨sc, fun _ => true, N, G.tbOf f⟩) b body else blC (ckS G fuel ⟨sc, fun _ => true, N, G.tbOf f⟩) b body
/-- what the head tells -/
structure Hd (T : Tb) (K : PySem.W.Frag) (mg : Str → Option Value) (G : Gx) (P : Py.Prog) (fn : List He.DefD) (fd : Nat → FuncData) (ps N : Nat → List Str) : Prop where
  hK : T.K = K
  cl : Clss T
  nm : T.nm = G.nm
  na : T.na = G.na
  fns : ∀ y f, (y, f) ∈ G.fns → ∃ d py, fn[f]? = some d ∧ P.defs[f]? = some py ∧ mg y = some (.ref (He.fAd K d.at_)) ∧ T.fn f = some (He.fAd K d.at_) ∧ isIni P f = false
  kws : ∀ y f n ks pm, (y, f, n, ks, pm) ∈ G.kws → ∃ d py, fn[f]? = some d ∧ P.defs[f]? = some py ∧ mg y = some (.ref (He.fAd K d.at_)) ∧ isIni P f = false ∧ KwF K (fd f) (ps f) n ks pm ∧ pm.length = (ps f).length
  nums : ∀ y i, (y, i) ∈ G.nums → ∃ t, mg y = some (.int i t)
  cls : ∀ y q, (y, q) ∈ G.cls → ∃ C, mg y = some (.ref C) ∧ T.cls q = some C
  mks : ∀ y q, (y, q) ∈ G.mks → ∃ C f d py, P.ini.lookup q = some f ∧ fn[f]? = some d ∧ P.defs[f]? = some py ∧ mg y = some (.ref C) ∧ T.cls q = some C ∧ Mk K C (He.fAd K d.at_)
  blt : ∀ y ∈ blts, mg y = none
  xcs : ∀ y q, (y, q) ∈ G.xcs → ∃ C, XcF T K mg y q C
  cats : ∀ y ∈ G.cats.map (·.1), ∃ g, mg y = some (.ref g) ∧ CatF T K mg y g
  tab : ∀ f d, G.tab = some f → fn[f]? = some d → T.tb f = some ((He.cT K d.at_).2, (d.qual ++ ".<locals>.") ++ "<lambda>")
  bnd : ∀ f d, fn[f]? = some d → Binds K (fd f) (ps f) []
  fdf : ∀ f d, fn[f]? = some d → FunD K d.name d.qual d.params d.body d.scope [] [] (He.fAd K d.at_) (fd f)
  st : ∀ f d py, fn[f]? = some d → P.defs[f]? = some py → py.ar = (ps f).length ∧ py.sl = (N f).length ∧ FnScope (N f) (ps f) d.scope ∧ bodyC G P f d.scope (N f) py.body d.body = true
section
variable {T : Tb} {K : PySem.W.Frag} {mg : Str → Option Value} {G : Gx} {P : Py.Prog} {fn : List He.DefD} {fd : Nat → FuncData} {ps N : Nat → List Str} {Pg : Program} {w0 : World} {base : Heap} {lp : (Py.St → Option (Py.St ⊕ (Py.Out × Py.St))) → Py.St → Option (Py.Out × Py.St)}
structure Lv (T : Tb) (Pg : Program) (w0 : World) (K : PySem.W.Frag) (mg : Str → Option Value) (base : Heap) (P : Py.Prog) (fn : List He.DefD) (fd : Nat → FuncData) (ps : Nat → List Str) (lp : (Py.St → Option (Py.St ⊕ (Py.Out × Py.St))) → Py.St → Option (Py.Out × Py.St)) (m : Nat) : Prop where
  f : ∀ f d py, fn[f]? = some d → P.defs[f]? = some py → isIni P f = false → FnOk Pg w0 K mg base CX0 (4 * m) (He.fAd K d.at_) (fd f) (ps f) (spF T (Py.callD lp P m) f (ps f).length)
  x : ∀ f d py, fn[f]? = some d → P.defs[f]? = some py → isIni P f = false → FnOk Pg w0 K mg base (L2.CX Pg w0) (4 * m) (He.fAd K d.at_) (fd f) (ps f) (spX T (Py.callXD lp P m) f (ps f).length)
  i : ∀ q f d py, P.ini.lookup q = some f → fn[f]? = some d → P.defs[f]? = some py → FnOk Pg w0 K mg base CX0 (4 * m) (He.fAd K d.at_) (fd f) (ps f) (spM T (Py.makeD lp P m) q (ps f).length)
/-- a def's rule, its code object told -/
theorem okC {CX : CXT} {x qual : Str} {params : Arguments} {body : List Stmt} {scope : Scope} {dvs : List V} {kws : List (Str × V)} {at_ : Str × Option Str} {fd : FuncData} {N ps : List Str} {k : Nat} {sp : Sp} (F : FunD K x qual params body scope dvs kws (He.fAd K at_) fd) (S : FnScope N ps scope) (len : ∀ vs H Q E, sp vs H Q E → vs.length = ps.length)
    (hb : ∀ (cdv : Value) (A : Around) (outer : List Env) (s : Shared) (H : Hp) (vs : List V) (Q : VK) (E : XK), cdv = .ref (He.codeOf K at_) → Room k (A.deeper (PyProof.Rows.envOfC qual scope s.heap.objs.size (He.fAd K at_) cdv)) → sp vs H Q E →
      ∃ t, PSs (cxOf CX Pg w0 K mg base N qual scope (He.fAd K at_) cdv A outer s H E) body t ∧ t { nx := fun _ H' => Q .non H', rt := Q } (L2.start N vs) H) : FnOk Pg w0 K mg base CX (k + 1) (He.fAd K at_) fd ps sp := by
  obtain ⟨oc, od, dV, kV, doc, pm, an, cdv, ct, osl, rfl, lk, hcd, _, _⟩ := F.ex
  obtain ⟨a, rfl⟩ := He.codeIn_ref hcd
  exact fn_of lk hcd S len fun A outer s H vs Q E hr hsp => hb _ A outer s H vs Q E (by rw [He.codeOf_eq lk rfl]) hr hsp
theorem start_rs {w : Wd} {vs : List V} {os : List Py.O} {sto : List Py.O} {N : List Str} {d : Py.Def} (rs : RS T w [] ⟨[], sto⟩) (hl : vs.length = os.length) (hn : d.sl = N.length) (hle : os.length ≤ N.length) (h : ∀ (i : Nat) (v : V) (o : Py.O), vs[i]? = some v → os[i]? = some o → RepO T w (.slot i) [] v o) : RS T w (L2.start N vs) ⟨Py.start d os, sto⟩ := by
  refine ⟨rs.toLabOk, fun i o hi => ?_, rs.sto, rs.len, ?_⟩
  · have hi : (os.map some ++ List.replicate (d.sl - os.length) none)[i]? = some (some o) := hi
    by_cases hlt : i < os.length
    · rw [List.getElem?_append_left (by rw [List.length_map]; exact hlt), List.getElem?_map] at hi
      obtain ⟨o', ho⟩ : ∃ o', os[i]? = some o' := ⟨os[i], List.getElem?_eq_getElem hlt⟩
      rw [ho] at hi
      cases hi
      obtain ⟨v, hv⟩ : ∃ v, vs[i]? = some v := ⟨vs[i]'(by omega), List.getElem?_eq_getElem (by omega)⟩
      refine ⟨v, ?_, h i v o hv ho⟩
      show (vs.map some ++ List.replicate (N.length - vs.length) none)[i]? = _
      rw [List.getElem?_append_left (by rw [List.length_map]; omega), List.getElem?_map, hv]
      rfl
    · rw [List.getElem?_append_right (by rw [List.length_map]; omega)] at hi
      rw [List.getElem?_replicate] at hi
      split at hi <;> cases hi
  · show (os.map some ++ List.replicate (d.sl - os.length) none).length = (vs.map some ++ List.replicate (N.length - vs.length) none).length
    simp only [List.length_append, List.length_map, List.length_replicate]
    omega
theorem RS.bare {w : Wd} {σ : L2.St} {s : Py.St} (rs : RS T w σ s) : RS T w [] ⟨[], s.sto⟩ := ⟨rs.toLabOk, fun i o h => by simp at h, rs.sto, rs.len, rfl⟩
theorem gok (H : Hd T K mg G P fn fd ps N) {m : Nat} (lv : Lv T Pg w0 K mg base P fn fd ps lp m) {X : Cx} (hc : X.calm = true) (e1 : X.prog = Pg) (e2 : X.w = w0) (e3 : X.K = K) (e4 : X.mg = mg) (e5 : X.base = base) (hr : Room (4 * m + 1) X.A) {own cel : List Nat} :
    GOk T (Py.cxK lp P m own cel) X (4 * m) G := by
  have lenF : ∀ {f py}, P.defs[f]? = some py → py.ar = (ps f).length → ∀ ds sto r, Py.callD lp P m f ds sto = some r → ds.length = (ps f).length := by
    intro f py hp ha ds sto r h
    unfold Py.callD at h
    cases m with
    | zero => cases h
    | succ m =>
      rw [Py.callK_succ, hp] at h
      simp only at h
      by_cases hl : (ds.map Py.O.d).length = py.ar
      · rw [List.length_map] at hl
        exact hl.trans ha
      · rw [if_neg hl] at h
        cases h
  have lenX : ∀ {f py}, P.defs[f]? = some py → py.ar = (ps f).length → ∀ ds sto r, Py.callXD lp P m f ds sto = some r → ds.length = (ps f).length := by
    intro f py hp ha ds sto r h
    unfold Py.callXD at h
    cases m with
    | zero => cases h
    | succ m =>
      rw [Py.callK_succ, hp] at h
      simp only at h
      by_cases hl : (ds.map Py.O.d).length = py.ar
      · rw [List.length_map] at hl
        exact hl.trans ha
      · rw [if_neg hl] at h
        cases h
  have lenM : ∀ {q f py}, P.ini.lookup q = some f → P.defs[f]? = some py → py.ar = (ps f).length → ∀ ds sto r, Py.makeD lp P m q ds sto = some r → ds.length + 1 = (ps f).length := by
    intro q f py hq hp ha ds sto r h
    unfold Py.makeD at h
    rw [hq] at h
    simp only at h
    cases m with
    | zero => cases h
    | succ m =>
      rw [Py.callK_succ, hp] at h
      simp only at h
      by_cases hl : (Py.O.ins q [] :: ds.map Py.O.d).length = py.ar
      · rw [List.length_cons, List.length_map] at hl
        exact hl.trans ha
      · rw [if_neg hl] at h
        cases h
  subst e1 e2 e3 e4 e5
  refine ⟨hc, H.hK, H.cl, hr, H.nm, H.na, fun y f h => ?_, fun y f n ks pm h => ?_, H.nums, H.cls, fun y q h => ?_, H.blt, fun y f h => ?_, H.xcs, H.cats⟩
  · obtain ⟨d, py, h1, h2, h3, h4, h5⟩ := H.fns y f h
    exact ⟨_, h3, ⟨⟨fd f, ps f, lv.f f d py h1 h2 h5, H.bnd f d h1, lenF h2 (H.st f d py h1 h2).1⟩, (H.fdf f d h1).kp⟩, h4⟩
  · obtain ⟨d, py, h1, h2, h3, h4, h5, h6⟩ := H.kws y f n ks pm h
    exact ⟨_, h3, ⟨⟨fd f, ps f, lv.f f d py h1 h2 h4, h5, h6⟩, (H.fdf f d h1).kp⟩⟩
  · obtain ⟨C, f, d, py, h1, h2, h3, h4, h5, h6⟩ := H.mks y q h
    exact ⟨C, h4, ⟨⟨_, fd f, ps f, h6, lv.i q f d py h1 h2 h3, H.bnd f d h2, lenM h1 h3 (H.st f d py h2 h3).1⟩, h5⟩⟩
  · obtain ⟨d, py, h1, h2, h3, h4, h5⟩ := H.fns y f h
    exact ⟨_, h3, ⟨⟨fd f, ps f, lv.x f d py h1 h2 h5, H.bnd f d h1, lenX h2 (H.st f d py h1 h2).1⟩, (H.fdf f d h1).kp⟩⟩
theorem tbok (H : Hd T K mg G P fn fd ps N) (hT : ∀ f d, G.tab = some f → fn[f]? = some d → LamX.TabB base mg (He.cT K d.at_).1 (He.cT K d.at_).2) {X : Cx} {f : Nat} {d : He.DefD} (h1 : fn[f]? = some d) (e1 : X.base = base) (e2 : X.mg = mg) (e3 : X.env.qual = d.qual ++ ".<locals>.") (e4 : X.env.code = .ref (He.codeOf K d.at_)) {j : Nat} (hr : Room (j + 3) X.A) {N' : List Str} {sc : Scope} {fq : Str → Bool} :
    TbOk T X j ⟨sc, fq, N', G.tbOf f⟩ := by
  intro n k h
  have h : G.tbOf f = some (n, k) := h
  unfold Gx.tbOf at h
  split at h
  · rename_i ht
    cases h
    subst e1 e2
    exact ⟨_, _, by rw [e3]; exact H.tab f d ht h1, hT f d ht h1, e4, hr⟩
  · cases h
theorem lv_ok (H : Hd T K mg G P fn fd ps N) (hT : ∀ f d, G.tab = some f → fn[f]? = some d → LamX.TabB base mg (He.cT K d.at_).1 (He.cT K d.at_).2) (hlp : LpOk lp) : ∀ m, Lv T Pg w0 K mg base P fn fd ps lp m
  | 0 => by
    refine ⟨fun f d py h1 h2 h3 => ⟨fun vs H Q E h => h.1, fun A outer s H' args us vs Q E hr he hb hv hs => ?_⟩, fun f d py h1 h2 h3 => ⟨fun vs H Q E h => h.1, fun A outer s H' args us vs Q E hr he hb hv hs => ?_⟩, fun q f d py h0 h1 h2 => ⟨fun vs H Q E h => h.1, fun A outer s H' args us vs Q E hr he hb hv hs => ?_⟩⟩
    · obtain ⟨_, w, ds, sto, o, sto', _, _, _, hc, _⟩ := hs
      unfold Py.callD Py.callK at hc
      cases hc
    · obtain ⟨_, w, ds, sto, o, sto', _, _, _, hc, _⟩ := hs
      unfold Py.callXD Py.callK at hc
      cases hc
    · obtain ⟨_, w, x, us', ds, sto, l, sto', _, _, _, _, _, _, _, hc, _⟩ := hs
      unfold Py.makeD at hc
      rw [h0] at hc
      unfold Py.callK at hc
      cases hc
  | m + 1 => by
    have lv := lv_ok H hT hlp m
    refine ⟨fun f d py h1 h2 h3 => ?_, fun f d py h1 h2 h3 => ?_, fun qc f d py h0 h1 h2 => ?_⟩
    · obtain ⟨s1, s2, S, s4⟩ := H.st f d py h1 h2
      rw [show 4 * (m + 1) = (4 * m + 3) + 1 by omega]
      refine okC (H.fdf f d h1) S (fun vs H Q E h => h.1) fun cdv A outer s H' vs Q E hcd hr hsp => ?_
      obtain ⟨hlen, w, ds, sto, o, sto', rfl, rs, rp, hc, q⟩ := hsp
      have g : GOk T (Py.cxK lp P m py.own py.cel) (Cx.nox (cxOf CX0 Pg w0 K mg base (N f) d.qual d.scope (He.fAd K d.at_) cdv A outer s w.H E)) (4 * m) G := gok H lv rfl rfl rfl rfl rfl rfl (hr.mono (by omega))
      have ck : COk (Cx.nox (cxOf CX0 Pg w0 K mg base (N f) d.qual d.scope (He.fAd K d.at_) cdv A outer s w.H E)) ⟨d.scope, fun _ => true, N f, G.tbOf f⟩ := ⟨rfl, rfl, rfl, S.nd⟩
      have tk : TbOk T (Cx.nox (cxOf CX0 Pg w0 K mg base (N f) d.qual d.scope (He.fAd K d.at_) cdv A outer s w.H E)) (4 * m) ⟨d.scope, fun _ => true, N f, G.tbOf f⟩ := tbok H hT h1 rfl rfl rfl hcd hr
      unfold bodyC at s4
      rw [h3, if_neg Bool.false_ne_true] at s4
      have sb := bl_ok (ckS_ok g ck tk PassesOwn.never hlp fuel) s4
      unfold Py.callD at hc
      rw [Py.callK_succ, h2] at hc
      simp only at hc
      by_cases hl : (ds.map Py.O.d).length = py.ar
      case neg => rw [if_neg hl] at hc; cases hc
      rw [if_pos hl] at hc
      have rs0 : RS T w (L2.start (N f) vs) ⟨Py.start py (ds.map Py.O.d), sto⟩ := by
        refine start_rs rs (by rw [List.length_map]; exact rp.length) s2 ?_ fun i v o' hv ho => ?_
        · rw [hl, s1]
          have := congrArg List.length S.pre
          rw [List.length_take] at this
          omega
        · rw [List.getElem?_map] at ho
          cases hd : ds[i]? with
          | none => rw [hd] at ho; cases ho
          | some x =>
            rw [hd] at ho
            cases ho
            obtain ⟨v', hv', rv⟩ := rp.get hd
            rw [hv] at hv'
            cases hv'
            exact .d rv
      refine ⟨WB (Cx.nox (cxOf CX0 Pg w0 K mg base (N f) d.qual d.scope (He.fAd K d.at_) cdv A outer s w.H E)) d.body, PSs.nox pb_self, ?_⟩
      split at hc
      · rename_i o' s' e
        simp only [Option.some.injEq, Prod.mk.injEq] at hc
        obtain ⟨rfl, rfl⟩ := hc
        refine sb w _ _ _ _ rs0 e _ _ LamX.takes0 fun w' σ' st rs' => ?_
        exact fun v r => q v w' st rs'.bare r
      · rename_i s' e
        simp only [Option.some.injEq, Prod.mk.injEq] at hc
        obtain ⟨rfl, rfl⟩ := hc
        refine sb w _ _ _ _ rs0 e _ _ LamX.takes0 fun w' σ' st rs' => ?_
        exact q .non w' st rs'.bare (Res.d .non)
      · cases hc
    · obtain ⟨s1, s2, S, s4⟩ := H.st f d py h1 h2
      rw [show 4 * (m + 1) = (4 * m + 3) + 1 by omega]
      refine okC (H.fdf f d h1) S (fun vs H Q E h => h.1) fun cdv A outer s H' vs Q E hcd hr hsp => ?_
      obtain ⟨hlen, w, ds, sto, r, sto', rfl, rs, rp, hc, q⟩ := hsp
      have g : GOk T (Py.cxK lp P m py.own py.cel) (cxOf (L2.CX Pg w0) Pg w0 K mg base (N f) d.qual d.scope (He.fAd K d.at_) cdv A outer s w.H E) (4 * m) G := gok H lv rfl rfl rfl rfl rfl rfl (hr.mono (by omega))
      have ck : COk (cxOf (L2.CX Pg w0) Pg w0 K mg base (N f) d.qual d.scope (He.fAd K d.at_) cdv A outer s w.H E) ⟨d.scope, fun _ => true, N f, G.tbOf f⟩ := ⟨rfl, rfl, rfl, S.nd⟩
      have tk : TbOk T (cxOf (L2.CX Pg w0) Pg w0 K mg base (N f) d.qual d.scope (He.fAd K d.at_) cdv A outer s w.H E) (4 * m) ⟨d.scope, fun _ => true, N f, G.tbOf f⟩ := tbok H hT h1 rfl rfl rfl hcd hr
      unfold bodyC at s4
      rw [h3, if_neg Bool.false_ne_true] at s4
      have sb := bl_ok (ckS_ok g ck tk (passes_of rfl) hlp fuel) s4
      unfold Py.callXD at hc
      rw [Py.callK_succ, h2] at hc
      simp only at hc
      by_cases hl : (ds.map Py.O.d).length = py.ar
      case neg => rw [if_neg hl] at hc; cases hc
      rw [if_pos hl] at hc
      have rs0 : RS T w (L2.start (N f) vs) ⟨Py.start py (ds.map Py.O.d), sto⟩ := by
        refine start_rs rs (by rw [List.length_map]; exact rp.length) s2 ?_ fun i v o' hv ho => ?_
        · rw [hl, s1]
          have := congrArg List.length S.pre
          rw [List.length_take] at this
          omega
        · rw [List.getElem?_map] at ho
          cases hd : ds[i]? with
          | none => rw [hd] at ho; cases ho
          | some x =>
            rw [hd] at ho
            cases ho
            obtain ⟨v', hv', rv⟩ := rp.get hd
            rw [hv] at hv'
            cases hv'
            exact .d rv
      refine ⟨WB (cxOf (L2.CX Pg w0) Pg w0 K mg base (N f) d.qual d.scope (He.fAd K d.at_) cdv A outer s w.H E) d.body, pb_self, ?_⟩
      have tks : Takes (cxOf (L2.CX Pg w0) Pg w0 K mg base (N f) d.qual d.scope (He.fAd K d.at_) cdv A outer s w.H E) (fun cls dv _ H => E cls dv H) := takes_of rfl rfl rfl rfl
      split at hc
      · rename_i o' s' e
        simp only [Option.some.injEq, Prod.mk.injEq] at hc
        obtain ⟨rfl, rfl⟩ := hc
        refine sb w _ _ _ _ rs0 e _ _ tks fun w' σ' st rs' => ?_
        exact fun v r => q w' st rs'.bare v
      · rename_i s' e
        simp only [Option.some.injEq, Prod.mk.injEq] at hc
        obtain ⟨rfl, rfl⟩ := hc
        refine sb w _ _ _ _ rs0 e _ _ tks fun w' σ' st rs' => ?_
        exact q w' st rs'.bare .non
      · rename_i e' s' e
        simp only [Option.some.injEq, Prod.mk.injEq] at hc
        obtain ⟨rfl, rfl⟩ := hc
        refine sb w _ _ _ _ rs0 e _ _ tks fun w' σ' st rs' => ?_
        exact q w' st rs'.bare
      · cases hc
    · obtain ⟨s1, s2, S, s4⟩ := H.st f d py h1 h2
      rw [show 4 * (m + 1) = (4 * m + 3) + 1 by omega]
      refine okC (H.fdf f d h1) S (fun vs H Q E h => h.1) fun cdv A outer s H' vs Q E hcd hr hsp => ?_
      obtain ⟨hlen, w, x, us, ds, sto, l, sto', rfl, rfl, rs, hx, ri, _, rp, hc, q⟩ := hsp
      have g : GOk T (Py.cxK lp P m py.own py.cel) (Cx.nox (cxOf CX0 Pg w0 K mg base (N f) d.qual d.scope (He.fAd K d.at_) cdv A outer s w.H E)) (4 * m) G := gok H lv rfl rfl rfl rfl rfl rfl (hr.mono (by omega))
      have ck : COk (Cx.nox (cxOf CX0 Pg w0 K mg base (N f) d.qual d.scope (He.fAd K d.at_) cdv A outer s w.H E)) ⟨d.scope, fun _ => true, N f, G.tbOf f⟩ := ⟨rfl, rfl, rfl, S.nd⟩
      have tk : TbOk T (Cx.nox (cxOf CX0 Pg w0 K mg base (N f) d.qual d.scope (He.fAd K d.at_) cdv A outer s w.H E)) (4 * m) ⟨d.scope, fun _ => true, N f, G.tbOf f⟩ := tbok H hT h1 rfl rfl rfl hcd hr
      have hini : isIni P f = true := by
        unfold isIni
        obtain ⟨l1, l2, e, _⟩ := List.lookup_eq_some_iff.mp h0
        refine List.any_eq_true.mpr ⟨(qc, f), ?_, by simp⟩
        rw [e]
        simp
      unfold bodyC at s4
      rw [hini, if_pos rfl] at s4
      have sb := blF_ok (ckF_ok g ck tk fuel) s4
      unfold Py.makeD at hc
      rw [h0] at hc
      simp only at hc
      rw [Py.callK_succ, h2] at hc
      simp only at hc
      by_cases hl : (Py.O.ins qc [] :: ds.map Py.O.d).length = py.ar
      case neg => rw [if_neg hl] at hc; cases hc
      rw [if_pos hl] at hc
      have hle : (Py.O.ins qc [] :: ds.map Py.O.d).length ≤ (N f).length := by
        rw [hl, s1]
        have := congrArg List.length S.pre
        rw [List.length_take] at this
        omega
      have rs0 : RS T w (L2.start (N f) (.ref x :: us)) ⟨Py.start py (Py.O.ins qc [] :: ds.map Py.O.d), sto⟩ := by
        refine start_rs rs (by rw [List.length_cons, List.length_cons, List.length_map, rp.length]) s2 hle fun i v o' hv ho => ?_
        cases i with
        | zero =>
          simp only [List.getElem?_cons_zero, Option.some.injEq] at hv ho
          subst hv ho
          exact ri
        | succ i =>
          simp only [List.getElem?_cons_succ] at hv ho
          rw [List.getElem?_map] at ho
          cases hd : ds[i]? with
          | none => rw [hd] at ho; cases ho
          | some y =>
            rw [hd] at ho
            cases ho
            obtain ⟨v', hv', rv⟩ := rp.get hd
            rw [hv] at hv'
            cases hv'
            exact .d rv
      refine ⟨WB (Cx.nox (cxOf CX0 Pg w0 K mg base (N f) d.qual d.scope (He.fAd K d.at_) cdv A outer s w.H E)) d.body, PSs.nox pb_self, ?_⟩
      split at hc
      · rename_i s' e
        split at hc
        · rename_i q' l' he
          split at hc
          · rename_i hq
            subst hq
            simp only [Option.some.injEq, Prod.mk.injEq] at hc
            obtain ⟨rfl, rfl⟩ := hc
            refine sb w _ _ _ rs0 e _ fun w' st rs' => ?_
            have h0' : (L2.start (N f) (.ref x :: us))[0]? = some (some (.ref x)) := rfl
            obtain ⟨v, e1, st2, rs2, r2⟩ := rs'.freezeX he
            rw [h0'] at e1
            cases e1
            exact q (frz w' (.slot 0)) (st.trans st2) rs2.bare r2
          · cases hc
        · cases hc
      · cases hc
end
end PyS
end

section
set_option Elab.async false
set_option linter.all false
set_option maxRecDepth 100000
set_option maxHeartbeats 4000000
/-! ZL: from what the head tells to the law. -/
namespace PyS
open PySem L2
theorem nmOf_inj {l : List Str} (h : l.Nodup) (h2 : l.all (fun x => x.cps.toList.all (· < 0x110000)) = true) : ∀ f g, nmOf l f = nmOf l g → f = g := by
  have up : ∀ (f : Nat) (x : Str), l[f]? = some x → ∀ g : Nat, x ≠ (⟨#[0x110000 + g]⟩ : Str) := by
    intro f x hf g e
    have := List.all_eq_true.mp h2 x (List.mem_of_getElem? hf)
    rw [e] at this
    simp at this
    omega
  intro f g e
  unfold nmOf at e
  cases hf : l[f]? with
  | some x =>
    rw [hf] at e
    cases hg : l[g]? with
    | some y =>
      rw [hg] at e
      have e : x = y := e
      subst e
      obtain ⟨l1, e1⟩ := List.getElem?_eq_some_iff.mp hf
      obtain ⟨l2, e2⟩ := List.getElem?_eq_some_iff.mp hg
      by_cases hlt : f < g
      · exact absurd (e1.trans e2.symm) (List.pairwise_iff_getElem.mp h f g l1 l2 hlt)
      · by_cases hgt : g < f
        · exact absurd (e2.trans e1.symm) (List.pairwise_iff_getElem.mp h g f l2 l1 hgt)
        · omega
    | none =>
      rw [hg] at e
      exact absurd e (up f x hf g)
  | none =>
    rw [hf] at e
    cases hg : l[g]? with
    | some y =>
      rw [hg] at e
      exact absurd e.symm (up g y hg f)
    | none =>
      rw [hg] at e
      simpa using e
def Pk.tb (k : Pk) (K : PySem.W.Frag) : Tb := ⟨K, fun q => (k.cn.lookup q).map (He.ga K), fun f => (k.fn[f]?).map fun d => He.fAd K d.at_, nmOf k.nms, k.nms.length, fun q => (k.xn.lookup q).map (He.ga K), fun f => if k.G.tab = some f then (k.fn[f]?).map fun d => ((He.cT K d.at_).2, (d.qual ++ ".<locals>.") ++ "<lambda>") else none⟩
def scB (N ps : List Str) (sc : Scope) : Bool :=
  (match sc.kind with | .function => true | _ => false) && !sc.isCoroutine && !sc.isGenerator && decide N.Nodup && decide (N.take ps.length = ps) &&
    (ps.all fun x => match sc.names.lookup x with | some .local => true | some .cell => true | _ => false) && sc.names.all fun y => match y.2 with | .free => false | _ => true
theorem scB_ok {N ps : List Str} {sc : Scope} (h : scB N ps sc = true) : FnScope N ps sc := by
  unfold scB at h
  simp only [Bool.and_eq_true, Bool.not_eq_true', decide_eq_true_eq, List.all_eq_true] at h
  obtain ⟨⟨⟨⟨⟨⟨h1, h2⟩, h3⟩, h4⟩, h5⟩, h6⟩, h7⟩ := h
  refine ⟨?_, h2, h3, h4, h5, fun x hx => ?_, fun y hy e => ?_⟩
  · split at h1
    · assumption
    · cases h1
  · have := h6 x hx
    split at this
    · rename_i e; exact .inl e
    · rename_i e; exact .inr e
    · cases this
  · have := h7 y hy
    rw [e] at this
    cases this
/-- one def's text, scope and code -/
def Pk.defC (k : Pk) (f : Nat) : Bool := match k.fn[f]?, k.P.defs[f]? with
  | some d, some py => d.dfl.isEmpty && d.kwd.isEmpty && decide (py.ar = (k.ps.getD f []).length) && decide (py.sl = (k.N.getD f []).length) && scB (k.N.getD f []) (k.ps.getD f []) d.scope && bodyC k.G k.P f d.scope (k.N.getD f []) py.body d.body
  | _, _ => false
def Pk.atC (k : Pk) (y : Str) (f : Nat) : Bool := match k.fn[f]? with
  | some d => decide (d.at_ = (y, none)) && !isIni k.P f && decide (f < k.P.defs.length)
  | none => false
/-- a catcher's text: its parameter, the kept name, the error's, the class -/
def catP : List Stmt → Option (Str × Str × Str × Str)
  | [.Assign [.Name a _] (.Constant .none _ _) _, .Try [.Expr (.Call (.Name b _) [] [] _) _] [.ExceptHandler (some (.Name c _)) (some d) [.Assign [.Name a2 _] (.Name d2 _) _] _] [] [] _, .Return (some (.Name a3 _)) _] => if a2 = a ∧ a3 = a ∧ d2 = d then some (b, a, d, c) else none
  | _ => none
theorem catP_ok {b : List Stmt} {work caught error y : Str} (h : catP b = some (work, caught, error, y)) : ∃ (p0 p1 p2 p3 p4 p5 p6 p7 p8 p9 pa pb pc pd : Pos) (c0 : Nat), b = catchB work caught error y none p0 p1 p2 p3 p4 p5 p6 p7 p8 p9 pa pb pc pd c0 := by
  unfold catP at h
  split at h
  · split at h
    · rename_i hz
      obtain ⟨rfl, rfl, rfl⟩ := hz
      cases h
      exact ⟨_, _, _, _, _, _, _, _, _, _, _, _, _, _, _, rfl⟩
    · cases h
  · cases h
def ndb (x : Str) : Bool := !(x == ("__debug__" : Str)) && !(x == ("__classdict__" : Str))
def Pk.catC (k : Pk) (y : Str) (f : Nat) : Bool := match k.fn[f]? with
  | some d => decide (d.at_ = (y, none)) && decide (d.name = y) && decide (d.qual = y) && (match catP d.body with
    | some (a, b, e, c) => decide (k.ps.getD f [] = [a]) && scB [a, b, e] [a] d.scope && decide (d.scope.names.lookup a = some .local) && decide (d.scope.names.lookup b = some .local) && decide (d.scope.names.lookup e = some .local) && decide (d.scope.names.lookup c = some .globalImplicit) && decide (c ∈ k.xb) && ndb a && ndb b && ndb e && ndb c
    | none => false)
  | none => false
def Pk.allC (k : Pk) : Bool :=
  (k.G.xcs.all fun p => decide (k.xn.lookup p.2 = some p.1)) && (k.G.cats.all fun p => k.catC p.1 p.2) && (
  (k.G.fns.all fun p => k.atC p.1 p.2) && (k.G.kws.all fun p => k.atC p.1 p.2.1) && (k.G.cls.all fun p => decide (k.cn.lookup p.2 = some p.1)) &&
    (k.G.mks.all fun p => decide (k.cn.lookup p.2 = some p.1) && (match k.P.ini.lookup p.2 with
      | some f => (match k.fn[f]? with
        | some d => decide (d.at_ = (p.1, some ("__init__" : Str))) && decide (f < k.P.defs.length)
        | none => false)
      | none => false)) &&
    decide k.nms.Nodup && k.nms.all (fun x => x.cps.toList.all (· < 0x110000)) && decide (k.G.na = k.nms.length))
section
variable {k : Pk} {K : PySem.W.Frag} {h : Heap} {mg : Str → Option Value}
theorem mem_lookup {l : List (Nat × Str)} {q : Nat} {y : Str} (e : l.lookup q = some y) : (q, y) ∈ l := by
  obtain ⟨l1, l2, h, _⟩ := List.lookup_eq_some_iff.mp e
  rw [h]
  simp
theorem clss_of {c : He.SaysD k.fa k.fn K} (hx : k.exA K = true) (ha : k.allC = true) : Clss (k.tb K) := by
  unfold Pk.exA at hx
  rw [Bool.and_eq_true] at hx
  obtain ⟨hx, hy⟩ := hx
  unfold Pk.ex at hx
  unfold Pk.exX at hy
  simp only [Bool.and_eq_true, List.all_eq_true] at hx hy
  obtain ⟨⟨x1, x2⟩, x3⟩ := hx
  unfold Pk.allC at ha
  simp only [Bool.and_eq_true, decide_eq_true_eq] at ha
  obtain ⟨⟨a8, a9⟩, ⟨⟨⟨⟨⟨⟨a1, a2⟩, a3⟩, a4⟩, a5⟩, a6⟩, a7⟩⟩ := ha
  have xt_ : ∀ q C, (k.tb K).xc q = some C → ∃ y, k.xn.lookup q = some y ∧ C = He.ga K y := by
    intro q C e
    have e : (k.xn.lookup q).map (He.ga K) = some C := e
    cases z : k.xn.lookup q with
    | none => rw [z] at e; cases e
    | some y =>
      rw [z] at e
      cases e
      exact ⟨y, rfl, rfl⟩
  have at_ : ∀ q C, (k.tb K).cls q = some C → ∃ y, k.cn.lookup q = some y ∧ C = He.ga K y := by
    intro q C e
    have e : (k.cn.lookup q).map (He.ga K) = some C := e
    cases z : k.cn.lookup q with
    | none => rw [z] at e; cases e
    | some y =>
      rw [z] at e
      cases e
      exact ⟨y, rfl, rfl⟩
  refine ⟨fun q C e => ?_, fun q q' C C' e e' => ?_, fun q c C C' e e' => ?_, fun c q C C' e e' => ?_, fun q C a e ha => ?_, nmOf_inj a5 a6, fun q C f e hf => ?_, fun q C e => ?_, fun q q' C C' e e' => ?_⟩
  · obtain ⟨y, e1, rfl⟩ := xt_ q C e
    obtain ⟨⟨⟨⟨⟨⟨⟨z1, z2⟩, z3⟩, z4⟩, z5⟩, z6⟩, z7⟩, z8⟩ := hy _ (mem_lookup e1)
    obtain ⟨_, _, z9, _⟩ := He.exc_ok (c.facts (f := .exc y) (by
      unfold Pk.fa
      exact List.mem_append_left _ (List.mem_append_right _ (List.mem_map.mpr ⟨_, mem_lookup e1, rfl⟩))))
    exact ⟨He.eqO_ok z1, He.eqO_ok z2, z9, z3, He.eqO_ok z4, He.eqO_ok x1, of_decide_eq_true x2, of_decide_eq_true z5⟩
  · obtain ⟨y, e1, rfl⟩ := xt_ q C e
    obtain ⟨y', e2, rfl⟩ := xt_ q' C' e'
    obtain ⟨⟨⟨⟨⟨⟨⟨z1, z2⟩, z3⟩, z4⟩, z5⟩, z6⟩, z7⟩, z8⟩ := hy _ (mem_lookup e1)
    exact of_decide_eq_true (z8 _ (mem_lookup e2))
  · obtain ⟨y, e1, rfl⟩ := xt_ q C e
    obtain ⟨y', e2, rfl⟩ := at_ c C' e'
    obtain ⟨⟨⟨⟨⟨⟨⟨z1, z2⟩, z3⟩, z4⟩, z5⟩, z6⟩, z7⟩, z8⟩ := hy _ (mem_lookup e1)
    exact of_decide_eq_true (z7 _ (mem_lookup e2))
  · obtain ⟨y, e1, rfl⟩ := at_ c C e
    obtain ⟨y', e2, rfl⟩ := xt_ q C' e'
    obtain ⟨_, z⟩ := x3 _ (mem_lookup e1)
    exact of_decide_eq_true (z _ (mem_lookup e2))
  · obtain ⟨y, e1, rfl⟩ := xt_ q C e
    obtain ⟨⟨⟨⟨⟨⟨⟨z1, z2⟩, z3⟩, z4⟩, z5⟩, z6⟩, z7⟩, z8⟩ := hy _ (mem_lookup e1)
    exact of_decide_eq_true (z6 a ha)
  · obtain ⟨y, e1, rfl⟩ := at_ q C e
    obtain ⟨⟨_, z⟩, _⟩ := x3 _ (mem_lookup e1)
    have hf : f < k.nms.length := hf
    have hm : nmOf k.nms f ∈ k.nms := by
      unfold nmOf
      rw [List.getElem?_eq_getElem hf]
      exact List.getElem_mem hf
    exact He.eqO_ok (z _ hm)
  · obtain ⟨y, e1, rfl⟩ := at_ q C e
    obtain ⟨⟨⟨⟨⟨⟨z1, z2⟩, z3⟩, z4⟩, z5⟩, z6⟩, z7⟩ := x3 _ (mem_lookup e1)
    refine ⟨He.cls_ok (c.facts (f := .cls y) ?_), He.eqO_ok z1, He.eqO_ok x1, of_decide_eq_true x2, of_decide_eq_true z2, fun n hn => of_decide_eq_true (z3 n hn), fun n hn => of_decide_eq_true (z4 n hn)⟩
    unfold Pk.fa
    simp only [List.mem_append, List.mem_map]
    exact .inl (.inl (.inl (.inl (.inl (.inr ⟨_, mem_lookup e1, rfl⟩)))))
  · obtain ⟨y, e1, rfl⟩ := at_ q C e
    obtain ⟨y', e2, rfl⟩ := at_ q' C' e'
    obtain ⟨⟨⟨⟨⟨⟨z1, z2⟩, z3⟩, z4⟩, z5⟩, z6⟩, z7⟩ := x3 _ (mem_lookup e1)
    exact of_decide_eq_true (z5 _ (mem_lookup e2))
end
end PyS
end

section
set_option Elab.async false
set_option linter.all false
set_option maxRecDepth 100000
set_option maxHeartbeats 4000000
/-! ZM: the head's word, and the law's. -/
namespace PyS
open PySem L2
section
variable {k : Pk} {K : PySem.W.Frag} {h : Heap} {mg : Str → Option Value}
/-- how the defs bind what is given -/
def BndAll (k : Pk) : Prop := ∀ f d, k.fn[f]? = some d → ∀ (kV doc pm : Value) (an : Option Addr) (cdv ct : Value) (us : List Value), us.length = (k.ps.getD f []).length →
  bindArgs (PySem.W.fnOf d.name d.qual d.params d.body d.scope .none kV doc pm an cdv ct) ⟨us, []⟩ = pure ((k.ps.getD f []).zip us)
def KwAll (k : Pk) : Prop := ∀ p ∈ k.G.kws, ∀ d, k.fn[p.2.1]? = some d → p.2.2.2.2.length = (k.ps.getD p.2.1 []).length ∧ ∀ (kV doc pm : Value) (an : Option Addr) (cdv ct : Value) (us ws : List Value), us.length = p.2.2.1 → ws.length = p.2.2.2.1.length →
  bindArgs (PySem.W.fnOf d.name d.qual d.params d.body d.scope .none kV doc pm an cdv ct) ⟨us, p.2.2.2.1.zip ws⟩ = pure ((k.ps.getD p.2.1 []).zip (pick p.2.2.2.2 Value.none (us ++ ws)))
theorem hd_of {w : World} (X : K.In h) (Gm : h.Ns mainGlobals mg) (c : He.SaysX k.fa k.fn [] k.tf k.exA w h K) (ha : k.allC = true) (hn : k.G.nm = nmOf k.nms) (hd : ∀ f, f < k.fn.length → k.defC f = true) (bnd : BndAll k) (kwb : KwAll k) :
    ∃ fd, Hd (k.tb K) K mg k.G k.P k.fn fd (fun f => k.ps.getD f []) (fun f => k.N.getD f []) := by
  have cd : He.SaysD k.fa k.fn K := c.t.d
  have ex : ∀ f : Nat, ∃ fd : FuncData, ∀ d : He.DefD, k.fn[f]? = some d → FunD K d.name d.qual d.params d.body d.scope (d.dvs K) (d.kws K) (He.fAd K d.at_) fd := by
    intro f
    cases e : k.fn[f]? with
    | none => exact ⟨default, fun d h => by cases h⟩
    | some d =>
      obtain ⟨fd, F⟩ := cd.def_ f e
      exact ⟨fd, fun d' h => by cases h; exact F⟩
  have facts : ∀ f, f < k.fn.length → ∃ d py, k.fn[f]? = some d ∧ k.P.defs[f]? = some py ∧ d.dfl = [] ∧ d.kwd = [] ∧ py.ar = (k.ps.getD f []).length ∧ py.sl = (k.N.getD f []).length ∧ FnScope (k.N.getD f []) (k.ps.getD f []) d.scope ∧ bodyC k.G k.P f d.scope (k.N.getD f []) py.body d.body = true := by
    intro f hf
    have := hd f hf
    unfold Pk.defC at this
    split at this
    · rename_i d py e1 e2
      simp only [Bool.and_eq_true, decide_eq_true_eq, List.isEmpty_iff] at this
      obtain ⟨⟨⟨⟨⟨h1, h2⟩, h3⟩, h4⟩, h5⟩, h6⟩ := this
      exact ⟨d, py, e1, e2, h1, h2, h3, h4, scB_ok h5, h6⟩
    · cases this
  have lt : ∀ {f d}, k.fn[f]? = some d → f < k.fn.length := fun e => (List.getElem?_eq_some_iff.mp e).1
  have F0 : ∀ f d, k.fn[f]? = some d → FunD K d.name d.qual d.params d.body d.scope [] [] (He.fAd K d.at_) (Classical.choose (ex f)) := by
    intro f d e
    have F := Classical.choose_spec (ex f) d e
    obtain ⟨d', py, e1, _, z1, z2, _⟩ := facts f (lt e)
    rw [e] at e1
    cases e1
    unfold He.DefD.dvs He.DefD.kws at F
    rw [z1, z2] at F
    exact F
  have ha' := ha
  unfold Pk.allC at ha
  simp only [Bool.and_eq_true, decide_eq_true_eq, List.all_eq_true] at ha
  obtain ⟨⟨a8, a9⟩, ⟨⟨⟨⟨⟨⟨a1, a2⟩, a3⟩, a4⟩, a5⟩, a6⟩, a7⟩⟩ := ha
  have fact : ∀ f : He.Fa, f ∈ k.fa → f.ok K = true := fun f hf => cd.facts hf
  have at_ : ∀ {y f}, k.atC y f = true → ∃ d py, k.fn[f]? = some d ∧ k.P.defs[f]? = some py ∧ He.fAd K d.at_ = He.ga K y ∧ isIni k.P f = false := by
    intro y f e
    unfold Pk.atC at e
    split at e
    · rename_i d ed
      simp only [Bool.and_eq_true, Bool.not_eq_true', decide_eq_true_eq] at e
      obtain ⟨⟨e1, e2⟩, e3⟩ := e
      exact ⟨d, _, ed, List.getElem?_eq_getElem e3, by rw [e1]; rfl, e2⟩
    · cases e
  refine ⟨fun f => Classical.choose (ex f), ⟨rfl, clss_of (c := cd) c.more ha', hn.symm, a7.symm, fun y f e => ?_, fun y f n ks pm e => ?_, fun y i e => ?_, fun y q e => ?_, fun y q e => ?_, fun y e => ?_, fun y q e => ?_, fun y e => ?_, fun f d e1 e2 => ?_, fun f d e => ?_, F0, fun f d py e1 e2 => ?_⟩⟩
  · obtain ⟨d, py, e1, e2, e3, e4⟩ := at_ (a1 _ e)
    refine ⟨d, py, e1, e2, ?_, ?_, e4⟩
    · rw [e3]
      refine He.glo_ok X Gm (fact _ ?_)
      unfold Pk.fa
      simp only [List.mem_append, List.mem_map]
      exact .inl (.inl (.inl (.inl (.inl (.inl (.inl (.inl (.inl (.inl (.inl (.inr ⟨_, e, rfl⟩)))))))))))
    · show (k.fn[f]?).map _ = _
      rw [e1]
      rfl
  · obtain ⟨d, py, e1, e2, e3, e4⟩ := at_ (a2 _ e)
    obtain ⟨k1, k2⟩ := kwb _ e d e1
    refine ⟨d, py, e1, e2, ?_, e4, ?_, k1⟩
    · rw [e3]
      refine He.glo_ok X Gm (fact _ ?_)
      unfold Pk.fa
      simp only [List.mem_append, List.mem_map]
      exact .inl (.inl (.inl (.inl (.inl (.inl (.inl (.inl (.inl (.inl (.inr ⟨_, e, rfl⟩))))))))))
    · intro s us ws l1 l2
      obtain ⟨oc, od, dV, kV, doc, pmv, an, cdv, ct, osl, e5, lk, hcd, hD, hK⟩ := (F0 f d e1).ex
      rcases hD with ⟨_, rfl⟩ | ⟨z, _⟩
      · show BindsTo s (Classical.choose (ex f)) _ _
        rw [e5]
        exact .of_eq (k2 kV doc pmv an cdv ct us ws l1 l2)
      · exact absurd rfl z
  · refine He.int_ok X Gm (fact (.int y i) ?_)
    unfold Pk.fa
    simp only [List.mem_append, List.mem_map]
    exact .inl (.inl (.inl (.inl (.inl (.inl (.inl (.inl (.inl (.inr ⟨_, e, rfl⟩)))))))))
  · refine ⟨He.ga K y, He.glo_ok X Gm (fact _ ?_), ?_⟩
    · unfold Pk.fa
      simp only [List.mem_append, List.mem_map]
      exact .inl (.inl (.inl (.inl (.inl (.inl (.inl (.inl (.inr ⟨_, e, rfl⟩))))))))
    · show (k.cn.lookup q).map _ = _
      rw [a3 _ e]
      rfl
  · obtain ⟨b1, b2⟩ := a4 _ e
    split at b2
    · rename_i f ef
      split at b2
      · rename_i d ed
        simp only [Bool.and_eq_true, decide_eq_true_eq] at b2
        refine ⟨He.ga K y, f, d, _, ef, ed, List.getElem?_eq_getElem b2.2, He.glo_ok X Gm (fact _ ?_), ?_, ?_⟩
        · unfold Pk.fa
          simp only [List.mem_append, List.mem_map]
          exact .inl (.inl (.inl (.inl (.inl (.inl (.inr ⟨_, e, rfl⟩))))))
        · show (k.cn.lookup q).map _ = _
          rw [b1]
          rfl
        · rw [b2.1]
          refine He.mkr_ok (fact (.mkr y) ?_)
          unfold Pk.fa
          simp only [List.mem_append, List.mem_map]
          exact .inl (.inl (.inl (.inl (.inl (.inl (.inl (.inr ⟨_, e, rfl⟩)))))))
      · cases b2
    · cases b2
  · refine He.free_ok X Gm (fact _ ?_)
    unfold Pk.fa
    simp only [List.mem_append, List.mem_map]
    exact .inl (.inl (.inl (.inl (.inl (.inl (.inl (.inl (.inl (.inl (.inl (.inl ⟨_, e, rfl⟩)))))))))))
  · have hl := a8 _ e
    have hx := He.exc_ok (fact (.exc y) (by
      unfold Pk.fa
      exact List.mem_append_left _ (List.mem_append_right _ (List.mem_map.mpr ⟨_, mem_lookup hl, rfl⟩))))
    refine ⟨He.ga K y, He.glo_ok X Gm (fact _ ?_), ?_, hx.1, hx.2.1, hx.2.2.1, hx.2.2.2⟩
    · unfold Pk.fa
      simp only [List.mem_append, List.mem_map]
      exact .inl (.inl (.inl (.inl (.inr ⟨_, e, rfl⟩))))
    · show (k.xn.lookup q).map _ = _
      rw [hl]
      rfl
  · obtain ⟨⟨y', f⟩, he, rfl⟩ := List.mem_map.mp e
    have hc := a9 _ he
    refine ⟨He.ga K y', He.glo_ok X Gm (fact _ ?_), ?_⟩
    · unfold Pk.fa
      simp only [List.mem_append, List.mem_map]
      exact .inl (.inl (.inl (.inr ⟨_, he, rfl⟩)))
    · unfold Pk.catC at hc
      split at hc
      · rename_i d ed
        simp only [Bool.and_eq_true, decide_eq_true_eq] at hc
        obtain ⟨⟨⟨c1, c2⟩, c3⟩, c4⟩ := hc
        split at c4
        · rename_i wk cg er ba ecp
          simp only [Bool.and_eq_true, decide_eq_true_eq, ndb, Bool.not_eq_true'] at c4
          obtain ⟨⟨⟨⟨⟨⟨⟨⟨⟨⟨d1, d2⟩, d3⟩, d4⟩, d5⟩, d6⟩, d7⟩, d8⟩, d9⟩, d10⟩, d11⟩ := c4
          obtain ⟨p0, p1, p2, p3, p4, p5, p6, p7, p8, p9, pa, pb, pc, pd, c0, eb⟩ := catP_ok ecp
          have F1 := F0 f d ed
          have B1 := F1.bindsN (bnd f d ed)
          have kp := F1.kp
          obtain ⟨oc, od, dV, kV, doc, pmv, an, cdv, ct, osl, e5, lk, hcd, hD, hK⟩ := F1.ex
          have ea : He.fAd K d.at_ = He.ga K y' := by rw [c1]; rfl
          rw [ea] at lk kp
          rw [e5] at lk B1
          rw [c2, c3, eb] at lk B1
          rw [d1] at B1
          rw [c3] at hcd
          refine ⟨⟨wk, cg, er, ba, He.ga K ba, d.scope, cdv, p0, p1, p2, p3, p4, p5, p6, p7, p8, p9, pa, pb, pc, pd, c0, ⟨kp, ⟨_, _, _, _, _, _, _, _, _, _, lk, B1⟩, hcd⟩, scB_ok d2, .inl d3, d4, d5, d6, He.glo_ok X Gm (fact _ ?_), d11.1, d8.1, d8.2, d9.1, d9.2, d10.1, d10.2, fun q C hq => ?_⟩⟩
          · unfold Pk.fa
            simp only [List.mem_append, List.mem_map]
            exact .inl (.inl (.inr ⟨_, d7, rfl⟩))
          · have hq : (k.xn.lookup q).map (He.ga K) = some C := hq
            cases z : k.xn.lookup q with
            | none => rw [z] at hq; cases hq
            | some y2 =>
              rw [z] at hq
              cases hq
              refine He.exm_ok (fact (.exm y2 ba true) ?_)
              unfold Pk.fa
              exact List.mem_append_right _ (List.mem_flatMap.mpr ⟨_, mem_lookup z, List.mem_map.mpr ⟨_, d7, rfl⟩⟩)
        · cases c4
      · cases hc
  · show (if k.G.tab = some f then (k.fn[f]?).map _ else none) = _
    rw [if_pos e1, e2]
    rfl
  · exact (F0 f d e).bindsN (bnd f d e)
  · obtain ⟨d', py', g1, g2, _, _, g3, g4, g5, g6⟩ := facts f (lt e1)
    rw [e1] at g1
    cases g1
    rw [e2] at g2
    cases g2
    exact ⟨g3, g4, g5, g6⟩
theorem reps_ints {G : Hp} {φ : List Addr} {T : Tb} : ∀ ns : List Int, Reps T G φ (ns.map V.int) (ns.map Py.D.int)
  | [] => .nil
  | n :: ns => .cons (.int n) (reps_ints ns)
/-- the law's own promise -/
theorem law_sp {T : Tb} {call : Nat → List Py.D → List Py.O → Option (Py.O × List Py.O)} {f : Nat} {H : Hp} {a : Addr} {ns : List Int} {E : XK} {sto : List Py.O} (hS : SqL T.K H a (ns.map V.int)) (hc : call f [.scr (ns.map .int)] [] = some (.d (.bl true), sto)) :
    spF T call f 1 [.ref a] H (fun v _ => v = .bl true) E := by
  refine ⟨rfl, ⟨H, [], H, fun _ => none⟩, _, [], _, sto, rfl, ⟨⟨fun _ _ h => h, fun _ _ h => by cases h⟩, fun i o h => by simp at h, fun n o h => by simp at h, rfl, rfl⟩, .cons (.scr hS (reps_ints ns)) .nil, hc, fun v w' _ _ r => ?_⟩
  have := r.of_d
  cases this
  rfl
theorem law_sp1 {T : Tb} {call : Nat → List Py.D → List Py.O → Option (Py.O × List Py.O)} {f g : Nat} {H : Hp} {a P : Addr} {q : Str} {ns : List Int} {E : XK} {sto : List Py.O} (ht : T.tb g = some (P, q)) (hP : H P = some (.tbl #[])) (hS : SqL T.K H a (ns.map V.int)) (hc : call f [.scr (ns.map .int)] [.tab g] = some (.d (.bl true), sto)) :
    spF T call f 1 [.ref a] H (fun v _ => v = .bl true) E := by
  have gl : ∀ b o, b ≠ P → H b = some o → (fun c => if c = P then none else H c : Hp) b = some o := fun b o n h => by
    show (if b = P then none else H b) = some o
    rw [if_neg n]
    exact h
  have hS' : SqL T.K (fun c => if c = P then none else H c) a (ns.map V.int) := by
    rcases hS with h | h
    · rcases h with h | ⟨o, h⟩
      · exact .inl (.inl (gl _ _ (fun z => by rw [z, hP] at h; cases h) h))
      · exact .inl (.inr ⟨o, gl _ _ (fun z => by rw [z, hP] at h; cases h) h⟩)
    · exact .inr h
  refine ⟨rfl, ⟨fun c => if c = P then none else H c, [P], H, fun c => if c = P then some (.cell 0, []) else none⟩, _, [.tab g], _, sto, rfl, ⟨⟨fun b o h => ?_, fun b r h => ?_⟩, fun i o h => by simp at h, fun n o h => ?_, rfl, rfl⟩, .cons (.scr hS' (reps_ints ns)) .nil, hc, fun v w' _ _ r => ?_⟩
  · have h : (if b = P then none else H b) = some o := h
    split at h
    · cases h
    · exact h
  · have h : (if b = P then some (Root.cell 0, ([] : List Nat)) else none) = some r := h
    split at h
    · rename_i e
      subst e
      refine ⟨?_, fun z => ?_⟩
      · show (if b = b then none else H b) = none
        rw [if_pos rfl]
      · rw [show H b = none from z] at hP
        cases hP
    · cases h
  · cases n with
    | zero =>
      cases h
      refine ⟨P, rfl, .tab ht ?_ hP ⟨True.intro, fun pos cv z => ?_⟩⟩
      · show (if P = P then some (Root.cell 0, ([] : List Nat)) else none) = _
        rw [if_pos rfl]
      · have z : codeAmong pos [] = some cv := z
        simp [codeAmong] at z
    | succ n => simp at h
  · have := r.of_d
    cases this
    rfl
theorem lp_ok : LpOk Py.loop := by
  intro f s r h
  unfold Py.loop at h
  split at h
  · rename_i hx
    have := hx.choose_spec
    rw [Option.some.inj h] at this
    exact this
  · cases h
/-- the tables at the entry -/
def Pk.sto (k : Pk) : List Py.O := match k.G.tab with
  | some f => [.tab f]
  | none => []
/-- the whole: what is left is plain -/
theorem law_walk {l : PySem.W.OpenLaw} {q : Program} {loose : List Str} {d : DefRec} {XP : (Str → Option Value) → Heap → Prop} {n f m : Nat} {dd : He.DefD} {py : Py.Def} (hn : l.most = some n) (hn2 : n ≤ sizeLine) (hdf : d.params.defaults = []) (hm : m ≤ 100)
    (hcA : Room (4 * m) callerA) (hnm : d.name = ("law" : Str)) (htb : ∀ g, k.G.tab = some g → g < k.fn.length)
    (ha : k.allC = true) (hg : k.G.nm = nmOf k.nms) (hd : ∀ f, f < k.fn.length → k.defC f = true) (bnd : BndAll k) (kwb : KwAll k)
    (e1 : k.fn[f]? = some dd) (e2 : k.P.defs[f]? = some py) (e3 : isIni k.P f = false) (e4 : dd.at_ = (("law" : Str), none)) (e5 : k.ps.getD f [] = [("script" : Str)]) (e6 : (("law" : Str), f) ∈ k.G.fns)
    (plain : ∀ ns : List Int, ns.length ≤ n → ∃ sto, Py.callD Py.loop k.P m f [.scr (ns.map .int)] k.sto = some (.d (.bl true), sto)) :
    PySem.W.WalkO q loose XP (He.hookX 4 k.fa k.fn [] k.tf k.exA).says l.row.toRowW d [] (fun f vs => PySem.call f vs) := by
  refine LamX.walk_ofTsE (l := l) (n := n) (k := 4 * m) (x := "script") (CX := fun _ => L2.CX0) hn hn2 hdf hcA ?_ (fun _ _ _ _ _ z => z)
  intro w mg fa h Y Gm hmg
  obtain ⟨K, KX, c⟩ := Y
  obtain ⟨fd, H⟩ := hd_of (k := k) KX Gm c ha hg hd bnd kwb
  obtain ⟨d', py', g1, g2, g3, g4, g5⟩ := H.fns _ _ e6
  rw [e1] at g1
  cases g1
  rw [hnm] at hmg
  rw [hmg] at g3
  cases g3
  refine ⟨K, KX, fd f, k.tf.map (He.cT K), spF (k.tb K) (Py.callD Py.loop k.P m) f 1, fun p hp => ?_, fun p hp => ?_, fun p hp => ?_, fun s u => ?_, fun Hh a ns hl _ hT hS => ?_, fun base hb1 hb2 hb3 => ?_⟩
  · obtain ⟨z, hz, rfl⟩ := List.mem_map.mp hp
    exact c.empty z hz
  · obtain ⟨z, hz, rfl⟩ := List.mem_map.mp hp
    exact c.out z hz
  · obtain ⟨z, hz, rfl⟩ := List.mem_map.mp hp
    exact PySem.W.codeHd_of_K KX (c.hd z hz)
  · have F := (H.fdf f dd e1)
    have b := FunD.bindsA (ps := ["script"]) F (by
      have := bnd f dd e1
      rw [e5] at this
      exact this) s [u] rfl
    exact b
  · obtain ⟨sto, hc⟩ := plain ns hl
    cases ht : k.G.tab with
    | none =>
      have es : k.sto = [] := by unfold Pk.sto; rw [ht]
      rw [es] at hc
      exact law_sp hS hc
    | some g =>
      have es : k.sto = [.tab g] := by unfold Pk.sto; rw [ht]
      rw [es] at hc
      have hgl := htb g ht
      have eg : k.fn[g]? = some k.fn[g] := List.getElem?_eq_getElem hgl
      have etf : k.tf = [k.fn[g].at_] := by
        unfold Pk.tf
        rw [ht]
        show (match k.fn[g]? with | some d => [d.at_] | none => []) = _
        rw [eg]
      exact law_sp1 (H.tab g _ ht eg) (hT (He.cT K k.fn[g].at_) (by rw [etf]; simp)) hS hc
  · have lv := lv_ok (Pg := l.prog) (w0 := w) (base := base) H (fun g d' ht hg' => by
      have etf : k.tf = [d'.at_] := by
        unfold Pk.tf
        rw [ht]
        show (match k.fn[g]? with | some d => [d.at_] | none => []) = _
        rw [hg']
      exact hb3 (He.cT K d'.at_) (by rw [etf]; simp)) lp_ok m
    have := lv.f f dd py e1 e2 e3
    simp only [e5] at this
    exact this
end
end PyS
end

section
set_option linter.all false
set_option Elab.async false
namespace Py
/-! P0: the interpreter, for simp. -/
theorem cxK_call {lp : (St → Option (St ⊕ (Out × St))) → St → Option (Out × St)} {P : Prog} {k : Nat} {o l : List Nat} : (cxK lp P k o l).call = callD lp P k := rfl
theorem cxK_callX {lp : (St → Option (St ⊕ (Out × St))) → St → Option (Out × St)} {P : Prog} {k : Nat} {o l : List Nat} : (cxK lp P k o l).callX = callXD lp P k := rfl
theorem cxK_make {lp : (St → Option (St ⊕ (Out × St))) → St → Option (Out × St)} {P : Prog} {k : Nat} {o l : List Nat} : (cxK lp P k o l).make = makeD lp P k := rfl
theorem cxK_lp {lp : (St → Option (St ⊕ (Out × St))) → St → Option (Out × St)} {P : Prog} {k : Nat} {o l : List Nat} : (cxK lp P k o l).lp = lp := rfl
theorem cxK_own {lp : (St → Option (St ⊕ (Out × St))) → St → Option (Out × St)} {P : Prog} {k : Nat} {o l : List Nat} : (cxK lp P k o l).own = o := rfl
theorem cxK_cel {lp : (St → Option (St ⊕ (Out × St))) → St → Option (Out × St)} {P : Prog} {k : Nat} {o l : List Nat} : (cxK lp P k o l).cel = l := rfl
/-- a def's end -/
def fin : Option (Out × St) → Option (O × List O)
  | some (.ret o, s) => some (o, s.sto)
  | some (.nx, s) => some (.d .non, s.sto)
  | _ => none
theorem callD_at {lp : (St → Option (St ⊕ (Out × St))) → St → Option (Out × St)} {P : Prog} {k f : Nat} {ds : List D} {sto : List O} {d : Def} (h : P.defs[f]? = some d) (h2 : ds.length = d.ar) :
    callD lp P (k + 1) f ds sto = fin (exs (cxK lp P k d.own d.cel) d.body ⟨start d (ds.map .d), sto⟩) := by
  unfold callD
  rw [callK_succ, h]
  simp only [List.length_map, h2, if_true]
  rfl
end Py
namespace Py
section
variable {c : Cx}
/-! ### loops -/
theorem iter_det {α β : Type} {f : α → Option (α ⊕ β)} : ∀ {n m : Nat} {a : α} {b b' : β}, iter f n a = some b → iter f m a = some b' → b = b'
  | 0, _, _, _, _, h, _ => by cases h
  | _ + 1, 0, _, _, _, _, h => by cases h
  | n + 1, m + 1, a, b, b', h, h' => by
    rw [iter] at h h'
    cases e : f a with
    | none => rw [e] at h; cases h
    | some z =>
      rw [e] at h h'
      cases z with
      | inl a' => exact iter_det h h'
      | inr y => simp only [Option.some.injEq] at h h'; rw [← h, ← h']
theorem loop_of {α β : Type} {f : α → Option (α ⊕ β)} {n : Nat} {a : α} {b : β} (h : iter f n a = some b) : loop f a = some b := by
  have hx : ∃ b, ∃ n, iter f n a = some b := ⟨b, n, h⟩
  unfold loop
  rw [dif_pos hx]
  obtain ⟨m, hm⟩ := hx.choose_spec
  exact congrArg some (iter_det hm h)
theorem loop_go {α β : Type} {f : α → Option (α ⊕ β)} {a a' : α} {b : β} (h : f a = some (.inl a')) (h2 : ∃ n, iter f n a' = some b) : ∃ n, iter f n a = some b := by
  obtain ⟨n, h2⟩ := h2
  exact ⟨n + 1, by rw [iter, h]; exact h2⟩
theorem loop_end {α β : Type} {f : α → Option (α ⊕ β)} {a : α} {b : β} (h : f a = some (.inr b)) : ∃ n, iter f n a = some b := ⟨1, by rw [iter, h]⟩
/-- a for whose turns all go on -/
theorem for_fold {α : Type} {f : D → St → Option (Out × St)} (R : α → St → Prop) (step : α → D → α) : ∀ {xs : List D} {a : α} {s : St}, (∀ a x s, x ∈ xs → R a s → ∃ s', (f x s = some (.nx, s') ∨ f x s = some (.cont, s')) ∧ R (step a x) s') → R a s →
    ∃ s', forLoop f xs s = some (.nx, s') ∧ R (xs.foldl step a) s'
  | [], a, s, _, h => ⟨s, rfl, h⟩
  | x :: xs, a, s, hs, h => by
    obtain ⟨s1, h1, h2⟩ := hs a x s List.mem_cons_self h
    obtain ⟨s2, h3, h4⟩ := for_fold R step (fun a y s hy => hs a y s (List.mem_cons_of_mem _ hy)) h2
    refine ⟨s2, ?_, h4⟩
    rw [forLoop]
    rcases h1 with h1 | h1 <;> rw [h1] <;> exact h3
/-! ### comprehensions -/
theorem wipe_len (env : List (Option O)) : ∀ vs : List Nat, (wipe env vs).length = env.length
  | [] => rfl
  | v :: vs => by unfold wipe; rw [List.length_set, wipe_len env vs]
theorem putBack_wipe (e old : List (Option O)) : ∀ vs : List Nat, putBack (wipe e vs) old vs = putBack e old vs := by
  have key : ∀ (vs us : List Nat), (∀ v ∈ us, v ∈ vs) → putBack (wipe e us) old vs = putBack e old vs := by
    intro vs us h
    apply List.ext_getElem?
    intro j
    have g : ∀ (e' : List (Option O)) (ws : List Nat), (putBack e' old ws)[j]? = if j ∈ ws ∧ j < e'.length then some (dOnly old j) else e'[j]? := by
      intro e' ws
      induction ws with
      | nil => simp [putBack]
      | cons w ws ih =>
        have hl : (putBack e' old ws).length = e'.length := by
          clear ih
          induction ws with
          | nil => rfl
          | cons x xs ih => unfold putBack; rw [List.length_set, ih]
        unfold putBack
        rw [List.getElem?_set, hl, ih]
        by_cases e1 : w = j
        · subst e1
          by_cases hl : w < e'.length <;> simp [hl]
        · simp [e1, Ne.symm e1]
    have w1 : ∀ ws : List Nat, (wipe e ws)[j]? = if j ∈ ws ∧ j < e.length then some none else e[j]? := by
      intro ws
      induction ws with
      | nil => simp [wipe]
      | cons w ws ih =>
        unfold wipe
        rw [List.getElem?_set, wipe_len, ih]
        by_cases e1 : w = j
        · subst e1
          by_cases hl : w < e.length <;> simp [hl]
        · simp [e1, Ne.symm e1]
    rw [g, g, wipe_len, w1]
    by_cases hj : j ∈ vs ∧ j < e.length
    · rw [if_pos hj, if_pos hj]
    · rw [if_neg hj, if_neg hj, if_neg fun q => hj ⟨h j q.1, q.2⟩]
  exact fun vs => key vs vs fun _ h => h
/-- a comprehension whose turns change nothing: G tells what each item gives (none: left out) -/
theorem lc_run {t : Tg} {cs : List E} {el : E} {W : List (Option O)} {sto : List O} {G : D → Option D} : ∀ {xs acc : List D} {e : List (Option O)}, wipe e t.slots = W →
    (∀ x ∈ xs, ∃ env b s2, bindT t x W = some env ∧ evT c cs ⟨env, sto⟩ = some (b, s2) ∧ ((b = true ∧ ∃ o s3, ev c false el s2 = some (o, s3) ∧ G x = some o.toD ∧ s3.sto = sto ∧ wipe s3.env t.slots = W) ∨ (b = false ∧ G x = none ∧ s2.sto = sto ∧ wipe s2.env t.slots = W))) →
    ∃ e', wipe e' t.slots = W ∧ lcLoop (fun x s => match bindT t x (wipe s.env t.slots) with
          | some env => match evT c cs { s with env := env } with
            | some (true, s2) => match ev c false el s2 with
              | some (o, s3) => some (some o.toD, s3)
              | none => none
            | some (false, s2) => some (none, s2)
            | none => none
          | none => none) xs acc ⟨e, sto⟩ = some (acc.reverse ++ xs.filterMap G, ⟨e', sto⟩)
  | [], acc, e, hw, _ => ⟨e, hw, by simp [lcLoop]⟩
  | x :: xs, acc, e, hw, h => by
    obtain ⟨env, b, s2, h1, h2, h3⟩ := h x List.mem_cons_self
    have ht : ∀ y ∈ xs, _ := fun y hy => h y (List.mem_cons_of_mem _ hy)
    rcases h3 with ⟨rfl, o, s3, h4, h5, h6, h7⟩ | ⟨rfl, h5, h6, h7⟩
    · obtain ⟨e3, sto3⟩ := s3
      simp only at h6 h7
      subst h6
      obtain ⟨e', k1, k2⟩ := lc_run (acc := o.toD :: acc) h7 ht
      refine ⟨e', k1, ?_⟩
      rw [lcLoop]
      simp only [hw, h1, h2, h4]
      rw [k2, List.filterMap_cons, h5]
      simp
    · obtain ⟨e3, sto3⟩ := s2
      simp only at h6 h7
      subst h6
      obtain ⟨e', k1, k2⟩ := lc_run (acc := acc) h7 ht
      refine ⟨e', k1, ?_⟩
      rw [lcLoop]
      simp only [hw, h1, h2]
      rw [k2, List.filterMap_cons, h5]
theorem ev_lc {m : Bool} {t : Tg} {k : Option Itk} {es cs : List E} {el : E} {s s1 : St} {ds xs : List D} (G : D → Option D) (h1 : evs c es s = some (ds, s1)) (h2 : yields k ds = some xs) (hl : lenOk (xs.filterMap G).length = true)
    (h : ∀ x ∈ xs, ∃ env b s2, bindT t x (wipe s1.env t.slots) = some env ∧ evT c cs ⟨env, s1.sto⟩ = some (b, s2) ∧ ((b = true ∧ ∃ o s3, ev c false el s2 = some (o, s3) ∧ G x = some o.toD ∧ s3.sto = s1.sto ∧ wipe s3.env t.slots = wipe s1.env t.slots) ∨ (b = false ∧ G x = none ∧ s2.sto = s1.sto ∧ wipe s2.env t.slots = wipe s1.env t.slots))) :
    ev c m (.lc t k es cs el) s = some (.lst ((xs.filterMap G).map .d), ⟨putBack s1.env s1.env t.slots, s1.sto⟩) := by
  obtain ⟨e', k1, k2⟩ := lc_run (acc := []) (e := s1.env) rfl h
  rw [ev]
  simp only [h1, h2]
  refine (congrArg (fun (z : Option (List D × St)) => match z with
    | some (ys, s2) => if lenOk ys.length then some (O.lst (ys.map .d), { s2 with env := putBack s2.env s1.env t.slots }) else none
    | none => none) k2).trans ?_
  simp only [List.reverse_nil, List.nil_append, hl, if_true]
  rw [← putBack_wipe e', k1, putBack_wipe]
end
end Py
end

section
set_option linter.all false
set_option Elab.async false
set_option autoImplicit true
/-! Q0: what a run must bring about, rule by rule. -/
namespace Py
/-- stands beside what is not to be rewritten -/
inductive Tk {α : Type} (Q : α → Prop) : Type
  | mk
/-- x ends, and Q holds of its end -/
def Ends {α : Type} (x : Option α) (Q : α → Prop) (_t : Tk Q := Tk.mk) : Prop := ∃ a, x = some a ∧ Q a
theorem ends_congr {α : Type} {x y : Option α} {Q : α → Prop} (h : x = y) : Ends x Q = Ends y Q := by rw [h]
@[simp] theorem ends_some {α : Type} {a : α} {Q : α → Prop} : Ends (some a) Q ↔ Q a := by simp [Ends]
@[simp] theorem ends_none {α : Type} {Q : α → Prop} : Ends none Q ↔ False := by simp [Ends]
@[simp] theorem ends_map {α β : Type} {x : Option α} {f : α → β} {Q : β → Prop} : Ends (x.map f) Q ↔ Ends x fun a => Q (f a) := by cases x <;> simp
@[simp] theorem ends_ite {α : Type} {p : Prop} [Decidable p] {x : Option α} {Q : α → Prop} : Ends (if p then x else none) Q ↔ p ∧ Ends x Q := by by_cases h : p <;> simp [h]
@[simp] theorem ends_ite' {α : Type} {p : Prop} [Decidable p] {x : Option α} {Q : α → Prop} : Ends (if p then none else x) Q ↔ ¬p ∧ Ends x Q := by by_cases h : p <;> simp [h]
@[simp] theorem lenOk_of {n : Nat} (h : n ≤ 1000000) : lenOk n = true := by
  unfold lenOk
  exact decide_eq_true (Nat.le_trans h (by decide))
@[simp] theorem bind_nm {i : Nat} {x : D} {env : List (Option O)} : bindT (.nm i) x env = some (env.set i (some (.d x))) := by rfl
@[simp] theorem bind_tup {l : List Tg} {xs : List D} {env : List (Option O)} : bindT (.tup l) (.tup xs) env = bindT.go l xs env := by rfl
theorem ends_eq {α : Type} {x : Option α} {b : α} (h : Ends x fun a => a = b) : x = some b := by
  obtain ⟨a, h1, h2⟩ := h
  rw [h1, h2]
theorem ends_of {α : Type} {x : Option α} {b : α} {Q : α → Prop} (h : x = some b) (h2 : Q b) : Ends x Q := ⟨b, h, h2⟩
theorem ends_mono {α : Type} {x : Option α} {Q R : α → Prop} (h : Ends x Q) (h2 : ∀ a, Q a → R a) : Ends x R := by
  obtain ⟨a, h1, h3⟩ := h
  exact ⟨a, h1, h2 a h3⟩
/-- o is a bool, of which Q holds -/
def IsB (o : O) (Q : Bool → Prop) (_t : Tk Q := Tk.mk) : Prop := match o with
  | .d (.bl b) => Q b
  | _ => False
theorem isB_congr {x y : O} {Q : Bool → Prop} (h : x = y) : IsB x Q = IsB y Q := by rw [h]
@[simp] theorem isB_bl {b : Bool} {Q : Bool → Prop} : IsB (.d (.bl b)) Q ↔ Q b := by simp only [IsB]
@[simp] theorem isB_lst {l : List O} {Q : Bool → Prop} : IsB (.lst l) Q ↔ False := by simp only [IsB]
@[simp] theorem isB_dic {l : List (D × O)} {Q : Bool → Prop} : IsB (.dic l) Q ↔ False := by simp only [IsB]
@[simp] theorem isB_ins {n : Nat} {l : List (Nat × O)} {Q : Bool → Prop} : IsB (.ins n l) Q ↔ False := by simp only [IsB]
@[simp] theorem isB_non  {Q : Bool → Prop} : IsB (.d .non) Q ↔ False := by simp only [IsB]
@[simp] theorem isB_int {i : Int} {Q : Bool → Prop} : IsB (.d (.int i)) Q ↔ False := by simp only [IsB]
@[simp] theorem isB_str {i : List Nat} {Q : Bool → Prop} : IsB (.d (.str i)) Q ↔ False := by simp only [IsB]
@[simp] theorem isB_ty {i : String} {Q : Bool → Prop} : IsB (.d (.ty i)) Q ↔ False := by simp only [IsB]
@[simp] theorem isB_tup {i : List D} {Q : Bool → Prop} : IsB (.d (.tup i)) Q ↔ False := by simp only [IsB]
@[simp] theorem isB_ls {i : List D} {Q : Bool → Prop} : IsB (.d (.lst i)) Q ↔ False := by simp only [IsB]
@[simp] theorem isB_dc {i : List (D × D)} {Q : Bool → Prop} : IsB (.d (.dic i)) Q ↔ False := by simp only [IsB]
@[simp] theorem isB_is {n : Nat} {i : List (Nat × D)} {Q : Bool → Prop} : IsB (.d (.ins n i)) Q ↔ False := by simp only [IsB]
@[simp] theorem isB_exn {i : Nat} {Q : Bool → Prop} : IsB (.d (.exn i)) Q ↔ False := by simp only [IsB]
@[simp] theorem isB_tab {i : Nat} {Q : Bool → Prop} : IsB (.d (.tab i)) Q ↔ False := by simp only [IsB]
@[simp] theorem isB_tb {i : Nat} {Q : Bool → Prop} : IsB (.tab i) Q ↔ False := by simp only [IsB]
@[simp] theorem isB_fn {i : Nat} {Q : Bool → Prop} : IsB (.d (.fn i)) Q ↔ False := by simp only [IsB]
@[simp] theorem isB_cls {i : Nat} {Q : Bool → Prop} : IsB (.d (.cls i)) Q ↔ False := by simp only [IsB]
@[simp] theorem isB_cell {i : Nat} {Q : Bool → Prop} : IsB (.d (.cell i)) Q ↔ False := by simp only [IsB]
@[simp] theorem isB_scr {i : List D} {Q : Bool → Prop} : IsB (.d (.scr i)) Q ↔ False := by simp only [IsB]
theorem isB_out {o : O} {Q : Bool → Prop} (h : IsB o Q) : ∃ b, o = .d (.bl b) ∧ Q b := by
  rcases o with d | _ | _ | _
  · cases d <;> first | exact ⟨_, rfl, h⟩ | exact h.elim
  all_goals exact h.elim
def E.isStar : E → Bool
  | .star _ => true
  | _ => false
@[simp] theorem isStar_var  {i : Nat} : (E.var i).isStar = false := by simp only [E.isStar]
@[simp] theorem isStar_mv  {i : Nat} : (E.mv i).isStar = false := by simp only [E.isStar]
@[simp] theorem isStar_keep  {e : E} : (E.keep e).isStar = false := by simp only [E.isStar]
@[simp] theorem isStar_con  {d : D} : (E.con d).isStar = false := by simp only [E.isStar]
@[simp] theorem isStar_tup  {es : List E} : (E.tup es).isStar = false := by simp only [E.isStar]
@[simp] theorem isStar_lst  {es : List E} : (E.lst es).isStar = false := by simp only [E.isStar]
@[simp] theorem isStar_dict  {kvs : List E} : (E.dict kvs).isStar = false := by simp only [E.isStar]
@[simp] theorem isStar_bin  {op : Bop} {a b : E} : (E.bin op a b).isStar = false := by simp only [E.isStar]
@[simp] theorem isStar_neg  {a : E} : (E.neg a).isStar = false := by simp only [E.isStar]
@[simp] theorem isStar_not  {a : E} : (E.not a).isStar = false := by simp only [E.isStar]
@[simp] theorem isStar_and  {a b : E} : (E.and a b).isStar = false := by simp only [E.isStar]
@[simp] theorem isStar_or  {a b : E} : (E.or a b).isStar = false := by simp only [E.isStar]
@[simp] theorem isStar_cmp  {op : Cop} {a b : E} : (E.cmp op a b).isStar = false := by simp only [E.isStar]
@[simp] theorem isStar_chain  {op op' : Cop} {a b c : E} : (E.chain op op' a b c).isStar = false := by simp only [E.isStar]
@[simp] theorem isStar_ife  {c a b : E} : (E.ife c a b).isStar = false := by simp only [E.isStar]
@[simp] theorem isStar_idx  {a i : E} : (E.idx a i).isStar = false := by simp only [E.isStar]
@[simp] theorem isStar_slc  {a : E} {lo hi : Option E} : (E.slc a lo hi).isStar = false := by simp only [E.isStar]
@[simp] theorem isStar_attr  {a : E} {f : Nat} : (E.attr a f).isStar = false := by simp only [E.isStar]
@[simp] theorem isStar_call  {f : Nat} {es : List E} : (E.call f es).isStar = false := by simp only [E.isStar]
@[simp] theorem isStar_calk  {f : Nat} {pm : List Nat} {es : List E} : (E.calk f pm es).isStar = false := by simp only [E.isStar]
@[simp] theorem isStar_calv  {i : Nat} {es : List E} : (E.calv i es).isStar = false := by simp only [E.isStar]
@[simp] theorem isStar_mk  {c : Nat} {es : List E} : (E.mk c es).isStar = false := by simp only [E.isStar]
@[simp] theorem isStar_bi  {b : Bi} {es : List E} : (E.bi b es).isStar = false := by simp only [E.isStar]
@[simp] theorem isStar_bm  {b : Bm} {a : E} {es : List E} : (E.bm b a es).isStar = false := by simp only [E.isStar]
@[simp] theorem isStar_bit  {b : Bi} {k : Itk} {es : List E} : (E.bit b k es).isStar = false := by simp only [E.isStar]
@[simp] theorem isStar_pop  {p : E} {es : List E} : (E.pop p es).isStar = false := by simp only [E.isStar]
@[simp] theorem isStar_lc  {tg : Tg} {k : Option Itk} {es : List E} {cs : List E} {el : E} : (E.lc tg k es cs el).isStar = false := by simp only [E.isStar]
@[simp] theorem isStar_stuck  : (E.stuck ).isStar = false := by simp only [E.isStar]
@[simp] theorem q_bop1 {i : Int} {j : Int} : bop .add (.int i) (.int j) = (some (.d (.int (i + j)))) := by rfl
@[simp] theorem q_bop2 {i : Int} {j : Int} : bop .sub (.int i) (.int j) = (some (.d (.int (i - j)))) := by rfl
@[simp] theorem q_bop3 {i : Int} {j : Int} : bop .mul (.int i) (.int j) = (if mulOk i j then some (.d (.int (i * j))) else none) := by rfl
@[simp] theorem q_bop4 {i : Int} {j : Int} : bop .fdiv (.int i) (.int j) = (if divOk j then some (.d (.int (i.fdiv j))) else none) := by rfl
@[simp] theorem q_bop5 {i : Int} {j : Int} : bop .mod (.int i) (.int j) = (if j = 0 then none else some (.d (.int (i.fmod j)))) := by rfl
@[simp] theorem q_bop6 {i : Int} {j : Int} : bop .pow (.int i) (.int j) = (if decide (0 ≤ j) && decide (j ≤ 1000) && decide (i.natAbs < 2 ^ 64) then some (.d (.int (i ^ j.toNat))) else none) := by rfl
@[simp] theorem q_bop7 {a : List D} {b : List D} : bop .add (.lst a) (.lst b) = (if lenOk (a.length + b.length) then some (.lst ((a ++ b).map .d)) else none) := by rfl
@[simp] theorem q_bop8 {a : List D} {b : List D} : bop .add (.tup a) (.tup b) = (if lenOk (a.length + b.length) then some (.d (.tup (a ++ b))) else none) := by rfl
@[simp] theorem q_bop9 {a : List D} {k : Int} : bop .mul (.lst a) (.int k) = (if decide (0 ≤ k) && lenOk k.toNat && lenOk (a.length * k.toNat) then some (.lst ((List.replicate k.toNat a).flatten.map .d)) else none) := by rfl
@[simp] theorem q_bop10 {a : List D} {k : Int} : bop .mul (.tup a) (.int k) = (if decide (1 ≤ k) && decide (k ≤ 1000) && decide (a.length ≤ 1000) && !a.isEmpty then some (.d (.tup (List.replicate k.toNat a).flatten)) else none) := by rfl
@[simp] theorem q_cop11 {a : D} {b : D} : cop .eq a b = (if eqOk a b then some (D.eqv a b) else none) := by rfl
@[simp] theorem q_cop12 {a : D} {b : D} : cop .ne a b = (if eqOk a b then some (!D.eqv a b) else none) := by rfl
@[simp] theorem q_cop13 {i : Int} {j : Int} : cop .lt (.int i) (.int j) = (some (decide (i < j))) := by rfl
@[simp] theorem q_cop14 {i : Int} {j : Int} : cop .le (.int i) (.int j) = (some (decide (i ≤ j))) := by rfl
@[simp] theorem q_cop15 {i : Int} {j : Int} : cop .gt (.int i) (.int j) = (some (decide (j < i))) := by rfl
@[simp] theorem q_cop16 {i : Int} {j : Int} : cop .ge (.int i) (.int j) = (some (decide (j ≤ i))) := by rfl
@[simp] theorem q_cop17 {l : List D} {x : D} : cop .isin x (.lst l) = (if x.flat && l.all D.flat then some (l.any fun y => D.eqv y x) else none) := by rfl
@[simp] theorem q_cop18 {l : List D} {x : D} : cop .isin x (.tup l) = (if x.flat && l.all D.flat then some (l.any fun y => D.eqv y x) else none) := by rfl
@[simp] theorem q_cop19 {l : List (D × D)} {x : D} : cop .isin x (.dic l) = (if keyOf x then some (dget x l).isSome else none) := by rfl
@[simp] theorem q_cop20 {l : List D} {x : D} : cop .notin x (.lst l) = (if x.flat && l.all D.flat then some (!l.any fun y => D.eqv y x) else none) := by rfl
@[simp] theorem q_cop21 {l : List D} {x : D} : cop .notin x (.tup l) = (if x.flat && l.all D.flat then some (!l.any fun y => D.eqv y x) else none) := by rfl
@[simp] theorem q_cop22 {l : List (D × D)} {x : D} : cop .notin x (.dic l) = (if keyOf x then some !(dget x l).isSome else none) := by rfl
@[simp] theorem q_cop23  : cop .is .non .non = (some true) := by rfl
@[simp] theorem q_cop24 {a : Bool} {b : Bool} : cop .is (.bl a) (.bl b) = (some (a == b)) := by rfl
@[simp] theorem q_cop25  : cop .isnot .non .non = (some false) := by rfl
@[simp] theorem q_cop26 {a : Bool} {b : Bool} : cop .isnot (.bl a) (.bl b) = (some (!(a == b))) := by rfl
@[simp] theorem q_bi27 {l : List D} : bi Bi.len [.lst l] = (some (.d (.int l.length))) := by rfl
@[simp] theorem q_bi28 {l : List D} : bi Bi.len [.tup l] = (some (.d (.int l.length))) := by rfl
@[simp] theorem q_bi29 {l : List D} : bi Bi.len [.scr l] = (some (.d (.int l.length))) := by rfl
@[simp] theorem q_bi30 {i : Int} : bi Bi.abs [.int i] = (some (.d (.int i.natAbs))) := by rfl
@[simp] theorem q_bi31 {i : Int} : bi Bi.int [.int i] = (some (.d (.int i))) := by rfl
@[simp] theorem q_bi32 {b : Bool} : bi Bi.int [.bl b] = (some (.d (.int (if b then 1 else 0)))) := by rfl
@[simp] theorem q_bi33 {l : List D} : bi Bi.list [.lst l] = (some (.lst (l.map .d))) := by rfl
@[simp] theorem q_bi34 {l : List D} : bi Bi.list [.tup l] = (some (.lst (l.map .d))) := by rfl
@[simp] theorem q_bi35 {l : List D} : bi Bi.tuple [.lst l] = (some (.d (.tup l))) := by rfl
@[simp] theorem q_bi36 {l : List D} : bi Bi.tuple [.tup l] = (some (.d (.tup l))) := by rfl
@[simp] theorem q_bi37 {l : List D} : bi Bi.sorted [.lst l] = ((intsD l).bind fun ns => if ns.length < 64 then some (.lst ((isort ns).map fun i => .d (.int i))) else none) := by rfl
@[simp] theorem q_bi38 {l : List D} : bi Bi.sorted [.tup l] = ((intsD l).bind fun ns => if ns.length < 64 then some (.lst ((isort ns).map fun i => .d (.int i))) else none) := by rfl
@[simp] theorem q_bi39 {l : List D} : bi Bi.sum [.lst l] = ((intsD l).map fun ns => .d (.int ns.sum)) := by rfl
@[simp] theorem q_bi40 {l : List D} : bi Bi.sum [.tup l] = ((intsD l).map fun ns => .d (.int ns.sum)) := by rfl
@[simp] theorem q_bi41 {l : List D} : bi Bi.all [.lst l] = ((bls l).map fun bs => .d (.bl (bs.all id))) := by rfl
@[simp] theorem q_bi42 {l : List D} : bi Bi.any [.lst l] = ((bls l).map fun bs => .d (.bl (bs.any id))) := by rfl
@[simp] theorem q_bi43 {i : Int} {j : Int} : bi Bi.min [.int i, .int j] = (some (.d (.int (if j < i then j else i)))) := by rfl
@[simp] theorem q_bi44 {i : Int} {j : Int} : bi Bi.max [.int i, .int j] = (some (.d (.int (if i < j then j else i)))) := by rfl
@[simp] theorem q_bi45 {l : List D} : bi Bi.min [.lst l] = ((intsD l).bind fun ns => match ns with
    | [] => none
    | n :: r => some (.d (.int (r.foldl min n)))) := by rfl
@[simp] theorem q_bi46 {l : List D} : bi Bi.min [.tup l] = ((intsD l).bind fun ns => match ns with
    | [] => none
    | n :: r => some (.d (.int (r.foldl min n)))) := by rfl
@[simp] theorem q_bi47 {l : List D} : bi Bi.max [.lst l] = ((intsD l).bind fun ns => match ns with
    | [] => none
    | n :: r => some (.d (.int (r.foldl max n)))) := by rfl
@[simp] theorem q_bi48 {l : List D} : bi Bi.max [.tup l] = ((intsD l).bind fun ns => match ns with
    | [] => none
    | n :: r => some (.d (.int (r.foldl max n)))) := by rfl
@[simp] theorem q_bi49 {x : D} {t : D} : bi Bi.isinst [x, t] = ((isInst x t).map fun b => .d (.bl b)) := by rfl
@[simp] theorem q_is_int {i : Int} : cop .is (.int i) .non = some false := by rfl
@[simp] theorem q_isnot_int {i : Int} : cop .isnot (.int i) .non = some true := by rfl
@[simp] theorem q_is_str {i : List Nat} : cop .is (.str i) .non = some false := by rfl
@[simp] theorem q_isnot_str {i : List Nat} : cop .isnot (.str i) .non = some true := by rfl
@[simp] theorem q_is_tup {i : List D} : cop .is (.tup i) .non = some false := by rfl
@[simp] theorem q_isnot_tup {i : List D} : cop .isnot (.tup i) .non = some true := by rfl
@[simp] theorem q_is_lst {i : List D} : cop .is (.lst i) .non = some false := by rfl
@[simp] theorem q_isnot_lst {i : List D} : cop .isnot (.lst i) .non = some true := by rfl
@[simp] theorem q_is_dic {i : List (D × D)} : cop .is (.dic i) .non = some false := by rfl
@[simp] theorem q_isnot_dic {i : List (D × D)} : cop .isnot (.dic i) .non = some true := by rfl
@[simp] theorem q_is_bl {i : Bool} : cop .is (.bl i) .non = some false := by rfl
@[simp] theorem q_isnot_bl {i : Bool} : cop .isnot (.bl i) .non = some true := by rfl
@[simp] theorem q_is_non : cop .is .non .non = some true := by rfl
@[simp] theorem q_isnot_non : cop .isnot .non .non = some false := by rfl
theorem q_it1 {l : List D} {i : Int} : item (.d (.lst l)) (.int i) = ((ixN l.length i).bind (l[·]?)).map .d := by rfl
theorem q_it2 {l : List D} {i : Int} : item (.d (.tup l)) (.int i) = ((ixN l.length i).bind (l[·]?)).map .d := by rfl
@[simp] theorem q_it3 {l : List (D × D)} {k : D} : item (.d (.dic l)) k = if keyOf k then (dget k l).map .d else none := by rfl
theorem q_it4 {l : List O} {i : Int} : item (.lst l) (.int i) = (ixN l.length i).bind (l[·]?) := by rfl
@[simp] theorem q_it5 {l : List (D × O)} {k : D} : item (.dic l) k = if keyOf k then (l.find? fun p => D.eqv p.1 k).map (·.2) else none := by rfl
theorem ixN_nat {n j : Nat} (h : j < n) : ixN n (j : Int) = some j := by
  unfold ixN
  rw [if_pos (by omega), if_pos (by omega)]
  simp
@[simp] theorem q_itup0 {a : D} {l : List D} : item (.d (.tup (a :: l))) (.int 0) = some (.d a) := by
  rw [q_it2]
  rw [show (0 : Int) = ((0 : Nat) : Int) from rfl, ixN_nat (by simp)]
  rfl
@[simp] theorem q_itup1 {a b : D} {l : List D} : item (.d (.tup (a :: b :: l))) (.int 1) = some (.d b) := by
  rw [q_it2]
  rw [show (1 : Int) = ((1 : Nat) : Int) from rfl, ixN_nat (by simp)]
  rfl
@[simp] theorem q_itup2 {a b c : D} {l : List D} : item (.d (.tup (a :: b :: c :: l))) (.int 2) = some (.d c) := by
  rw [q_it2]
  rw [show (2 : Int) = ((2 : Nat) : Int) from rfl, ixN_nat (by simp)]
  rfl
@[simp] theorem q_ilst0 {a : D} {l : List D} : item (.d (.lst (a :: l))) (.int 0) = some (.d a) := by
  rw [q_it1]
  rw [show (0 : Int) = ((0 : Nat) : Int) from rfl, ixN_nat (by simp)]
  rfl
@[simp] theorem q_ilst1 {a b : D} {l : List D} : item (.d (.lst (a :: b :: l))) (.int 1) = some (.d b) := by
  rw [q_it1]
  rw [show (1 : Int) = ((1 : Nat) : Int) from rfl, ixN_nat (by simp)]
  rfl
@[simp] theorem q_ilst2 {a b c : D} {l : List D} : item (.d (.lst (a :: b :: c :: l))) (.int 2) = some (.d c) := by
  rw [q_it1]
  rw [show (2 : Int) = ((2 : Nat) : Int) from rfl, ixN_nat (by simp)]
  rfl
@[simp] theorem q_seq1 {l : List D} : seqOf (.lst l) = some l := by rfl
@[simp] theorem q_seq2 {l : List D} : seqOf (.tup l) = some l := by rfl
@[simp] theorem q_seq3 {l : List D} : seqOf (.scr l) = some l := by rfl
@[simp] theorem q_y1 {d : D} : yields none [d] = seqOf d := by rfl
@[simp] theorem q_y2 {k : Itk} {ds : List D} : yields (some k) ds = itk k ds := by rfl
@[simp] theorem q_zip {a b : D} : itk .zip [a, b] = (seqOf a).bind fun x => (seqOf b).map fun y => (x.zip y).map fun p => .tup [p.1, p.2] := by rfl
@[simp] theorem q_enum {a : D} : itk .enum [a] = (seqOf a).map fun x => (x.zipIdx).map fun p => .tup [.int (p.2 : Int), p.1] := by rfl
theorem q_range {n : Nat} (h : n < 2 ^ 24) : itk .range [.int (n : Int)] = some ((List.range n).map fun (j : Nat) => .int (j : Int)) := by
  simp only [itk]
  have h1 : (-(2 : Int) ^ 62 ≤ (n : Int)) := by omega
  have h2 : ((n : Int) < 2 ^ 62) := by omega
  simp only [h1, h2, decide_true, Bool.and_self, if_true, rangeL]
  simp
@[simp] theorem q_bind {α β : Type} {x : Option α} {f : α → Option β} {Q : β → Prop} : Ends (x.bind f) Q ↔ Ends x fun a => Ends (f a) Q := by cases x <;> simp
/-- an object, or what a cell holds -/
def see (o : O) (s : St) : Option (O × St) := match o with
  | .d (.cell n) => (s.sto[n]?).map fun o => (o, s)
  | o => some (o, s)
def noCell : O → Bool
  | .d (.cell _) => false
  | _ => true
@[simp] theorem see_of {o : O} {s : St} (h : noCell o = true) : see o s = some (o, s) := by
  rcases o with d | _ | _ | _ | _ <;> try rfl
  cases d <;> first | rfl | cases h
@[simp] theorem see_cell {n : Nat} {s : St} : see (.d (.cell n)) s = (s.sto[n]?).map fun o => (o, s) := by rfl
@[simp] theorem noCell_0 {l : List O} : noCell (.lst l) = true := by simp only [noCell]
@[simp] theorem noCell_1 {l : List (D × O)} : noCell (.dic l) = true := by simp only [noCell]
@[simp] theorem noCell_2 {n : Nat} {l : List (Nat × O)} : noCell (.ins n l) = true := by simp only [noCell]
@[simp] theorem noCell_3  : noCell (.d .non) = true := by simp only [noCell]
@[simp] theorem noCell_4 {i : Int} : noCell (.d (.int i)) = true := by simp only [noCell]
@[simp] theorem noCell_5 {i : Bool} : noCell (.d (.bl i)) = true := by simp only [noCell]
@[simp] theorem noCell_6 {i : List Nat} : noCell (.d (.str i)) = true := by simp only [noCell]
@[simp] theorem noCell_7 {i : String} : noCell (.d (.ty i)) = true := by simp only [noCell]
@[simp] theorem noCell_8 {i : List D} : noCell (.d (.tup i)) = true := by simp only [noCell]
@[simp] theorem noCell_9 {i : List D} : noCell (.d (.lst i)) = true := by simp only [noCell]
@[simp] theorem noCell_10 {i : List (D × D)} : noCell (.d (.dic i)) = true := by simp only [noCell]
@[simp] theorem noCell_11 {n : Nat} {i : List (Nat × D)} : noCell (.d (.ins n i)) = true := by simp only [noCell]
@[simp] theorem noCell_12 {i : Nat} : noCell (.d (.fn i)) = true := by simp only [noCell]
@[simp] theorem noCell_13 {i : Nat} : noCell (.d (.cls i)) = true := by simp only [noCell]
@[simp] theorem noCell_15 {i : Nat} : noCell (.d (.exn i)) = true := by simp only [noCell]
@[simp] theorem noCell_14 {i : List D} : noCell (.d (.scr i)) = true := by simp only [noCell]
section
variable {c : Cx} {s : St} {m : Bool}
@[simp] theorem w_var {i : Nat} : ev c false (.var i) s = (match s.env[i]? with
    | some (some o) => some (.d o.toD, { s with env := s.env.set i (some (.d o.toD)) })
    | _ => none) := by rfl
@[simp] theorem w_var' {i : Nat} : ev c true (.var i) s = (match s.env[i]? with
    | some (some o) => see o s
    | _ => none) := by rfl
@[simp] theorem w_mv {i : Nat} : ev c m (.mv i) s = (match s.env[i]? with
    | some (some o) => some (o, { s with env := s.env.set i none })
    | _ => none) := by rfl
@[simp] theorem w_con {d : D} : ev c m (.con d) s = some (.d d, s) := by rfl
@[simp] theorem w_keep {e : E} : ev c m (.keep e) s = ev c false e s := by rfl
@[simp] theorem w_tup {es : List E} {K : O × St → Prop} : Ends (ev c m (.tup es) s) K ↔ Ends (evs c es s) fun p => lenOk p.1.length = true ∧ K (.d (.tup p.1), p.2) := by
  rw [show ev c m (.tup es) s = (match evs c es s with
    | some (ds, s1) => if lenOk ds.length then some (.d (.tup ds), s1) else none
    | none => none) from rfl]
  rcases evs c es s with _ | ⟨ds, s1⟩ <;> simp
@[simp] theorem w_lst {es : List E} {K : O × St → Prop} : Ends (ev c m (.lst es) s) K ↔ Ends (evs c es s) fun p => lenOk p.1.length = true ∧ K (.lst (p.1.map .d), p.2) := by
  rw [show ev c m (.lst es) s = (match evs c es s with
    | some (ds, s1) => if lenOk ds.length then some (.lst (ds.map .d), s1) else none
    | none => none) from rfl]
  rcases evs c es s with _ | ⟨ds, s1⟩ <;> simp
@[simp] theorem w_dict {es : List E} {K : O × St → Prop} : Ends (ev c m (.dict es) s) K ↔ Ends (evKs c es s) fun p => keysOk p.1 = true ∧ K (.dic p.1, p.2) := by
  rw [show ev c m (.dict es) s = (match evKs c es s with
    | some (ds, s1) => if keysOk ds then some (.dic ds, s1) else none
    | none => none) from rfl]
  rcases evKs c es s with _ | ⟨ds, s1⟩ <;> simp
@[simp] theorem w_bin {op : Bop} {a b : E} {K : O × St → Prop} : Ends (ev c m (.bin op a b) s) K ↔ Ends (ev c true a s) fun p => (p.1.isD || b.quiet || !a.place) = true ∧ Ends (ev c true b p.2) fun q => Ends p.1.flat fun x => Ends q.1.flat fun y => Ends (bop op x y) fun o => K (o, q.2) := by
  rw [show ev c m (.bin op a b) s = (match ev c true a s with
    | some (oa, s1) => if oa.isD || b.quiet || !a.place then match ev c true b s1 with
      | some (ob, s2) => match oa.flat, ob.flat with
        | some x, some y => (bop op x y).map fun o => (o, s2)
        | _, _ => none
      | none => none else none
    | none => none) from rfl]
  rcases ev c true a s with _ | ⟨oa, s1⟩
  · simp
  · simp only [ends_some, ends_ite]
    refine and_congr Iff.rfl ?_
    rcases ev c true b s1 with _ | ⟨ob, s2⟩
    · simp
    · simp only [ends_some]
      rcases oa.flat with _ | x <;> rcases ob.flat with _ | y <;> simp
@[simp] theorem w_cmp {op : Cop} {a b : E} {K : O × St → Prop} : Ends (ev c m (.cmp op a b) s) K ↔ Ends (ev c true a s) fun p => (p.1.isD || b.quiet || !a.place) = true ∧ Ends (ev c true b p.2) fun q => Ends p.1.flat fun x => Ends q.1.flat fun y => Ends (cop op x y) fun o => K (.d (.bl o), q.2) := by
  rw [show ev c m (.cmp op a b) s = (match ev c true a s with
    | some (oa, s1) => if oa.isD || b.quiet || !a.place then match ev c true b s1 with
      | some (ob, s2) => match oa.flat, ob.flat with
        | some x, some y => (cop op x y).map fun o => (.d (.bl o), s2)
        | _, _ => none
      | none => none else none
    | none => none) from rfl]
  rcases ev c true a s with _ | ⟨oa, s1⟩
  · simp
  · simp only [ends_some, ends_ite]
    refine and_congr Iff.rfl ?_
    rcases ev c true b s1 with _ | ⟨ob, s2⟩
    · simp
    · simp only [ends_some]
      rcases oa.flat with _ | x <;> rcases ob.flat with _ | y <;> simp
@[simp] theorem w_neg {a : E} {K : O × St → Prop} : Ends (ev c m (.neg a) s) K ↔ Ends (ev c false a s) fun p => ∃ i, p.1 = .d (.int i) ∧ K (.d (.int (-i)), p.2) := by
  rw [show ev c m (.neg a) s = (match ev c false a s with
    | some (.d (.int i), s1) => some (.d (.int (-i)), s1)
    | _ => none) from rfl]
  rcases ev c false a s with _ | ⟨_ | _ | _ | _ | _, s1⟩ <;> try simp
  rename_i x
  cases x <;> simp
@[simp] theorem w_not {a : E} {K : O × St → Prop} : Ends (ev c m (.not a) s) K ↔ Ends (ev c false a s) fun p => IsB p.1 fun i => K (.d (.bl (!i)), p.2) := by
  rw [show ev c m (.not a) s = (match ev c false a s with
    | some (.d (.bl i), s1) => some (.d (.bl (!i)), s1)
    | _ => none) from rfl]
  rcases ev c false a s with _ | ⟨_ | _ | _ | _ | _, s1⟩ <;> try simp
  rename_i x
  cases x <;> simp
@[simp] theorem w_and {a b : E} {K : O × St → Prop} : Ends (ev c m (.and a b) s) K ↔ Ends (ev c false a s) fun p => IsB p.1 fun i => (i = false → K (.d (.bl false), p.2)) ∧ (i = true → Ends (ev c false b p.2) fun q => IsB q.1 fun j => K (.d (.bl j), q.2)) := by
  rw [show ev c m (.and a b) s = (match ev c false a s with
    | some (.d (.bl true), s1) => match ev c false b s1 with
      | some (.d (.bl z), s2) => some (.d (.bl z), s2)
      | _ => none
    | some (.d (.bl false), s1) => some (.d (.bl false), s1)
    | _ => none) from rfl]
  rcases ev c false a s with _ | ⟨_ | _ | _ | _ | _, s1⟩ <;> try simp
  rename_i x
  cases x <;> try simp
  rename_i z
  cases z
  · simp
  · simp
    rcases ev c false b s1 with _ | ⟨_ | _ | _ | _ | _, s2⟩ <;> try simp
    rename_i y
    cases y <;> simp
@[simp] theorem w_or {a b : E} {K : O × St → Prop} : Ends (ev c m (.or a b) s) K ↔ Ends (ev c false a s) fun p => IsB p.1 fun i => (i = true → K (.d (.bl true), p.2)) ∧ (i = false → Ends (ev c false b p.2) fun q => IsB q.1 fun j => K (.d (.bl j), q.2)) := by
  rw [show ev c m (.or a b) s = (match ev c false a s with
    | some (.d (.bl false), s1) => match ev c false b s1 with
      | some (.d (.bl z), s2) => some (.d (.bl z), s2)
      | _ => none
    | some (.d (.bl true), s1) => some (.d (.bl true), s1)
    | _ => none) from rfl]
  rcases ev c false a s with _ | ⟨_ | _ | _ | _ | _, s1⟩ <;> try simp
  rename_i x
  cases x <;> try simp
  rename_i z
  cases z
  · simp
    rcases ev c false b s1 with _ | ⟨_ | _ | _ | _ | _, s2⟩ <;> try simp
    rename_i y
    cases y <;> simp
  · simp
@[simp] theorem w_chain {op op' : Cop} {a b e : E} {K : O × St → Prop} : Ends (ev c m (.chain op op' a b e) s) K ↔ Ends (ev c false a s) fun p => ∃ x, p.1 = .d x ∧ Ends (ev c false b p.2) fun q => ∃ y, q.1 = .d y ∧ Ends (cop op x y) fun i => (i = false → K (.d (.bl false), q.2)) ∧ (i = true → Ends (ev c false e q.2) fun r => ∃ z, r.1 = .d z ∧ Ends (cop op' y z) fun j => K (.d (.bl j), r.2)) := by
  rw [show ev c m (.chain op op' a b e) s = (match ev c false a s with
    | some (.d x, s1) => match ev c false b s1 with
      | some (.d y, s2) => match cop op x y with
        | some true => match ev c false e s2 with
          | some (.d z, s3) => (cop op' y z).map fun o => (.d (.bl o), s3)
          | _ => none
        | some false => some (.d (.bl false), s2)
        | none => none
      | _ => none
    | _ => none) from rfl]
  rcases ev c false a s with _ | ⟨_ | _ | _ | _ | _, s1⟩ <;> try simp
  rcases ev c false b s1 with _ | ⟨_ | _ | _ | _ | _, s2⟩ <;> try simp
  rename_i x y
  rcases cop op x y with _ | _ | _ <;> try simp
  rcases ev c false e s2 with _ | ⟨_ | _ | _ | _ | _, s2⟩ <;> simp
@[simp] theorem w_ife {t a b : E} {K : O × St → Prop} : Ends (ev c m (.ife t a b) s) K ↔ Ends (ev c false t s) fun p => IsB p.1 fun i => (i = true → Ends (ev c false a p.2) K) ∧ (i = false → Ends (ev c false b p.2) K) := by
  rw [show ev c m (.ife t a b) s = (match ev c false t s with
    | some (.d (.bl true), s1) => ev c false a s1
    | some (.d (.bl false), s1) => ev c false b s1
    | _ => none) from rfl]
  rcases ev c false t s with _ | ⟨_ | _ | _ | _ | _, s1⟩ <;> try simp
  rename_i x
  cases x <;> try simp
  rename_i z
  cases z <;> simp
@[simp] theorem w_idx {a i : E} {K : O × St → Prop} : Ends (ev c m (.idx a i) s) K ↔ Ends (ev c true a s) fun p => (p.1.isD || i.quiet || !a.place) = true ∧ Ends (ev c false i p.2) fun q => ∃ k, q.1 = .d k ∧ Ends (item p.1 k) fun o => (m || o.isD) = true ∧ K (o, q.2) := by
  rw [show ev c m (.idx a i) s = (match ev c true a s with
    | some (oa, s1) => if oa.isD || i.quiet || !a.place then match ev c false i s1 with
      | some (.d k, s2) => match item oa k with
        | some o => if m || o.isD then some (o, s2) else none
        | none => none
      | _ => none else none
    | none => none) from rfl]
  rcases ev c true a s with _ | ⟨oa, s1⟩
  · simp
  · simp only [ends_some, ends_ite]
    refine and_congr Iff.rfl ?_
    rcases ev c false i s1 with _ | ⟨_ | _ | _ | _ | _, s2⟩ <;> try simp
    rename_i k
    rcases item oa k with _ | o <;> simp
@[simp] theorem w_slc {a : E} {lo hi : Option E} {K : O × St → Prop} : Ends (ev c m (.slc a lo hi) s) K ↔ Ends (ev c true a s) fun p => (p.1.isD || (E.quietO lo && E.quietO hi) || !a.place) = true ∧ Ends (evo c lo p.2) fun q => Ends (evo c hi q.2) fun r => Ends p.1.flat fun d => (match d with
      | .lst xs => K (.lst ((cut xs q.1 r.1).map .d), r.2)
      | .tup xs => K (.d (.tup (cut xs q.1 r.1)), r.2)
      | _ => False) := by
  rw [show ev c m (.slc a lo hi) s = (match ev c true a s with
    | some (oa, s1) => if oa.isD || (E.quietO lo && E.quietO hi) || !a.place then match evo c lo s1 with
      | some (l, s2) => match evo c hi s2 with
        | some (h, s3) => match oa.flat with
          | some (.lst xs) => some (.lst ((cut xs l h).map .d), s3)
          | some (.tup xs) => some (.d (.tup (cut xs l h)), s3)
          | _ => none
        | none => none
      | none => none else none
    | none => none) from rfl]
  rcases ev c true a s with _ | ⟨oa, s1⟩
  · simp
  · simp only [ends_some, ends_ite]
    refine and_congr Iff.rfl ?_
    rcases evo c lo s1 with _ | ⟨l, s2⟩
    · simp
    · simp only [ends_some]
      rcases evo c hi s2 with _ | ⟨h, s3⟩
      · simp
      · simp only [ends_some]
        rcases oa.flat with _ | d
        · simp
        · cases d <;> simp
@[simp] theorem w_attr {a : E} {f : Nat} {K : O × St → Prop} : Ends (ev c m (.attr a f) s) K ↔ Ends (ev c true a s) fun p => (match p.1 with
    | .d d => Ends (attrOf f d) fun x => K (.d x, p.2)
    | .ins _ l => Ends (l.lookup f) fun o => (m || o.isD) = true ∧ K (o, p.2)
    | _ => False) := by
  rw [show ev c m (.attr a f) s = (match ev c true a s with
    | some (.d d, s1) => (attrOf f d).map fun x => (.d x, s1)
    | some (.ins _ l, s1) => match l.lookup f with
      | some o => if m || o.isD then some (o, s1) else none
      | none => none
    | _ => none) from rfl]
  rcases ev c true a s with _ | ⟨_ | _ | _ | ⟨q, l⟩ | _, s1⟩ <;> try simp
  rcases l.lookup f with _ | o <;> simp
@[simp] theorem w_call {f : Nat} {es : List E} {K : O × St → Prop} : Ends (ev c m (.call f es) s) K ↔ Ends (evs c es s) fun p => Ends (c.call f p.1 p.2.sto) fun q => K (q.1, { p.2 with sto := q.2 }) := by
  rw [show ev c m (.call f es) s = (match evs c es s with
    | some (ds, s1) => match c.call f ds s1.sto with
      | some (o, sto) => some (o, { s1 with sto := sto })
      | none => none
    | none => none) from rfl]
  rcases evs c es s with _ | ⟨ds, s1⟩
  · simp
  · simp only [ends_some]
    rcases c.call f ds s1.sto with _ | ⟨o, sto⟩ <;> simp
@[simp] theorem w_calk {f : Nat} {pm : List Nat} {es : List E} {K : O × St → Prop} : Ends (ev c m (.calk f pm es) s) K ↔ Ends (evs c es s) fun p => Ends (pm.mapM (p.1[·]?)) fun as => Ends (c.call f as p.2.sto) fun q => K (q.1, { p.2 with sto := q.2 }) := by
  rw [show ev c m (.calk f pm es) s = (match evs c es s with
    | some (ds, s1) => match pm.mapM (ds[·]?) with
      | some as => match c.call f as s1.sto with
        | some (o, sto) => some (o, { s1 with sto := sto })
        | none => none
      | none => none
    | none => none) from rfl]
  rcases evs c es s with _ | ⟨ds, s1⟩
  · simp
  · simp only [ends_some]
    rcases pm.mapM (ds[·]?) with _ | as
    · simp
    · simp only [ends_some]
      rcases c.call f as s1.sto with _ | ⟨o, sto⟩ <;> simp
@[simp] theorem w_mk {q : Nat} {es : List E} {K : O × St → Prop} : Ends (ev c m (.mk q es) s) K ↔ Ends (evs c es s) fun p => Ends (c.make q p.1 p.2.sto) fun r => K (.d (.ins q r.1), { p.2 with sto := r.2 }) := by
  rw [show ev c m (.mk q es) s = (match evs c es s with
    | some (ds, s1) => match c.make q ds s1.sto with
      | some (l, sto) => some (.d (.ins q l), { s1 with sto := sto })
      | none => none
    | none => none) from rfl]
  rcases evs c es s with _ | ⟨ds, s1⟩
  · simp
  · simp only [ends_some]
    rcases c.make q ds s1.sto with _ | ⟨o, sto⟩ <;> simp
@[simp] theorem w_bi {b : Bi} {es : List E} {K : O × St → Prop} : Ends (ev c m (.bi b es) s) K ↔ Ends (evVs c es s) fun p => Ends (bi b p.1) fun o => K (o, p.2) := by
  rw [show ev c m (.bi b es) s = (match evVs c es s with
    | some (ds, s1) => (bi b ds).map fun o => (o, s1)
    | none => none) from rfl]
  rcases evVs c es s with _ | ⟨ds, s1⟩ <;> simp
@[simp] theorem w_bit {b : Bi} {k : Itk} {es : List E} {K : O × St → Prop} : Ends (ev c m (.bit b k es) s) K ↔ Ends (evs c es s) fun p => Ends (itk k p.1) fun l => Ends (bit b l) fun o => K (o, p.2) := by
  rw [show ev c m (.bit b k es) s = (match evs c es s with
    | some (ds, s1) => match itk k ds with
      | some l => (bit b l).map fun o => (o, s1)
      | none => none
    | none => none) from rfl]
  rcases evs c es s with _ | ⟨ds, s1⟩
  · simp
  · simp only [ends_some]
    rcases itk k ds with _ | l <;> simp
@[simp] theorem w_pop {p : E} {es : List E} {K : O × St → Prop} : Ends (ev c m (.pop p es) s) K ↔ Ends (evPath c p s) fun q => ((q.2.1.isEmpty && isL q.1 q.2.2) || es.all E.isCon) = true ∧ Ends (evs c es q.2.2) fun r => Ends (modR q.1 q.2.1 (popAt r.1) r.2) K := by
  rw [show ev c m (.pop p es) s = (match evPath c p s with
    | some (i, ks, s1) => if (ks.isEmpty && isL i s1) || es.all E.isCon then match evs c es s1 with
      | some (ds, s2) => modR i ks (popAt ds) s2
      | none => none else none
    | none => none) from rfl]
  rcases evPath c p s with _ | ⟨i, ks, s1⟩
  · simp
  · simp only [ends_some, ends_ite]
    refine and_congr Iff.rfl ?_
    rcases evs c es s1 with _ | ⟨ds, s2⟩ <;> simp
@[simp] theorem w_evs0 : evs c [] s = some ([], s) := by rfl
@[simp] theorem w_evs_star {e : E} {r : List E} {K : List D × St → Prop} : Ends (evs c (.star e :: r) s) K ↔ Ends (ev c false e s) fun p => Ends (seqOf p.1.toD) fun l => Ends (evs c r p.2) fun q => K (l ++ q.1, q.2) := by
  rw [show evs c (.star e :: r) s = (match ev c false e s with
    | some (o, s1) => match seqOf o.toD with
      | some l => match evs c r s1 with
        | some (ds, s2) => some (l ++ ds, s2)
        | none => none
      | none => none
    | none => none) from rfl]
  rcases ev c false e s with _ | ⟨o, s1⟩
  · simp
  · simp only [ends_some]
    rcases seqOf o.toD with _ | l
    · simp
    · simp only [ends_some]
      rcases evs c r s1 with _ | ⟨ds, s2⟩ <;> simp
@[simp] theorem w_evs1 {e : E} {r : List E} (h : e.isStar = false) {K : List D × St → Prop} : Ends (evs c (e :: r) s) K ↔ Ends (ev c false e s) fun p => Ends (evs c r p.2) fun q => K (p.1.toD :: q.1, q.2) := by
  have h2 : evs c (e :: r) s = (match ev c false e s with
    | some (o, s1) => match evs c r s1 with
      | some (ds, s2) => some (o.toD :: ds, s2)
      | none => none
    | none => none) := by
    cases e <;> first | rfl | cases h
  rw [h2]
  rcases ev c false e s with _ | ⟨o, s1⟩
  · simp
  · simp only [ends_some]
    rcases evs c r s1 with _ | ⟨ds, s2⟩ <;> simp
@[simp] theorem w_evVs0 : evVs c [] s = some ([], s) := by rfl
@[simp] theorem w_evVs1 {e : E} {r : List E} {K : List D × St → Prop} : Ends (evVs c (e :: r) s) K ↔ Ends (ev c true e s) fun p => (p.1.isD || E.quiet.go r || !e.place) = true ∧ Ends (evVs c r p.2) fun q => Ends p.1.flat fun d => K (d :: q.1, q.2) := by
  rw [show evVs c (e :: r) s = (match ev c true e s with
    | some (o, s1) => if o.isD || E.quiet.go r || !e.place then match evVs c r s1 with
      | some (ds, s2) => (o.flat).map fun d => (d :: ds, s2)
      | none => none else none
    | none => none) from rfl]
  rcases ev c true e s with _ | ⟨o, s1⟩
  · simp
  · simp only [ends_some, ends_ite]
    refine and_congr Iff.rfl ?_
    rcases evVs c r s1 with _ | ⟨ds, s2⟩ <;> simp
@[simp] theorem w_evKs0 : evKs c [] s = some ([], s) := by rfl
@[simp] theorem w_evKs1 {k v : E} {r : List E} {K : List (D × O) × St → Prop} : Ends (evKs c (k :: v :: r) s) K ↔ Ends (ev c false k s) fun p => ∃ kd, p.1 = .d kd ∧ Ends (ev c false v p.2) fun q => Ends (evKs c r q.2) fun l => K ((kd, if v.keeps then q.1 else .d q.1.toD) :: l.1, l.2) := by
  rw [show evKs c (k :: v :: r) s = (match ev c false k s with
    | some (.d kd, s1) => match ev c false v s1 with
      | some (o, s2) => match evKs c r s2 with
        | some (l, s3) => some ((kd, if v.keeps then o else .d o.toD) :: l, s3)
        | none => none
      | none => none
    | _ => none) from rfl]
  rcases ev c false k s with _ | ⟨_ | _ | _ | _ | _, s1⟩ <;> try simp
  rcases ev c false v s1 with _ | ⟨o, s2⟩
  · simp
  · simp only [ends_some]
    rcases evKs c r s2 with _ | ⟨l, s3⟩ <;> simp
@[simp] theorem w_evT0 : evT c [] s = some (true, s) := by rfl
@[simp] theorem w_evT1 {e : E} {r : List E} {K : Bool × St → Prop} : Ends (evT c (e :: r) s) K ↔ Ends (ev c false e s) fun p => IsB p.1 fun i => (i = true → Ends (evT c r p.2) K) ∧ (i = false → K (false, p.2)) := by
  rw [show evT c (e :: r) s = (match ev c false e s with
    | some (.d (.bl true), s1) => evT c r s1
    | some (.d (.bl false), s1) => some (false, s1)
    | _ => none) from rfl]
  rcases ev c false e s with _ | ⟨_ | _ | _ | _ | _, s1⟩ <;> try simp
  rename_i x
  cases x <;> try simp
  rename_i z
  cases z <;> simp
@[simp] theorem w_evo0 : evo c none s = some (none, s) := by rfl
@[simp] theorem w_evo1 {e : E} {K : Option Int × St → Prop} : Ends (evo c (some e) s) K ↔ Ends (ev c false e s) fun p => ∃ i, p.1 = .d (.int i) ∧ K (some i, p.2) := by
  rw [show evo c (some e) s = (match ev c false e s with
    | some (.d (.int i), s1) => some (some i, s1)
    | _ => none) from rfl]
  rcases ev c false e s with _ | ⟨_ | _ | _ | _ | _, s1⟩ <;> try simp
  rename_i x
  cases x <;> simp
@[simp] theorem w_path0 {i : Nat} : evPath c (.var i) s = if isN i s then some (i, [], s) else none := by rfl
@[simp] theorem w_path1 {a k : E} {K : Nat × List D × St → Prop} : Ends (evPath c (.idx a k) s) K ↔ Ends (evPath c a s) fun q => Ends (ev c false k q.2.2) fun p => ∃ kd, p.1 = .d kd ∧ K (q.1, q.2.1 ++ [kd], p.2) := by
  rw [show evPath c (.idx a k) s = (match evPath c a s with
    | some (i, ks, s1) => match ev c false k s1 with
      | some (.d kd, s2) => some (i, ks ++ [kd], s2)
      | _ => none
    | none => none) from rfl]
  rcases evPath c a s with _ | ⟨i, ks, s1⟩
  · simp
  · simp only [ends_some]
    rcases ev c false k s1 with _ | ⟨_ | _ | _ | _ | _, s2⟩ <;> simp
/-! statements -/
@[simp] theorem w_exs0 : exs c [] s = some (.nx, s) := by rfl
@[simp] theorem w_exs1 {x : S} {r : List S} {K : Out × St → Prop} : Ends (exs c (x :: r) s) K ↔ Ends (ex c x s) fun p => (match p.1 with
    | .nx => Ends (exs c r p.2) K
    | o => K (o, p.2)) := by
  rw [show exs c (x :: r) s = (match ex c x s with
    | some (.nx, s1) => exs c r s1
    | some (o, s1) => some (o, s1)
    | none => none) from rfl]
  rcases ex c x s with _ | ⟨_ | _ | _ | _ | _, s1⟩ <;> simp
@[simp] theorem w_asg {tg : Tg} {e : E} {K : Out × St → Prop} : Ends (ex c (.asg tg e) s) K ↔ Ends (ev c false e s) fun p => Ends (asgT c tg p.1 p.2) fun s2 => K (.nx, s2) := by
  rw [show ex c (.asg tg e) s = (match ev c false e s with
    | some (o, s1) => (asgT c tg o s1).map fun s2 => (.nx, s2)
    | none => none) from rfl]
  rcases ev c false e s with _ | ⟨o, s1⟩ <;> simp
@[simp] theorem w_par {is : List Nat} {es : List E} {K : Out × St → Prop} : Ends (ex c (.par is es) s) K ↔ Ends (evOs c es s) fun p => Ends (stEs c is p.1 p.2) fun s2 => K (.nx, s2) := by
  rw [show ex c (.par is es) s = (match evOs c es s with
    | some (o, s1) => (stEs c is o s1).map fun s2 => (.nx, s2)
    | none => none) from rfl]
  rcases evOs c es s with _ | ⟨o, s1⟩ <;> simp
@[simp] theorem w_evOs0 : evOs c [] s = some ([], s) := by rfl
@[simp] theorem w_evOs1 {e : E} {r : List E} {K : List O × St → Prop} : Ends (evOs c (e :: r) s) K ↔ Ends (ev c false e s) fun p => Ends (evOs c r p.2) fun q => K (p.1 :: q.1, q.2) := by
  rw [show evOs c (e :: r) s = (match ev c false e s with
    | some (o, s1) => match evOs c r s1 with
      | some (os, s2) => some (o :: os, s2)
      | none => none
    | none => none) from rfl]
  rcases ev c false e s with _ | ⟨o, s1⟩
  · simp
  · simp only [ends_some]
    rcases evOs c r s1 with _ | ⟨ds, s2⟩ <;> simp
@[simp] theorem w_set {p k e : E} {K : Out × St → Prop} : Ends (ex c (.set p k e) s) K ↔ Ends (ev c false e s) fun o => Ends (evPath c p o.2) fun q => Ends (ev c false k q.2.2) fun r => ∃ kd, r.1 = .d kd ∧ Ends (modR q.1 q.2.1 (setAt kd (.d o.1.toD)) r.2) fun z => K (.nx, z.2) := by
  rw [show ex c (.set p k e) s = (match ev c false e s with
    | some (o, s1) => match evPath c p s1 with
      | some (i, ks, s2) => match ev c false k s2 with
        | some (.d kd, s3) => (modR i ks (setAt kd (.d o.toD)) s3).map fun r => (.nx, r.2)
        | _ => none
      | none => none
    | none => none) from rfl]
  rcases ev c false e s with _ | ⟨o, s1⟩
  · simp
  · simp only [ends_some]
    rcases evPath c p s1 with _ | ⟨i, ks, s2⟩
    · simp
    · simp only [ends_some]
      rcases ev c false k s2 with _ | ⟨_ | _ | _ | _ | _, s3⟩ <;> simp
@[simp] theorem w_setA {i f : Nat} {e : E} {K : Out × St → Prop} : Ends (ex c (.setA i f e) s) K ↔ Ends (ev c false e s) fun p => (match p.2.env[i]? with
      | some (some (.ins k l)) => l.length < 100 ∧ K (.nx, { p.2 with env := p.2.env.set i (some (.ins k (putF f (.d p.1.toD) l))) })
      | _ => False) := by
  rw [show ex c (.setA i f e) s = (match ev c false e s with
    | some (o, s1) => match s1.env[i]? with
      | some (some (.ins k l)) => if l.length < 100 then some (.nx, { s1 with env := s1.env.set i (some (.ins k (putF f (.d o.toD) l))) }) else none
      | _ => none
    | none => none) from rfl]
  rcases ev c false e s with _ | ⟨o, s1⟩
  · simp
  · simp only [ends_some]
    rcases s1.env[i]? with _ | _ | _ | _ | _ | _ | _ <;> simp
@[simp] theorem w_app {p e : E} {K : Out × St → Prop} : Ends (ex c (.app p e) s) K ↔ Ends (evPath c p s) fun q => (q.2.1.isEmpty && isL q.1 q.2.2) = true ∧ Ends (ev c false e q.2.2) fun r => Ends (modR q.1 q.2.1 (appAt (.d r.1.toD)) r.2) fun z => K (.nx, z.2) := by
  rw [show ex c (.app p e) s = (match evPath c p s with
    | some (i, ks, s1) => if ks.isEmpty && isL i s1 then match ev c false e s1 with
      | some (o, s2) => (modR i ks (appAt (.d o.toD)) s2).map fun r => (.nx, r.2)
      | none => none else none
    | none => none) from rfl]
  rcases evPath c p s with _ | ⟨i, ks, s1⟩
  · simp
  · simp only [ends_some, ends_ite]
    refine and_congr Iff.rfl ?_
    rcases ev c false e s1 with _ | ⟨o, s2⟩ <;> simp
@[simp] theorem w_ex {e : E} {K : Out × St → Prop} : Ends (ex c (.ex e) s) K ↔ Ends (ev c false e s) fun p => K (.nx, p.2) := by
  rw [show ex c (.ex e) s = (match ev c false e s with
    | some (_, s1) => some (.nx, s1)
    | none => none) from rfl]
  rcases ev c false e s with _ | ⟨o, s1⟩ <;> simp
@[simp] theorem w_ret {e : E} {K : Out × St → Prop} : Ends (ex c (.ret e) s) K ↔ Ends (ev c false e s) fun p => K (.ret p.1, p.2) := by
  rw [show ex c (.ret e) s = (match ev c false e s with
    | some (o, s1) => some (.ret o, s1)
    | none => none) from rfl]
  rcases ev c false e s with _ | ⟨o, s1⟩ <;> simp
@[simp] theorem w_if {t : E} {a b : List S} {K : Out × St → Prop} : Ends (ex c (.ite t a b) s) K ↔ Ends (ev c false t s) fun p => IsB p.1 fun i => (i = true → Ends (exs c a p.2) K) ∧ (i = false → Ends (exs c b p.2) K) := by
  rw [show ex c (.ite t a b) s = (match ev c false t s with
    | some (.d (.bl true), s1) => exs c a s1
    | some (.d (.bl false), s1) => exs c b s1
    | _ => none) from rfl]
  rcases ev c false t s with _ | ⟨_ | _ | _ | _ | _, s1⟩ <;> try simp
  rename_i x
  cases x <;> try simp
  rename_i z
  cases z <;> simp
@[simp] theorem w_raise {q : Nat} : ex c (.raise q) s = some (.exc q, s) := by rfl
@[simp] theorem w_exX {f : Nat} {es : List E} {K : Out × St → Prop} : Ends (ex c (.exX f es) s) K ↔ Ends (evs c es s) fun p => Ends (c.callX f p.1 p.2.sto) fun q => (match q.1 with
    | some e => K (.exc e, { p.2 with sto := q.2 })
    | none => K (.nx, { p.2 with sto := q.2 })) := by
  rw [show ex c (.exX f es) s = (match evs c es s with
    | some (ds, s1) => match c.callX f ds s1.sto with
      | some (some q, sto) => some (.exc q, { s1 with sto := sto })
      | some (none, sto) => some (.nx, { s1 with sto := sto })
      | none => none
    | none => none) from rfl]
  rcases evs c es s with _ | ⟨ds, s1⟩
  · simp
  · simp only [ends_some]
    rcases c.callX f ds s1.sto with _ | ⟨_ | e, sto⟩ <;> simp
@[simp] theorem w_caught {n k f : Nat} {es : List E} {K : O × St → Prop} (h : s.sto[n]? = some (.tab k)) : Ends (ev c m (.caught n k (.call f es)) s) K ↔ Ends (evs c es s) fun p => Ends (c.callX f p.1 p.2.sto) fun q => (match q.1 with
    | some e => K (.d (.exn e), { p.2 with sto := q.2 })
    | none => K (.d .non, { p.2 with sto := q.2 })) := by
  rw [show ev c m (.caught n k (.call f es)) s = (match s.sto[n]? with
    | some (.tab k') => if k' = k then match evs c es s with
      | some (ds, s1) => match c.callX f ds s1.sto with
        | some (some q, sto) => some (.d (.exn q), { s1 with sto := sto })
        | some (none, sto) => some (.d .non, { s1 with sto := sto })
        | none => none
      | none => none else none
    | _ => none) from rfl, h]
  simp only [if_true]
  rcases evs c es s with _ | ⟨ds, s1⟩
  · simp
  · simp only [ends_some]
    rcases c.callX f ds s1.sto with _ | ⟨_ | e, sto⟩ <;> simp
@[simp] theorem w_cont : ex c .cont s = some (.cont, s) := by rfl
@[simp] theorem w_brk : ex c .brk s = some (.brk, s) := by rfl
@[simp] theorem w_pass : ex c .pass s = some (.nx, s) := by rfl
end
/-! loops -/
section
variable {c : Cx} {s : St} {m : Bool} {α : Type}
theorem forLoop_run {f : D → St → Option (Out × St)} {g : α → D} (I : List α → St → Prop) {K : Out × St → Prop} : ∀ (rest done : List α) (s : St), I done s →
    (∀ done' x rest', done ++ rest = done' ++ x :: rest' → ∀ s, I done' s → Ends (f (g x) s) fun q => (match q.1 with
      | .nx => I (done' ++ [x]) q.2
      | .cont => I (done' ++ [x]) q.2
      | .brk => K (.nx, q.2)
      | .ret o => K (.ret o, q.2)
      | .exc e => K (.exc e, q.2))) → (∀ s, I (done ++ rest) s → K (.nx, s)) → Ends (forLoop f (rest.map g) s) K
  | [], done, s, hI, _, hK => by
    rw [List.map_nil, forLoop, ends_some]
    exact hK s (by rw [List.append_nil]; exact hI)
  | x :: rest, done, s, hI, hs, hK => by
    obtain ⟨⟨o, s1⟩, h1, h2⟩ := hs done x rest rfl s hI
    rw [List.map_cons, forLoop, h1]
    have e : done ++ x :: rest = (done ++ [x]) ++ rest := by simp
    cases o with
    | nx =>
      refine forLoop_run I rest (done ++ [x]) s1 h2 ?_ ?_
      · rw [← e]; exact hs
      · rw [← e]; exact hK
    | cont =>
      refine forLoop_run I rest (done ++ [x]) s1 h2 ?_ ?_
      · rw [← e]; exact hs
      · rw [← e]; exact hK
    | brk => rw [ends_some]; exact h2
    | ret o => rw [ends_some]; exact h2
    | exc e => rw [ends_some]; exact h2
/-- a for: I what holds behind some turns -/
theorem run_for (l : List α) (g : α → D) (I : List α → St → Prop) {tg : Tg} {k : Option Itk} {es : List E} {b : List S} {K : Out × St → Prop}
    (h : Ends (evs c es s) fun p => Ends (yields k p.1) fun xs => xs = l.map g ∧ I [] p.2)
    (hs : ∀ done x rest, l = done ++ x :: rest → ∀ s, I done s → Ends (bindT tg (g x) s.env) fun env => Ends (exs c b { s with env := env }) fun q => (match q.1 with
      | .nx => I (done ++ [x]) q.2
      | .cont => I (done ++ [x]) q.2
      | .brk => K (.nx, q.2)
      | .ret o => K (.ret o, q.2)
      | .exc e => K (.exc e, q.2))) (hK : ∀ s, I l s → K (.nx, s)) : Ends (ex c (.for_ tg k es b) s) K := by
  rw [show ex c (.for_ tg k es b) s = (match evs c es s with
    | some (ds, s1) => match yields k ds with
      | some xs => forLoop (fun x s => match bindT tg x s.env with
          | some env => exs c b { s with env := env }
          | none => none) xs s1
      | none => none
    | none => none) from rfl]
  obtain ⟨⟨ds, s1⟩, h1, xs, h2, rfl, h3⟩ := h
  simp only [h1, h2]
  refine forLoop_run I l [] s1 h3 ?_ hK
  intro done x rest e s hI
  have := hs done x rest e s hI
  rcases hb : bindT tg (g x) s.env with _ | env
  · rw [hb] at this; simp at this
  · rw [hb] at this
    simpa using this
/-- a while: I n what holds when n bounds the turns left -/
theorem run_whl (I : Nat → St → Prop) {t : E} {b : List S} {K : Out × St → Prop} (hc : c.lp = loop) {n : Nat} (h : I n s)
    (hs : ∀ n s, I n s → Ends (ev c false t s) fun p => IsB p.1 fun i => (i = false → K (.nx, p.2)) ∧ (i = true → Ends (exs c b p.2) fun q => (match q.1 with
      | .nx => ∃ n', n' < n ∧ I n' q.2
      | .cont => ∃ n', n' < n ∧ I n' q.2
      | .brk => K (.nx, q.2)
      | .ret o => K (.ret o, q.2)
      | .exc e => K (.exc e, q.2)))) : Ends (ex c (.whl t b) s) K := by
  rw [show ex c (.whl t b) s = c.lp (fun s => match ev c false t s with
      | some (.d (.bl true), s1) => match exs c b s1 with
        | some (.nx, s2) => some (.inl s2)
        | some (.cont, s2) => some (.inl s2)
        | some (.brk, s2) => some (.inr (.nx, s2))
        | some (.ret o, s2) => some (.inr (.ret o, s2))
        | some (.exc e, s2) => some (.inr (.exc e, s2))
        | none => none
      | some (.d (.bl false), s1) => some (.inr (.nx, s1))
      | _ => none) s from rfl, hc]
  have key : ∀ N n s, n < N → I n s → ∃ r, (∃ j, iter (fun s => match ev c false t s with
      | some (.d (.bl true), s1) => match exs c b s1 with
        | some (.nx, s2) => some (Sum.inl s2)
        | some (.cont, s2) => some (.inl s2)
        | some (.brk, s2) => some (.inr (Out.nx, s2))
        | some (.ret o, s2) => some (.inr (.ret o, s2))
        | some (.exc e, s2) => some (.inr (.exc e, s2))
        | none => none
      | some (.d (.bl false), s1) => some (.inr (.nx, s1))
      | _ => none) j s = some r) ∧ K r := by
    intro N
    induction N with
    | zero => intro n s hn; omega
    | succ N ih =>
      intro n s hn hI
      obtain ⟨⟨o, s1⟩, h1, hb⟩ := hs n s hI
      obtain ⟨i, h2, h3, h4⟩ := isB_out hb
      simp only at h2
      subst h2
      cases i with
      | false => exact ⟨(.nx, s1), ⟨1, by rw [iter, h1]⟩, h3 rfl⟩
      | true =>
        obtain ⟨⟨o, s2⟩, h5, h6⟩ := h4 rfl
        cases o with
        | nx =>
          obtain ⟨n', hn', h7⟩ := h6
          obtain ⟨r, ⟨j, hj⟩, hr⟩ := ih n' s2 (by omega) h7
          exact ⟨r, ⟨j + 1, by rw [iter, h1]; simp only [h5]; exact hj⟩, hr⟩
        | cont =>
          obtain ⟨n', hn', h7⟩ := h6
          obtain ⟨r, ⟨j, hj⟩, hr⟩ := ih n' s2 (by omega) h7
          exact ⟨r, ⟨j + 1, by rw [iter, h1]; simp only [h5]; exact hj⟩, hr⟩
        | brk => exact ⟨(.nx, s2), ⟨1, by rw [iter, h1]; simp only [h5]⟩, h6⟩
        | ret o => exact ⟨(.ret o, s2), ⟨1, by rw [iter, h1]; simp only [h5]⟩, h6⟩
        | exc e => exact ⟨(.exc e, s2), ⟨1, by rw [iter, h1]; simp only [h5]⟩, h6⟩
  obtain ⟨r, ⟨j, hj⟩, hr⟩ := key (n + 1) n s (Nat.lt_succ_self n) h
  exact ⟨r, loop_of hj, hr⟩
/-- comprehensions: J what holds behind some turns of the things, of what is kept and of the store -/
theorem lcLoop_run {tg : Tg} {cs : List E} {el : E} {g : α → D} (J : List α → List D → List O → Prop) {Wp : List (Option O)} : ∀ (rest done : List α) (acc : List D) (s : St), wipe s.env tg.slots = Wp → J done acc.reverse s.sto →
    (∀ done' x rest' out sto, done ++ rest = done' ++ x :: rest' → J done' out sto → Ends (bindT tg (g x) Wp) fun env => Ends (evT c cs ⟨env, sto⟩) fun q => (q.1 = true → Ends (ev c false el q.2) fun r => J (done' ++ [x]) (out ++ [r.1.toD]) r.2.sto ∧ wipe r.2.env tg.slots = Wp) ∧ (q.1 = false → J (done' ++ [x]) out q.2.sto ∧ wipe q.2.env tg.slots = Wp)) →
    ∃ out s', lcLoop (fun x s => match bindT tg x (wipe s.env tg.slots) with
          | some env => match evT c cs { s with env := env } with
            | some (true, s2) => match ev c false el s2 with
              | some (o, s3) => some (some o.toD, s3)
              | none => none
            | some (false, s2) => some (none, s2)
            | none => none
          | none => none) (rest.map g) acc s = some (out, s') ∧ wipe s'.env tg.slots = Wp ∧ J (done ++ rest) out s'.sto
  | [], done, acc, s, hw, hJ, _ => ⟨acc.reverse, s, rfl, hw, by rw [List.append_nil]; exact hJ⟩
  | x :: rest, done, acc, s, hw, hJ, hs => by
    obtain ⟨env, h1, ⟨b, s2⟩, h2, h3, h4⟩ := hs done x rest _ _ rfl hJ
    have e : done ++ x :: rest = (done ++ [x]) ++ rest := by simp
    cases b with
    | true =>
      obtain ⟨⟨o, s3⟩, h5, h6, h7⟩ := h3 rfl
      obtain ⟨out, s', k1, k2, k3⟩ := lcLoop_run J rest (done ++ [x]) (o.toD :: acc) s3 h7 (by rw [List.reverse_cons]; exact h6) (by rw [← e]; exact hs)
      refine ⟨out, s', ?_, k2, by rw [e]; exact k3⟩
      rw [List.map_cons, lcLoop]
      simp only [hw, h1, h2, h5]
      exact k1
    | false =>
      obtain ⟨h6, h7⟩ := h4 rfl
      obtain ⟨out, s', k1, k2, k3⟩ := lcLoop_run J rest (done ++ [x]) acc s2 h7 h6 (by rw [← e]; exact hs)
      refine ⟨out, s', ?_, k2, by rw [e]; exact k3⟩
      rw [List.map_cons, lcLoop]
      simp only [hw, h1, h2]
      exact k1
theorem run_lc (l : List α) (g : α → D) (J : List α → List D → List O → Prop) {tg : Tg} {k : Option Itk} {es cs : List E} {el : E} {K : O × St → Prop}
    (h : Ends (evs c es s) fun p => Ends (yields k p.1) fun xs => xs = l.map g ∧ J [] [] p.2.sto ∧
      (∀ done x rest out sto, l = done ++ x :: rest → J done out sto → Ends (bindT tg (g x) (wipe p.2.env tg.slots)) fun env => Ends (evT c cs ⟨env, sto⟩) fun q => (q.1 = true → Ends (ev c false el q.2) fun r => J (done ++ [x]) (out ++ [r.1.toD]) r.2.sto ∧ wipe r.2.env tg.slots = wipe p.2.env tg.slots) ∧ (q.1 = false → J (done ++ [x]) out q.2.sto ∧ wipe q.2.env tg.slots = wipe p.2.env tg.slots)) ∧
      (∀ out sto, J l out sto → lenOk out.length = true ∧ K (.lst (out.map .d), ⟨putBack p.2.env p.2.env tg.slots, sto⟩))) : Ends (ev c m (.lc tg k es cs el) s) K := by
  obtain ⟨⟨ds, s1⟩, h1, xs, h2, rfl, h3, h4, h5⟩ := h
  obtain ⟨out, s', k1, k2, k3⟩ := lcLoop_run (c := c) J l [] [] s1 rfl h3 h4
  obtain ⟨h6, h7⟩ := h5 out s'.sto k3
  refine ⟨(.lst (out.map .d), { s' with env := putBack s'.env s1.env tg.slots }), ?_, ?_⟩
  · rw [ev]
    simp only [h1, h2]
    refine (congrArg (fun (z : Option (List D × St)) => match z with
      | some (ys, s2) => if lenOk ys.length then some (O.lst (ys.map .d), { s2 with env := putBack s2.env s1.env tg.slots }) else none
      | none => none) k1).trans ?_
    simp only [h6, if_true]
  · rw [← putBack_wipe s'.env, k2, putBack_wipe]
    exact h7
/-- a comprehension that changes nothing and keeps all -/
theorem run_map (l : List α) (g f : α → D) {tg : Tg} {k : Option Itk} {es : List E} {el : E} {K : O × St → Prop}
    (h : Ends (evs c es s) fun p => Ends (yields k p.1) fun xs => xs = l.map g ∧ lenOk l.length = true ∧
      (∀ x ∈ l, Ends (bindT tg (g x) (wipe p.2.env tg.slots)) fun env => Ends (ev c false el ⟨env, p.2.sto⟩) fun r => r.1.toD = f x ∧ r.2.sto = p.2.sto ∧ wipe r.2.env tg.slots = wipe p.2.env tg.slots) ∧
      K (.lst (l.map fun x => .d (f x)), ⟨putBack p.2.env p.2.env tg.slots, p.2.sto⟩)) : Ends (ev c m (.lc tg k es [] el) s) K := by
  obtain ⟨⟨ds, s1⟩, h1, xs, h2, rfl, h3, h4, h5⟩ := h
  refine run_lc l g (fun done out sto => out = done.map f ∧ sto = s1.sto) ⟨(ds, s1), h1, _, h2, rfl, ⟨rfl, rfl⟩, ?_, ?_⟩
  · rintro done x rest out sto e ⟨rfl, rfl⟩
    obtain ⟨env, e1, r, e2, e3, e4, e5⟩ := h4 x (by rw [e]; simp)
    refine ⟨env, e1, ?_⟩
    simp only [w_evT0, ends_some]
    refine ⟨fun _ => ⟨r, e2, ⟨?_, e4⟩, e5⟩, fun h => by cases h⟩
    rw [e3]; simp
  · rintro out sto ⟨rfl, rfl⟩
    refine ⟨by simpa using h3, ?_⟩
    simpa [Function.comp_def] using h5
/-- one with a test -/
theorem run_filt (l : List α) (g f : α → D) (t : α → Bool) {tg : Tg} {k : Option Itk} {es cs : List E} {el : E} {K : O × St → Prop}
    (h : Ends (evs c es s) fun p => Ends (yields k p.1) fun xs => xs = l.map g ∧ lenOk l.length = true ∧
      (∀ x ∈ l, Ends (bindT tg (g x) (wipe p.2.env tg.slots)) fun env => Ends (evT c cs ⟨env, p.2.sto⟩) fun q => q.1 = t x ∧ (t x = true → Ends (ev c false el q.2) fun r => r.1.toD = f x ∧ r.2.sto = p.2.sto ∧ wipe r.2.env tg.slots = wipe p.2.env tg.slots) ∧ (t x = false → q.2.sto = p.2.sto ∧ wipe q.2.env tg.slots = wipe p.2.env tg.slots)) ∧
      K (.lst ((l.filter t).map fun x => .d (f x)), ⟨putBack p.2.env p.2.env tg.slots, p.2.sto⟩)) : Ends (ev c m (.lc tg k es cs el) s) K := by
  obtain ⟨⟨ds, s1⟩, h1, xs, h2, rfl, h3, h4, h5⟩ := h
  refine run_lc l g (fun done out sto => out = (done.filter t).map f ∧ sto = s1.sto) ⟨(ds, s1), h1, _, h2, rfl, ⟨rfl, rfl⟩, ?_, ?_⟩
  · rintro done x rest out sto e ⟨rfl, rfl⟩
    obtain ⟨env, e1, ⟨b, s2⟩, e2, e3, e4, e5⟩ := h4 x (by rw [e]; simp)
    refine ⟨env, e1, (b, s2), e2, ?_, ?_⟩
    · intro hb
      simp only at hb e3
      subst hb
      obtain ⟨r, k1, k2, k3, k4⟩ := e4 e3.symm
      refine ⟨r, k1, ⟨?_, k3⟩, k4⟩
      rw [k2]; simp [← e3]
    · intro hb
      simp only at hb e3
      subst hb
      obtain ⟨k3, k4⟩ := e5 e3.symm
      refine ⟨⟨?_, k3⟩, k4⟩
      simp [← e3]
  · rintro out sto ⟨rfl, rfl⟩
    refine ⟨?_, ?_⟩
    · have := List.length_filter_le t l
      simp only [lenOk, decide_eq_true_eq, List.length_map] at h3 ⊢
      omega
    · simpa [Function.comp_def] using h5
end
/-- a def's run -/
theorem run_def {P : Prog} {k f : Nat} {ds : List D} {sto : List O} {d : Def} {K : O × List O → Prop} (h : P.defs[f]? = some d) (h2 : ds.length = d.ar)
    (h3 : Ends (exs (cxK loop P k d.own d.cel) d.body ⟨start d (ds.map .d), sto⟩) fun p => (match p.1 with
      | .ret o => K (o, p.2.sto)
      | .nx => K (.d .non, p.2.sto)
      | _ => False)) : Ends (callD loop P (k + 1) f ds sto) K := by
  rw [callD_at h h2]
  obtain ⟨⟨o, s⟩, h4, h5⟩ := h3
  rw [h4]
  cases o with
  | nx => simpa [fin] using h5
  | ret o => simpa [fin] using h5
  | cont => exact h5.elim
  | brk => exact h5.elim
  | exc e => exact h5.elim
/-- a def's run that may raise -/
theorem run_defX {P : Prog} {k f : Nat} {ds : List D} {sto : List O} {d : Def} {K : Option Nat × List O → Prop} (h : P.defs[f]? = some d) (h2 : ds.length = d.ar)
    (h3 : Ends (exs (cxK loop P k d.own d.cel) d.body ⟨start d (ds.map .d), sto⟩) fun p => (match p.1 with
      | .ret _ => K (none, p.2.sto)
      | .nx => K (none, p.2.sto)
      | .exc q => K (some q, p.2.sto)
      | _ => False)) : Ends (callXD loop P (k + 1) f ds sto) K := by
  unfold callXD
  rw [callK_succ, h]
  simp only [List.length_map, h2, if_true]
  obtain ⟨⟨o, s⟩, h4, h5⟩ := h3
  rw [h4]
  cases o with
  | nx => simpa using h5
  | ret o => simpa using h5
  | cont => exact h5.elim
  | brk => exact h5.elim
  | exc e => simpa using h5
end Py
end

section
set_option linter.all false
set_option Elab.async false
/-! Q1: numbers, divisors, ratios. -/
namespace Py
/-! plain facts -/
theorem bls_map {α : Type} (f : α → Bool) : ∀ xs : List α, bls (xs.map fun x => D.bl (f x)) = some (xs.map f)
  | [] => rfl
  | x :: xs => by rw [List.map_cons, bls, bls_map f xs]; rfl
theorem ints_map {α : Type} (f : α → Int) : ∀ xs : List α, intsD (xs.map fun x => D.int (f x)) = some (xs.map f)
  | [] => rfl
  | x :: xs => by rw [List.map_cons, intsD, ints_map f xs]; rfl
@[simp] theorem pures_nil : O.pures [] = some [] := by rfl
@[simp] theorem pures_cons {x : D} {xs : List O} : O.pures (.d x :: xs) = (O.pures xs).map (x :: ·) := by rfl
theorem pures_map' : ∀ xs : List D, O.pures (xs.map .d) = some xs
  | [] => rfl
  | x :: xs => by rw [List.map_cons, O.pures, pures_map' xs]; rfl
theorem pures_mapf {α : Type} (g : α → D) : ∀ xs : List α, O.pures (xs.map fun x => .d (g x)) = some (xs.map g)
  | [] => rfl
  | x :: xs => by rw [List.map_cons, O.pures, pures_mapf g xs]; rfl
theorem toDs_mapf {α : Type} (g : α → D) : ∀ xs : List α, O.toDs (xs.map fun x => .d (g x)) = xs.map g
  | [] => rfl
  | x :: xs => by rw [List.map_cons, O.toDs, toDs_mapf g xs]; rfl
theorem toDs_map' : ∀ xs : List D, O.toDs (xs.map .d) = xs
  | [] => rfl
  | x :: xs => by rw [List.map_cons, O.toDs, toDs_map' xs]; rfl
theorem ints_map' (xs : List Int) : intsD (xs.map D.int) = some xs := by
  have := ints_map (fun i => i) xs
  simpa using this
mutual
/-- a thing that tests may look at -/
def okD : D → Bool
  | .non | .bl _ | .int _ | .str _ | .dic _ | .ins _ _ => true
  | .tup l | .lst l => lenOk l.length && okDs l
  | _ => false
def okDs : List D → Bool
  | [] => true
  | x :: xs => okD x && okDs xs
end
@[simp] theorem okD_non : okD .non = true := by simp only [okD]
@[simp] theorem okD_bl {b : Bool} : okD (.bl b) = true := by simp only [okD]
@[simp] theorem okD_int {b : Int} : okD (.int b) = true := by simp only [okD]
@[simp] theorem okD_str {b : List Nat} : okD (.str b) = true := by simp only [okD]
@[simp] theorem okD_dic {b : List (D × D)} : okD (.dic b) = true := by simp only [okD]
@[simp] theorem okD_ins {c : Nat} {b : List (Nat × D)} : okD (.ins c b) = true := by simp only [okD]
theorem noCell_ok {d : D} (h : okD d = true) : noCell (.d d) = true := by cases d <;> first | rfl | cases h
theorem okDs_mem : ∀ {l : List D}, okDs l = true → ∀ x ∈ l, okD x = true
  | [], _, _, h => by cases h
  | y :: l, h, x, hx => by
    simp only [okDs, Bool.and_eq_true] at h
    rcases List.mem_cons.mp hx with rfl | hx
    · exact h.1
    · exact okDs_mem h.2 x hx
theorem okDs_of : ∀ {l : List D}, (∀ x ∈ l, okD x = true) → okDs l = true
  | [], _ => rfl
  | y :: l, h => by
    simp only [okDs, Bool.and_eq_true]
    exact ⟨h y List.mem_cons_self, okDs_of fun x hx => h x (List.mem_cons_of_mem _ hx)⟩
def isNum : D → Bool
  | .int _ => true
  | _ => false
def isTup : D → Bool
  | .tup _ => true
  | _ => false
def isLis : D → Bool
  | .tup _ | .lst _ => true
  | _ => false
@[irreducible] def bigA : Nat := 2 ^ 4000
@[irreducible] def bigB : Nat := 2 ^ 8001
theorem pow_bigA {b : Nat} (h : b < 4000) : 2 ^ b < bigA := by
  unfold bigA; exact Nat.pow_lt_pow_right (by decide) h
theorem bigA_lt : bigA * bigA < bigB := by
  unfold bigA bigB
  rw [← Nat.pow_add]
  exact Nat.pow_lt_pow_right (by decide) (by decide)
theorem one_bigA : 1 < bigA := Nat.lt_of_le_of_lt (by decide : 1 ≤ 2 ^ 0) (pow_bigA (by decide))
theorem bigAB : bigA < bigB := Nat.lt_of_le_of_lt (Nat.le_mul_of_pos_left _ (Nat.lt_trans Nat.zero_lt_one one_bigA)) bigA_lt
/-- numbers that are told of -/
def Sm (i : Int) : Prop := i.natAbs < bigA
theorem sm_mul {i j : Int} (hi : Sm i) (hj : Sm j) : mulOk i j = true := by
  have e : bigA < lineA := by
    unfold lineA bigA
    exact Nat.pow_lt_pow_right (by decide) (by decide)
  unfold Sm at hi hj
  simp only [mulOk, Bool.and_eq_true, decide_eq_true_eq]
  exact ⟨Nat.lt_trans hi e, Nat.lt_trans hj e⟩
theorem big_div' {j : Int} (h : j ≠ 0) (hj : j.natAbs < bigB) : divOk j = true := by
  have e : bigB < lineB := by
    unfold lineB bigB
    exact Nat.pow_lt_pow_right (by decide) (by decide)
  simp only [divOk, Bool.and_eq_true, decide_eq_true_eq]
  exact ⟨h, Nat.lt_trans hj e⟩
theorem sm_div {j : Int} (h : j ≠ 0) (hj : Sm j) : divOk j = true := big_div' h (Nat.lt_trans hj bigAB)
/-- the divisor of numbers -/
def divN (ns : List Int) : Nat := ns.foldl (fun a i => Nat.gcd a i.natAbs) 0
theorem fmod_nat (a b : Nat) : Int.fmod (a : Int) (b : Int) = ((a % b : Nat) : Int) := by
  rw [Int.fmod_eq_emod_of_nonneg _ (by omega)]
  rfl
/-- a tuple of so many numbers -/
def rowOk (d : D) (n : Int) : Bool := match d with
  | .tup xs => decide ((xs.length : Int) = n) && xs.all isNum
  | _ => false
def isNat : D → Bool
  | .int i => decide (0 ≤ i)
  | _ => false
theorem isNum_of_nat {d : D} (h : isNat d = true) : isNum d = true := by cases d <;> simp [isNat] at h <;> rfl
def cntOk (d : D) (n : Int) : Bool := match d with
  | .tup xs => decide ((xs.length : Int) = n) && xs.all isNat
  | _ => false
namespace K34
variable {sto : List O}
theorem v_is_number {d : D} (h : okD d = true) {m : Nat} (hm : 1 ≤ m) : callD loop prog m 0 [d] sto = some (.d (.bl (isNum d)), sto) := by
  obtain ⟨k, rfl⟩ : ∃ k, m = k + 1 := ⟨m - 1, by omega⟩
  refine ends_eq (run_def (d := d_is_number) rfl rfl ?_)
  cases d <;> simp [okD] at h <;> simp [d_is_number, isNum, start, O.isD, O.flat, isInst, isTy, tyNames, tyN, tyNs, anyN, O.toD, eqOk, D.plain, D.depth, D.eqv, D.flat, E.place, E.quiet, E.quiet.go, E.quietO, stEs, stE, asgT, cxK_own, cxK_cel, cxK_call, cxK_callX, cxK_make, bindT.go, Tg.slots, Tg.slots.go, wipe, putBack, dOnly, ixN, bls_map, pures_map', pures_mapf, toDs_mapf, toDs_map', ints_map, E.keeps, isN, isL, modR, modPath, appAt]
theorem v_is_between {d : D} {lo hi : Int} (h : okD d = true) {m : Nat} (hm : 2 ≤ m) : callD loop prog m 1 [d, .int lo, .int hi] sto = some (.d (.bl (match d with | .int i => decide (lo ≤ i) && decide (i ≤ hi) | _ => false)), sto) := by
  obtain ⟨k, rfl⟩ : ∃ k, m = k + 2 := ⟨m - 2, by omega⟩
  refine ends_eq (run_def (d := d_is_between) rfl rfl ?_)
  simp [d_is_between, v_is_number h, start, O.isD, O.flat, isInst, isTy, tyNames, tyN, tyNs, anyN, O.toD, eqOk, D.plain, D.depth, D.eqv, D.flat, E.place, E.quiet, E.quiet.go, E.quietO, stEs, stE, asgT, cxK_own, cxK_cel, cxK_call, cxK_callX, cxK_make, bindT.go, Tg.slots, Tg.slots.go, wipe, putBack, dOnly, ixN, bls_map, pures_map', pures_mapf, toDs_mapf, toDs_map', ints_map, E.keeps, isN, isL, modR, modPath, appAt]
  cases d <;> simp [isNum, start, O.isD, O.flat, isInst, isTy, tyNames, tyN, tyNs, anyN, O.toD, eqOk, D.plain, D.depth, D.eqv, D.flat, E.place, E.quiet, E.quiet.go, E.quietO, stEs, stE, asgT, cxK_own, cxK_cel, cxK_call, cxK_callX, cxK_make, bindT.go, Tg.slots, Tg.slots.go, wipe, putBack, dOnly, ixN, bls_map, pures_map', pures_mapf, toDs_mapf, toDs_map', ints_map, E.keeps, isN, isL, modR, modPath, appAt]
  omega
theorem v_is_list {d : D} (h : okD d = true) {m : Nat} (hm : 1 ≤ m) : callD loop prog m 2 [d] sto = some (.d (.bl (isLis d)), sto) := by
  obtain ⟨k, rfl⟩ : ∃ k, m = k + 1 := ⟨m - 1, by omega⟩
  refine ends_eq (run_def (d := d_is_list) rfl rfl ?_)
  cases d <;> simp [okD] at h <;> simp [d_is_list, isLis, start, O.isD, O.flat, isInst, isTy, tyNames, tyN, tyNs, anyN, O.toD, eqOk, D.plain, D.depth, D.eqv, D.flat, E.place, E.quiet, E.quiet.go, E.quietO, stEs, stE, asgT, cxK_own, cxK_cel, cxK_call, cxK_callX, cxK_make, bindT.go, Tg.slots, Tg.slots.go, wipe, putBack, dOnly, ixN, bls_map, pures_map', pures_mapf, toDs_mapf, toDs_map', ints_map, E.keeps, isN, isL, modR, modPath, appAt]
theorem gcd_run {c : Cx} (ho : c.own = []) (hc : c.cel = []) (hl : c.lp = loop) {x0 x1 x2 : Option O} {a b : Nat} {K : Out × St → Prop} (hK : K (.nx, ⟨[x0, x1, x2, some (.d (.int (Nat.gcd a b : Nat))), some (.d (.int 0))], sto⟩)) :
    Ends (ex c (.whl (.cmp .ne (.var 4) (.con (.int 0))) [.par [3, 4] [.var 4, .bin .mod (.var 3) (.var 4)]]) ⟨[x0, x1, x2, some (.d (.int (a : Nat))), some (.d (.int (b : Nat)))], sto⟩) K := by
  refine run_whl (fun n s => ∃ a' b' : Nat, n = b' ∧ Nat.gcd a' b' = Nat.gcd a b ∧ s = ⟨[x0, x1, x2, some (.d (.int a')), some (.d (.int b'))], sto⟩) hl (n := b) ⟨a, b, rfl, rfl, rfl⟩ ?_
  rintro n s ⟨a', b', rfl, h2, rfl⟩
  simp [start, O.isD, O.flat, isInst, isTy, tyNames, tyN, tyNs, anyN, O.toD, eqOk, D.plain, D.depth, D.eqv, D.flat, E.place, E.quiet, E.quiet.go, E.quietO, stEs, stE, asgT, cxK_own, cxK_cel, cxK_call, cxK_callX, cxK_make, bindT.go, Tg.slots, Tg.slots.go, wipe, putBack, dOnly, ixN, bls_map, pures_map', pures_mapf, toDs_mapf, toDs_map', ints_map, E.keeps, isN, isL, modR, modPath, appAt, ho, hc]
  refine ⟨fun e => ?_, fun e => ?_⟩
  · subst e
    rw [Nat.gcd_zero_right] at h2
    rw [h2]
    exact hK
  · refine ⟨e, a' % n, Nat.mod_lt _ (by omega), n, ?_, ?_⟩
    · rw [← h2, Nat.gcd_comm n, ← Nat.gcd_rec, Nat.gcd_comm]
    · simp [fmod_nat]
end K34
end Py
end

section
set_option linter.all false
set_option Elab.async false
/-! Q2a: lists of plain things compared. -/
namespace Py
theorem eqvs_map {α : Type} [DecidableEq α] (f : α → D) (hf : ∀ x y, D.eqv (f x) (f y) = decide (x = y)) : ∀ a b : List α, D.eqvs (a.map f) (b.map f) = decide (a = b)
  | [], [] => by simp [D.eqvs]
  | [], y :: b => by simp [D.eqvs]
  | x :: a, [] => by simp [D.eqvs]
  | x :: a, y :: b => by
    simp only [List.map_cons, D.eqvs, hf, eqvs_map f hf a b, List.cons.injEq]
    rw [Bool.eq_iff_iff]; simp
theorem plains_map {α : Type} (f : α → D) (hf : ∀ x, (f x).plain = true) : ∀ a : List α, D.plains (a.map f) = true
  | [] => rfl
  | x :: a => by simp only [List.map_cons, D.plains, hf, plains_map f hf a]; rfl
theorem depths_map {α : Type} (f : α → D) (n : Nat) (hf : ∀ x, (f x).depth ≤ n) : ∀ a : List α, D.depths (a.map f) ≤ n
  | [] => by simp [D.depths]
  | x :: a => by
    simp only [List.map_cons, D.depths]
    exact Nat.max_le.mpr ⟨hf x, depths_map f n hf a⟩
@[simp] theorem fl_d {x : D} : O.flat (.d x) = some x := by rfl
@[simp] theorem fl_lst {l : List O} : O.flat (.lst l) = (O.pures l).map .lst := by rfl
@[simp] theorem fl_dic {l : List (D × O)} : O.flat (.dic l) = (O.pureKs l).map .dic := by rfl
@[simp] theorem is_d {x : D} : O.isD (.d x) = true := by rfl
@[simp] theorem is_lst {l : List O} : O.isD (.lst l) = false := by rfl
@[simp] theorem is_dic {l : List (D × O)} : O.isD (.dic l) = false := by rfl
@[simp] theorem td_d {x : D} : O.toD (.d x) = x := by rfl
@[simp] theorem td_lst {l : List O} : O.toD (.lst l) = .lst (O.toDs l) := by rfl
@[simp] theorem td_dic {l : List (D × O)} : O.toD (.dic l) = .dic (O.toKs l) := by rfl
@[simp] theorem toDs_append : ∀ a b : List O, O.toDs (a ++ b) = O.toDs a ++ O.toDs b
  | [], b => rfl
  | x :: a, b => by rw [List.cons_append, O.toDs, toDs_append a b, O.toDs]; rfl
/-- lists of numbers -/
@[simp] theorem plains_ints (a : List Int) : D.plains (a.map .int) = true := plains_map D.int (fun _ => rfl) a
@[simp] theorem depths_ints (a : List Int) : D.depths (a.map .int) = 0 := Nat.le_zero.mp (depths_map D.int 0 (fun _ => Nat.le_refl _) a)
@[simp] theorem eqv_ints (a b : List Int) : D.eqvs (a.map .int) (b.map .int) = decide (a = b) := eqvs_map D.int (fun x y => by rw [D.eqv]; rfl) a b
theorem cop_ints (a b : List Int) : cop .eq (.lst (a.map .int)) (.lst (b.map .int)) = some (decide (a = b)) := by
  have h1 := plains_map D.int (fun _ => rfl) a
  have h2 := depths_map D.int 0 (fun _ => Nat.le_refl _) a
  have h3 := plains_map D.int (fun _ => rfl) b
  have h4 := depths_map D.int 0 (fun _ => Nat.le_refl _) b
  have e : eqOk (.lst (a.map .int)) (.lst (b.map .int)) = true := by
    have e2 : D.depths (a.map .int) = 0 := Nat.le_zero.mp h2
    have e4 : D.depths (b.map .int) = 0 := Nat.le_zero.mp h4
    simp [eqOk, D.plain, D.depth, h1, h3, e2, e4]
  rw [show cop .eq (D.lst (a.map .int)) (.lst (b.map .int)) = if eqOk (D.lst (a.map .int)) (.lst (b.map .int)) then some (D.eqv (D.lst (a.map .int)) (.lst (b.map .int))) else none from rfl, e, if_pos rfl, D.eqv, eqv_ints]
/-- a list or a tuple -/
def sq (w : Bool) (l : List D) : D := if w then .tup l else .lst l
@[simp] theorem sq_cell {w : Bool} {l : List D} : noCell (.d (sq w l)) = true := by cases w <;> rfl
@[simp] theorem sq_len {w : Bool} {l : List D} : bi .len [sq w l] = some (.d (.int (l.length : Int))) := by cases w <;> rfl
@[simp] theorem sq_seq {w : Bool} {l : List D} : seqOf (sq w l) = some l := by cases w <;> rfl
theorem sq_item {w : Bool} {l : List D} {i : Nat} (h : i < l.length) : item (.d (sq w l)) (.int (i : Nat)) = some (.d l[i]) := by
  have e : (l[i]?) = some l[i] := List.getElem?_eq_getElem h
  cases w
  · show ((ixN l.length (i : Int)).bind (l[·]?)).map O.d = _
    rw [ixN_nat h]
    simp [e]
  · show ((ixN l.length (i : Int)).bind (l[·]?)).map O.d = _
    rw [ixN_nat h]
    simp [e]
@[simp] theorem sq_isLis {w : Bool} {l : List D} : isLis (sq w l) = true := by cases w <;> rfl
/-- one of a list over the first numbers -/
theorem rng_get {α : Type} {n i : Nat} (f : Nat → α) (h : i < n) : ((List.range n).map f)[i]? = some (f i) := by
  rw [List.getElem?_map, List.getElem?_range h]
  rfl
theorem rng_item {w : Bool} {n i : Nat} (f : Nat → D) (h : i < n) : item (.d (sq w ((List.range n).map f))) (.int (i : Nat)) = some (.d (f i)) := by
  rw [sq_item (by simpa using h)]
  simp
theorem rng_itemO {n i : Nat} (f : Nat → D) (h : i < n) : item (.lst ((List.range n).map fun q => .d (f q))) (.int (i : Nat)) = some (.d (f i)) := by
  show (ixN ((List.range n).map fun q => O.d (f q)).length (i : Int)).bind (((List.range n).map fun q => O.d (f q))[·]?) = _
  rw [ixN_nat (by simpa using h), Option.bind_some, rng_get _ h]
theorem rng_set {n i : Nat} (f : Nat → D) (x : D) (h : i < n) : setAt (.int (i : Nat)) (.d x) (.lst ((List.range n).map fun q => .d (f q))) = some (.lst ((List.range n).map fun q => .d (if q = i then x else f q)), ()) := by
  simp only [setAt]
  rw [ixN_nat (by simpa using h)]
  simp only
  congr 2
  apply congrArg
  apply List.ext_getElem?
  intro j
  rw [List.getElem?_set]
  simp only [List.length_map, List.length_range]
  by_cases e : i = j
  · subst e
    rw [if_pos rfl, if_pos h, rng_get _ h, if_pos rfl]
  · rw [if_neg e]
    by_cases hj : j < n
    · rw [rng_get _ hj, rng_get _ hj, if_neg (fun z => e z.symm)]
    · rw [List.getElem?_eq_none (by simpa using hj), List.getElem?_eq_none (by simpa using hj)]
theorem toDs_rng {n : Nat} (f : Nat → D) : O.toDs ((List.range n).map fun q => .d (f q)) = (List.range n).map f := toDs_mapf f _
theorem pures_rng {n : Nat} (f : Nat → D) : O.pures ((List.range n).map fun q => .d (f q)) = some ((List.range n).map f) := pures_mapf f _
end Py
end

section
set_option linter.all false
set_option Elab.async false
/-! TA: rounds popped off stacks: any sequence ends the same. -/
namespace Pop
def itr (f : Nat → Nat) : Nat → Nat → Nat
  | 0, p => p
  | i + 1, p => itr f i (f p)
theorem itr_add (f : Nat → Nat) : ∀ (i j p : Nat), itr f (i + j) p = itr f j (itr f i p)
  | 0, j, p => by rw [Nat.zero_add]; rfl
  | i + 1, j, p => by rw [Nat.succ_add]; exact itr_add f i j (f p)
theorem itr_succ (f : Nat → Nat) (i p : Nat) : itr f (i + 1) p = f (itr f i p) := itr_add f i 1 p
theorem itr_mul {f : Nat → Nat} {k p : Nat} (h : itr f k p = p) : ∀ m, itr f (k * m) p = p
  | 0 => rfl
  | m + 1 => by rw [Nat.mul_succ, itr_add, itr_mul h m, h]
theorem itr_congr {f g : Nat → Nat} : ∀ (i p : Nat), (∀ j, j < i → g (itr f j p) = f (itr f j p)) → itr g i p = itr f i p
  | 0, p, _ => rfl
  | i + 1, p, h => by
    rw [itr_succ, itr_succ, itr_congr i p fun j hj => h j (Nat.lt_succ_of_lt hj)]
    exact h i (Nat.lt_succ_self i)
section
variable (S : Nat → List Nat) (n : Nat)
/-- where a place points, t of each stack taken -/
def nx (t : Nat → Nat) (p : Nat) : Nat := ((S p)[t p]?).getD n
def Orb (t : Nat → Nat) (p q : Nat) : Prop := ∃ i, itr (nx S n t) i p = q
/-- p lies on a round -/
def Per (t : Nat → Nat) (p : Nat) : Prop := p < n ∧ ∃ k, 0 < k ∧ itr (nx S n t) k p = p
open Classical in
noncomputable def bump (t : Nat → Nat) (p : Nat) : Nat → Nat := fun q => if Orb S n t p q then t q + 1 else t q
inductive Reach (t0 : Nat → Nat) : (Nat → Nat) → Prop
  | refl : Reach t0 t0
  | step {t : Nat → Nat} {p : Nat} : Reach t0 t → Per S n t p → Reach t0 (bump S n t p)
def Term (t : Nat → Nat) : Prop := ∀ p, ¬ Per S n t p
variable {S n}
theorem orb_back {t : Nat → Nat} {p q : Nat} (hp : Per S n t p) (h : Orb S n t p q) : Orb S n t q p := by
  obtain ⟨_, k, hk, e⟩ := hp
  obtain ⟨i, rfl⟩ := h
  refine ⟨k * (i + 1) - i, ?_⟩
  have hle : i ≤ k * (i + 1) := Nat.le_trans (Nat.le_succ i) (Nat.le_mul_of_pos_left _ hk)
  rw [← itr_add, Nat.add_sub_cancel' hle]
  exact itr_mul e _
theorem orb_trans {t : Nat → Nat} {p q r : Nat} (h : Orb S n t p q) (h2 : Orb S n t q r) : Orb S n t p r := by
  obtain ⟨i, rfl⟩ := h
  obtain ⟨j, rfl⟩ := h2
  exact ⟨i + j, itr_add _ _ _ _⟩
/-- rounds that meet are one -/
theorem orb_same {t : Nat → Nat} {p p' q : Nat} (hp : Per S n t p) (hp' : Per S n t p') (h : Orb S n t p q) (h' : Orb S n t p' q) : ∀ r, Orb S n t p r ↔ Orb S n t p' r := fun r =>
  ⟨fun x => orb_trans h' (orb_trans (orb_back hp h) x), fun x => orb_trans h (orb_trans (orb_back hp' h') x)⟩
theorem bump_eq {t : Nat → Nat} {p p' : Nat} (h : ∀ r, Orb S n t p r ↔ Orb S n t p' r) : bump S n t p = bump S n t p' := by
  funext q
  unfold bump
  by_cases z : Orb S n t p q
  · rw [if_pos z, if_pos ((h q).mp z)]
  · rw [if_neg z, if_neg fun y => z ((h q).mpr y)]
theorem nx_bump {t : Nat → Nat} {p q : Nat} (h : ¬ Orb S n t p q) : nx S n (bump S n t p) q = nx S n t q := by
  unfold nx bump
  rw [if_neg h]
/-- the other round stays -/
theorem itr_bump {t : Nat → Nat} {p p' : Nat} (hd : ∀ r, Orb S n t p' r → ¬ Orb S n t p r) (i : Nat) : itr (nx S n (bump S n t p)) i p' = itr (nx S n t) i p' :=
  itr_congr i p' fun j _ => nx_bump (hd _ ⟨j, rfl⟩)
theorem orb_bump {t : Nat → Nat} {p p' : Nat} (hd : ∀ r, Orb S n t p' r → ¬ Orb S n t p r) (r : Nat) : Orb S n (bump S n t p) p' r ↔ Orb S n t p' r := by
  unfold Orb
  constructor
  · rintro ⟨i, e⟩
    rw [itr_bump hd] at e
    exact ⟨i, e⟩
  · rintro ⟨i, e⟩
    exact ⟨i, by rw [itr_bump hd]; exact e⟩
theorem per_bump {t : Nat → Nat} {p p' : Nat} (hd : ∀ r, Orb S n t p' r → ¬ Orb S n t p r) (h : Per S n t p') : Per S n (bump S n t p) p' := by
  obtain ⟨h1, k, hk, e⟩ := h
  exact ⟨h1, k, hk, by rw [itr_bump hd]; exact e⟩
theorem bump_in {t : Nat → Nat} {p q : Nat} (h : Orb S n t p q) : bump S n t p q = t q + 1 := by
  unfold bump
  rw [if_pos h]
theorem bump_out {t : Nat → Nat} {p q : Nat} (h : ¬ Orb S n t p q) : bump S n t p q = t q := by
  unfold bump
  rw [if_neg h]
theorem bump_comm {t : Nat → Nat} {p p' : Nat} (hd : ∀ r, Orb S n t p' r → ¬ Orb S n t p r) (hd' : ∀ r, Orb S n t p r → ¬ Orb S n t p' r) : bump S n (bump S n t p) p' = bump S n (bump S n t p') p := by
  funext q
  by_cases a : Orb S n t p q
  · have b := hd' q a
    rw [bump_out (fun z => b ((orb_bump hd q).mp z)), bump_in a, bump_in ((orb_bump hd' q).mpr a), bump_out b]
  · by_cases b : Orb S n t p' q
    · rw [bump_in ((orb_bump hd q).mpr b), bump_out a, bump_out (fun z => a ((orb_bump hd' q).mp z)), bump_in b]
    · rw [bump_out (fun z => b ((orb_bump hd q).mp z)), bump_out a, bump_out (fun z => a ((orb_bump hd' q).mp z)), bump_out b]
/-- k rounds popped -/
inductive RN : Nat → (Nat → Nat) → (Nat → Nat) → Prop
  | nil {t : Nat → Nat} : RN 0 t t
  | cons {k : Nat} {t b : Nat → Nat} {p : Nat} : Per S n t p → RN k (bump S n t p) b → RN (k + 1) t b
theorem rn_pop : ∀ {k : Nat} {t b : Nat → Nat} {p : Nat}, RN (S := S) (n := n) k t b → Term S n b → Per S n t p → ∃ j, k = j + 1 ∧ RN (S := S) (n := n) j (bump S n t p) b
  | 0, _, _, p, .nil, hb, hp => (hb p hp).elim
  | k + 1, t, b, p, .cons (p := q) hq h, hb, hp => by
    by_cases z : ∃ r, Orb S n t p r ∧ Orb S n t q r
    · obtain ⟨r, z1, z2⟩ := z
      rw [bump_eq (orb_same hp hq z1 z2)]
      exact ⟨k, rfl, h⟩
    · have d1 : ∀ r, Orb S n t p r → ¬ Orb S n t q r := fun r a b => z ⟨r, a, b⟩
      have d2 : ∀ r, Orb S n t q r → ¬ Orb S n t p r := fun r a b => z ⟨r, b, a⟩
      obtain ⟨j, rfl, h2⟩ := rn_pop h hb (per_bump d1 hp)
      refine ⟨j + 1, rfl, .cons (per_bump d2 hq) ?_⟩
      rw [bump_comm d2 d1]
      exact h2
theorem rn_snoc : ∀ {k : Nat} {t b : Nat → Nat} {p : Nat}, RN (S := S) (n := n) k t b → Per S n b p → RN (S := S) (n := n) (k + 1) t (bump S n b p)
  | _, _, _, _, .nil, h => .cons h .nil
  | _, _, _, _, .cons a b, h => .cons a (rn_snoc b h)
theorem reach_rn {t0 t : Nat → Nat} (h : Reach S n t0 t) : ∃ k, RN (S := S) (n := n) k t0 t := by
  induction h with
  | refl => exact ⟨0, .nil⟩
  | step _ hp ih =>
    obtain ⟨k, h⟩ := ih
    exact ⟨k + 1, rn_snoc h hp⟩
/-- who is on the way comes to the end -/
theorem to_end {t0 a b : Nat → Nat} (ha : Reach S n t0 a) (hb : Reach S n t0 b) (ht : Term S n b) : ∃ k, RN (S := S) (n := n) k a b := by
  induction ha with
  | refl => exact reach_rn hb
  | step _ hp ih =>
    obtain ⟨k, h⟩ := ih
    obtain ⟨j, _, h2⟩ := rn_pop h ht hp
    exact ⟨j, h2⟩
theorem bump_le {t : Nat → Nat} {p : Nat} (q : Nat) : t q ≤ bump S n t p q := by
  unfold bump
  split
  · exact Nat.le_succ _
  · exact Nat.le_refl _
theorem rn_le : ∀ {k : Nat} {t b : Nat → Nat}, RN (S := S) (n := n) k t b → ∀ q, t q ≤ b q
  | _, _, _, .nil, q => Nat.le_refl _
  | _, _, _, .cons _ h, q => Nat.le_trans (bump_le q) (rn_le h q)
theorem below {t0 a b : Nat → Nat} (ha : Reach S n t0 a) (hb : Reach S n t0 b) (ht : Term S n b) (q : Nat) : a q ≤ b q := by
  obtain ⟨k, h⟩ := to_end ha hb ht
  exact rn_le h q
theorem end_one {t0 a b : Nat → Nat} (ha : Reach S n t0 a) (ta : Term S n a) (hb : Reach S n t0 b) (tb : Term S n b) : a = b := by
  funext q
  exact Nat.le_antisymm (below ha hb tb q) (below hb ha ta q)
/-- who leads to n lies on no round -/
theorem no_per {t : Nat → Nat} (hn : nx S n t n = n) {p i : Nat} (h : itr (nx S n t) i p = n) : ¬ Per S n t p := by
  rintro ⟨hp, k, hk, e⟩
  have e1 := itr_mul e (i + 1)
  have hle : i ≤ k * (i + 1) := Nat.le_trans (Nat.le_succ i) (Nat.le_mul_of_pos_left _ hk)
  have stay : ∀ j, itr (nx S n t) j n = n := by
    intro j
    induction j with
    | zero => rfl
    | succ j ih => rw [itr_succ, ih, hn]
  rw [← Nat.add_sub_cancel' hle, itr_add, h, stay] at e1
  omega
end
end Pop
end

section
set_option linter.all false
set_option Elab.async false
/-! TB: the program's walk along stacks, in plain terms. -/
namespace Pop
theorem pigeon : ∀ (m : Nat) (l : List Nat), l.Nodup → (∀ x ∈ l, x < m) → l.length ≤ m
  | 0, l, _, h => by
    cases l with
    | nil => exact Nat.le_refl _
    | cons x l => exact absurd (h x List.mem_cons_self) (Nat.not_lt_zero _)
  | m + 1, l, nd, h => by
    by_cases z : m ∈ l
    · have e := List.length_erase_of_mem z
      have := pigeon m (l.erase m) (nd.erase m) (fun x hx => by
        have h1 := (nd.mem_erase_iff).mp hx
        have := h x h1.2
        omega)
      have : 0 < l.length := List.length_pos_of_mem z
      omega
    · have := pigeon m l nd (fun x hx => by
        have := h x hx
        have : x ≠ m := fun e => z (e ▸ hx)
        omega)
      omega
theorem sum_le {f g : Nat → Nat} : ∀ {l : List Nat}, (∀ q ∈ l, g q ≤ f q) → (l.map g).sum ≤ (l.map f).sum
  | [], _ => Nat.le_refl _
  | y :: l, h => by
    have h1 := sum_le (l := l) fun q hq => h q (List.mem_cons_of_mem _ hq)
    have h2 := h y List.mem_cons_self
    simp only [List.map_cons, List.sum_cons]
    omega
theorem sum_lt {f g : Nat → Nat} : ∀ {l : List Nat} {h : Nat}, (∀ q ∈ l, g q ≤ f q) → h ∈ l → g h < f h → (l.map g).sum < (l.map f).sum
  | [], _, _, hh, _ => by cases hh
  | x :: l, h, hle, hh, hlt => by
    have le := sum_le (l := l) fun q hq => hle q (List.mem_cons_of_mem _ hq)
    have hx := hle x List.mem_cons_self
    simp only [List.map_cons, List.sum_cons]
    rcases List.mem_cons.mp hh with rfl | hm
    · omega
    · have := sum_lt (l := l) (fun q hq => hle q (List.mem_cons_of_mem _ hq)) hm hlt
      omega
section
variable (S : Nat → List Nat) (n : Nat)
/-- what is told of the tree so far -/
structure TreeOk (t : Nat → Nat) (T : List (Nat × Nat)) : Prop where
  root : T.lookup n = some n
  nd : (T.map (·.1)).Nodup
  at_ : ∀ q v, T.lookup q = some v → q ≠ n → q < n ∧ v = nx S n t q ∧ t q < (S q).length ∧ ∃ i, itr (nx S n t) i q = n
/-- the way so far: its places are the first k on from p -/
structure Way (p : Nat) (T : List (Nat × Nat)) (τ t : Nat → Nat) (k : Nat) : Prop where
  re : Reach S n (fun _ => 0) t
  tr : TreeOk S n t T
  le : ∀ q, q < n → t q ≤ (S q).length
  tk : ∀ q, q < n → τ q = t q + if (T.lookup q).isSome ∨ ∃ i, i < k ∧ itr (nx S n t) i p = q then 1 else 0
  on : ∀ i, i < k → itr (nx S n t) i p < n ∧ T.lookup (itr (nx S n t) i p) = none ∧ t (itr (nx S n t) i p) < (S (itr (nx S n t) i p)).length
  inj : ∀ i j, i < j → j < k → itr (nx S n t) i p ≠ itr (nx S n t) j p
  here : itr (nx S n t) k p ≤ n
variable {S n}
variable (hS : ∀ q, n ≤ q → S q = []) (hI : ∀ q x, x ∈ S q → x ≤ n)
include hS in
theorem nx_n (t : Nat → Nat) : nx S n t n = n := by
  unfold nx
  rw [hS n (Nat.le_refl n)]
  rfl
include hI in
theorem nx_le (t : Nat → Nat) (q : Nat) : nx S n t q ≤ n := by
  unfold nx
  cases e : (S q)[t q]? with
  | none => exact Nat.le_refl n
  | some x => exact hI q x (List.mem_of_getElem? e)
theorem nx_at {t : Nat → Nat} {q : Nat} (h : t q < (S q).length) : (S q)[t q]? = some (nx S n t q) := by
  unfold nx
  rw [List.getElem?_eq_getElem h]
  rfl
theorem tree_key {t : Nat → Nat} {T : List (Nat × Nat)} (h : TreeOk S n t T) : ∀ x ∈ T.map (·.1), x < n + 1 := by
  intro x hx
  obtain ⟨⟨q, v⟩, hm, rfl⟩ := List.mem_map.mp hx
  have : ∃ w, T.lookup q = some w := by
    clear h hx
    induction T with
    | nil => cases hm
    | cons y T ih =>
      obtain ⟨a, b⟩ := y
      by_cases e : q = a
      · subst e
        exact ⟨b, by simp [List.lookup]⟩
      · have hb : (q == a) = false := by simpa using e
        rcases List.mem_cons.mp hm with hm | hm
        · cases hm
          exact (e rfl).elim
        · obtain ⟨w, hw⟩ := ih hm
          exact ⟨w, by simp only [List.lookup, hb]; exact hw⟩
  obtain ⟨w, hw⟩ := this
  show q < n + 1
  by_cases e : q = n
  · omega
  · have := (h.at_ q w hw e).1
    omega
theorem tree_len {t : Nat → Nat} {T : List (Nat × Nat)} (h : TreeOk S n t T) : T.length ≤ n + 1 := by
  have := pigeon (n + 1) (T.map (·.1)) h.nd (tree_key h)
  simpa using this
include hS in
/-- who leads to n still does when a round is popped -/
theorem lead_stay {t : Nat → Nat} {p q : Nat} (hp : Per S n t p) (h : ∃ i, itr (nx S n t) i q = n) : ¬ Orb S n t p q ∧ ∃ i, itr (nx S n (bump S n t p)) i q = n := by
  obtain ⟨i, h⟩ := h
  have no : ∀ j, j ≤ i → ¬ Orb S n t p (itr (nx S n t) j q) := by
    intro j hj ho
    have hb := orb_back hp ho
    -- it would lie on the round
    obtain ⟨m, hm⟩ := hb
    have hper : Per S n t (itr (nx S n t) j q) → False := no_per (i := i - j) (nx_n hS t) (by rw [← itr_add, Nat.add_sub_cancel' hj]; exact h)
    obtain ⟨r, e⟩ := ho
    refine no_per (S := S) (t := t) (p := p) (i := r + (i - j)) (nx_n hS t) ?_ hp
    rw [itr_add, e, ← itr_add, Nat.add_sub_cancel' hj]
    exact h
  refine ⟨no 0 (Nat.zero_le _), i, ?_⟩
  rw [itr_congr i q fun j hj => nx_bump (no j (Nat.le_of_lt hj))]
  exact h
include hS in
theorem tree_stay {t : Nat → Nat} {T : List (Nat × Nat)} {p : Nat} (hp : Per S n t p) (h : TreeOk S n t T) : TreeOk S n (bump S n t p) T ∧ ∀ q, (T.lookup q).isSome → ¬ Orb S n t p q := by
  have key : ∀ q v, T.lookup q = some v → ¬ Orb S n t p q := by
    intro q v e
    by_cases z : q = n
    · subst z
      exact (lead_stay hS hp ⟨0, rfl⟩).1
    · exact (lead_stay hS hp (h.at_ q v e z).2.2.2).1
  refine ⟨⟨h.root, h.nd, fun q v e z => ?_⟩, fun q hq => ?_⟩
  · obtain ⟨a, b, c, d⟩ := h.at_ q v e z
    have no := key q v e
    exact ⟨a, by rw [nx_bump no]; exact b, by rw [bump_out no]; exact c, (lead_stay hS hp d).2⟩
  · cases e : T.lookup q with
    | none => rw [e] at hq; cases hq
    | some v => exact key q v e
include hS in
/-- a round closed is popped: then the way has not been here -/
theorem Way.fresh {p : Nat} {T : List (Nat × Nat)} {τ t : Nat → Nat} {k : Nat} (w : Way S n p T τ t k) (hT : T.lookup (itr (nx S n t) k p) = none) :
    ∃ t' k', Way S n p T τ t' k' ∧ itr (nx S n t') k' p = itr (nx S n t) k p ∧ ∀ i, i < k' → itr (nx S n t') i p ≠ itr (nx S n t') k' p := by
  by_cases z : ∃ i, i < k ∧ itr (nx S n t) i p = itr (nx S n t) k p
  · obtain ⟨i, hi, e⟩ := z
    have hne : itr (nx S n t) k p < n := by
      have := (w.on i hi).1
      rw [e] at this
      exact this
    have per : Per S n t (itr (nx S n t) k p) := by
      refine ⟨hne, k - i, by omega, ?_⟩
      rw [← e, ← itr_add, Nat.add_sub_cancel' (Nat.le_of_lt hi), e]
    -- the round's places are those from i on
    have orb : ∀ q, Orb S n t (itr (nx S n t) k p) q ↔ ∃ j, i ≤ j ∧ j < k ∧ itr (nx S n t) j p = q := by
      intro q
      constructor
      · rintro ⟨m, hm⟩
        refine ⟨i + m % (k - i), by omega, by have := Nat.mod_lt m (show k - i > 0 by omega); omega, ?_⟩
        rw [itr_add, e]
        rw [← hm]
        have hd := Nat.div_add_mod m (k - i)
        conv => rhs; rw [← hd, itr_add]
        rw [itr_mul (by rw [← e, ← itr_add, Nat.add_sub_cancel' (Nat.le_of_lt hi), e])]
      · rintro ⟨j, h1, h2, h3⟩
        refine ⟨j - i, ?_⟩
        rw [← e, ← itr_add, Nat.add_sub_cancel' h1]
        exact h3
    have before : ∀ j, j < i → ¬ Orb S n t (itr (nx S n t) k p) (itr (nx S n t) j p) := by
      intro j hj ho
      obtain ⟨m, h1, h2, h3⟩ := (orb _).mp ho
      exact w.inj j m (by omega) h2 h3.symm
    have same : ∀ j, j ≤ i → itr (nx S n (bump S n t (itr (nx S n t) k p))) j p = itr (nx S n t) j p := fun j hj => itr_congr j p fun m hm => nx_bump (before m (by omega))
    obtain ⟨ts, tn⟩ := tree_stay hS per w.tr
    refine ⟨bump S n t (itr (nx S n t) k p), i, ⟨.step w.re per, ts, fun q hq => ?_, fun q hq => ?_, fun j hj => ?_, fun a b hab hb => ?_, ?_⟩, ?_, fun j hj => ?_⟩
    · by_cases ho : Orb S n t (itr (nx S n t) k p) q
      · rw [bump_in ho]
        obtain ⟨j, h1, h2, rfl⟩ := (orb q).mp ho
        exact (w.on j h2).2.2
      · rw [bump_out ho]
        exact w.le q hq
    · rw [w.tk q hq]
      by_cases ho : Orb S n t (itr (nx S n t) k p) q
      · rw [bump_in ho]
        obtain ⟨j, h1, h2, h3⟩ := (orb q).mp ho
        rw [if_pos (.inr ⟨j, h2, h3⟩), if_neg]
        rintro (h | ⟨m, hm, h⟩)
        · exact tn q h ho
        · rw [same m (by omega)] at h
          exact w.inj m j (by omega) h2 (h.trans h3.symm)
      · rw [bump_out ho]
        have : ((T.lookup q).isSome = true ∨ ∃ m, m < k ∧ itr (nx S n t) m p = q) ↔ ((T.lookup q).isSome = true ∨ ∃ m, m < i ∧ itr (nx S n (bump S n t (itr (nx S n t) k p))) m p = q) := by
          constructor
          · rintro (h | ⟨m, hm, h⟩)
            · exact .inl h
            · by_cases hmi : m < i
              · exact .inr ⟨m, hmi, by rw [same m (by omega)]; exact h⟩
              · exact (ho ((orb q).mpr ⟨m, by omega, hm, h⟩)).elim
          · rintro (h | ⟨m, hm, h⟩)
            · exact .inl h
            · exact .inr ⟨m, by omega, by rw [← same m (by omega)]; exact h⟩
        by_cases c : (T.lookup q).isSome = true ∨ ∃ m, m < k ∧ itr (nx S n t) m p = q
        · rw [if_pos c, if_pos (this.mp c)]
        · rw [if_neg c, if_neg fun x => c (this.mpr x)]
    · rw [same j (by omega), bump_out (before j hj)]
      exact w.on j (by omega)
    · rw [same a (by omega), same b (by omega)]
      exact w.inj a b hab (by omega)
    · rw [same i (Nat.le_refl i), e]
      exact w.here
    · rw [same i (Nat.le_refl i), e]
    · rw [same j (by omega), same i (Nat.le_refl i)]
      exact w.inj j i hj hi
  · exact ⟨t, k, w, rfl, fun i hi e => z ⟨i, hi, e⟩⟩
include hI in
/-- one step on -/
theorem Way.step {p : Nat} {T : List (Nat × Nat)} {τ t : Nat → Nat} {k : Nat} (w : Way S n p T τ t k) (hT : T.lookup (itr (nx S n t) k p) = none) (hf : ∀ i, i < k → itr (nx S n t) i p ≠ itr (nx S n t) k p) :
    itr (nx S n t) k p < n ∧ τ (itr (nx S n t) k p) = t (itr (nx S n t) k p) ∧ (t (itr (nx S n t) k p) < (S (itr (nx S n t) k p)).length → Way S n p T (fun q => if q = itr (nx S n t) k p then τ q + 1 else τ q) t (k + 1)) := by
  have hlt : itr (nx S n t) k p < n := by
    have := w.here
    by_cases e : itr (nx S n t) k p = n
    · rw [e, w.tr.root] at hT
      cases hT
    · omega
  have htk : τ (itr (nx S n t) k p) = t (itr (nx S n t) k p) := by
    rw [w.tk _ hlt, if_neg, Nat.add_zero]
    rintro (h | ⟨i, hi, h⟩)
    · rw [hT] at h; cases h
    · exact hf i hi h
  refine ⟨hlt, htk, fun hl => ⟨w.re, w.tr, w.le, fun q hq => ?_, fun i hi => ?_, fun i j hij hj => ?_, ?_⟩⟩
  · by_cases e : q = itr (nx S n t) k p
    · subst e
      show (if itr (nx S n t) k p = itr (nx S n t) k p then τ (itr (nx S n t) k p) + 1 else τ (itr (nx S n t) k p)) = _
      rw [if_pos rfl, htk, if_pos (.inr ⟨k, Nat.lt_succ_self k, rfl⟩)]
    · show (if q = itr (nx S n t) k p then τ q + 1 else τ q) = _
      rw [if_neg e, w.tk q hq]
      have : ((T.lookup q).isSome = true ∨ ∃ m, m < k ∧ itr (nx S n t) m p = q) ↔ ((T.lookup q).isSome = true ∨ ∃ m, m < k + 1 ∧ itr (nx S n t) m p = q) := by
        constructor
        · rintro (h | ⟨m, hm, h⟩)
          · exact .inl h
          · exact .inr ⟨m, by omega, h⟩
        · rintro (h | ⟨m, hm, h⟩)
          · exact .inl h
          · by_cases z : m = k
            · subst z
              exact (e h.symm).elim
            · exact .inr ⟨m, by omega, h⟩
      by_cases c : (T.lookup q).isSome = true ∨ ∃ m, m < k ∧ itr (nx S n t) m p = q
      · rw [if_pos c, if_pos (this.mp c)]
      · rw [if_neg c, if_neg fun x => c (this.mpr x)]
  · by_cases z : i = k
    · subst z
      exact ⟨hlt, hT, hl⟩
    · exact w.on i (by omega)
  · by_cases z : j = k
    · subst z
      exact hf i hij
    · exact w.inj i j hij (by omega)
  · rw [itr_succ]
    exact nx_le hI t _
/-- the way's places with where they point -/
def wayT (t : Nat → Nat) (S : Nat → List Nat) (n p k : Nat) : List (Nat × Nat) := (List.range k).map fun i => (itr (nx S n t) i p, itr (nx S n t) (i + 1) p)
theorem lookup_append {T U : List (Nat × Nat)} {q : Nat} : (T ++ U).lookup q = (T.lookup q).or (U.lookup q) := List.lookup_append
theorem lookup_none {q : Nat} : ∀ {T : List (Nat × Nat)}, (∀ x ∈ T, x.1 ≠ q) → T.lookup q = none
  | [], _ => rfl
  | (a, b) :: T, h => by
    have e : (q == a) = false := by
      have := h (a, b) List.mem_cons_self
      simpa using fun z => this z.symm
    rw [List.lookup, e]
    exact lookup_none fun x hx => h x (List.mem_cons_of_mem _ hx)
theorem mem_of_lk {q v : Nat} : ∀ {T : List (Nat × Nat)}, T.lookup q = some v → (q, v) ∈ T
  | (a, b) :: T, h => by
    by_cases e : q = a
    · subst e
      simp [List.lookup] at h
      subst h
      exact List.mem_cons_self
    · have hb : (q == a) = false := by simpa using e
      rw [List.lookup, hb] at h
      exact List.mem_cons_of_mem _ (mem_of_lk h)
theorem way_none {p : Nat} {T : List (Nat × Nat)} {τ t : Nat → Nat} {k j : Nat} (w : Way S n p T τ t k) (hj : j < k) : (T ++ wayT t S n p j).lookup (itr (nx S n t) j p) = none := by
  rw [lookup_append, (w.on j hj).2.1]
  refine lookup_none fun x hx => ?_
  obtain ⟨i, hi, rfl⟩ := List.mem_map.mp hx
  exact w.inj i j (List.mem_range.mp hi) hj
/-- the way joins the tree -/
theorem Way.done {p : Nat} {T : List (Nat × Nat)} {τ t : Nat → Nat} {k : Nat} (w : Way S n p T τ t k) (hT : (T.lookup (itr (nx S n t) k p)).isSome) :
    TreeOk S n t (T ++ wayT t S n p k) ∧ (∀ q, q < n → τ q = t q + if ((T ++ wayT t S n p k).lookup q).isSome then 1 else 0) ∧ ((T ++ wayT t S n p k).lookup p).isSome := by
  have lead : ∃ m, itr (nx S n t) m (itr (nx S n t) k p) = n := by
    by_cases e : itr (nx S n t) k p = n
    · exact ⟨0, e⟩
    · cases z : T.lookup (itr (nx S n t) k p) with
      | none => rw [z] at hT; cases hT
      | some v => exact (w.tr.at_ _ _ z e).2.2.2
  obtain ⟨m, hm⟩ := lead
  have keyW : ∀ q, ((wayT t S n p k).lookup q).isSome ↔ ∃ i, i < k ∧ itr (nx S n t) i p = q := by
    intro q
    constructor
    · intro h
      cases z : (wayT t S n p k).lookup q with
      | none => rw [z] at h; cases h
      | some v =>
        obtain ⟨i, hi, e⟩ := List.mem_map.mp (mem_of_lk z)
        cases e
        exact ⟨i, List.mem_range.mp hi, rfl⟩
    · rintro ⟨i, hi, e⟩
      cases z : (wayT t S n p k).lookup q with
      | some v => rfl
      | none =>
        exfalso
        have mem : (q, itr (nx S n t) (i + 1) p) ∈ wayT t S n p k := List.mem_map.mpr ⟨i, List.mem_range.mpr hi, by rw [e]⟩
        revert mem z
        generalize wayT t S n p k = U
        intro z mem
        induction U with
        | nil => cases mem
        | cons y U ih =>
          obtain ⟨a, b⟩ := y
          by_cases e2 : q = a
          · subst e2
            simp [List.lookup] at z
          · have hb : (q == a) = false := by simpa using e2
            rw [List.lookup, hb] at z
            rcases List.mem_cons.mp mem with mem | mem
            · cases mem
              exact e2 rfl
            · exact ih z mem
  refine ⟨⟨?_, ?_, fun q v e z => ?_⟩, fun q hq => ?_, ?_⟩
  · rw [lookup_append, w.tr.root]
    rfl
  · rw [List.map_append, List.nodup_append]
    refine ⟨w.tr.nd, ?_, ?_⟩
    · unfold wayT
      rw [List.map_map]
      show ((List.range k).map fun i => itr (nx S n t) i p).Nodup
      rw [List.nodup_iff_pairwise_ne, List.pairwise_map]
      have : (List.range k).Pairwise (· < ·) := List.pairwise_lt_range
      refine List.Pairwise.imp_of_mem ?_ this
      intro a b ha hb hab
      exact w.inj a b hab (List.mem_range.mp hb)
    · intro a ha b hb e
      subst e
      obtain ⟨⟨a1, a2⟩, h1, rfl⟩ := List.mem_map.mp ha
      obtain ⟨x, hx, e2⟩ := List.mem_map.mp hb
      obtain ⟨i, hi, rfl⟩ := List.mem_map.mp hx
      have := (w.on i (List.mem_range.mp hi)).2.1
      have e2 : itr (nx S n t) i p = a1 := e2
      rw [e2] at this
      have : a1 ∉ T.map (·.1) := by
        clear ha hb e2 hx h1
        intro hm
        obtain ⟨⟨b1, b2⟩, hb, rfl⟩ := List.mem_map.mp hm
        have : ∀ {U : List (Nat × Nat)}, (b1, b2) ∈ U → U.lookup b1 ≠ none := by
          intro U
          induction U with
          | nil => intro h; cases h
          | cons y U ih =>
            intro h
            obtain ⟨c, d⟩ := y
            by_cases e2 : b1 = c
            · subst e2
              simp [List.lookup]
            · have hb : (b1 == c) = false := by simpa using e2
              rw [List.lookup, hb]
              rcases List.mem_cons.mp h with h | h
              · cases h
                exact (e2 rfl).elim
              · exact ih h
        exact this hb ‹T.lookup b1 = none›
      exact this ha
  · rw [lookup_append] at e
    cases h : T.lookup q with
    | some u =>
      rw [h] at e
      cases e
      exact w.tr.at_ q _ h z
    | none =>
      rw [h] at e
      have e : (wayT t S n p k).lookup q = some v := e
      obtain ⟨i, hi, e2⟩ := List.mem_map.mp (mem_of_lk e)
      have hi := List.mem_range.mp hi
      cases e2
      obtain ⟨h1, h2, h3⟩ := w.on i hi
      refine ⟨h1, itr_succ _ _ _, h3, k - i + m, ?_⟩
      rw [itr_add, ← itr_add _ i (k - i), Nat.add_sub_cancel' (Nat.le_of_lt hi)]
      exact hm
  · rw [w.tk q hq, lookup_append]
    have : ((T.lookup q).isSome = true ∨ ∃ i, i < k ∧ itr (nx S n t) i p = q) ↔ ((T.lookup q).or ((wayT t S n p k).lookup q)).isSome = true := by
      rw [Option.isSome_or, Bool.or_eq_true, keyW q]
    by_cases c : (T.lookup q).isSome = true ∨ ∃ i, i < k ∧ itr (nx S n t) i p = q
    · rw [if_pos c, if_pos (this.mp c)]
    · rw [if_neg c, if_neg fun x => c (this.mpr x)]
  · rw [lookup_append, Option.isSome_or, Bool.or_eq_true, keyW p]
    by_cases hk : k = 0
    · subst hk
      exact .inl hT
    · exact .inr ⟨0, by omega, rfl⟩
end
end Pop
end

section
set_option linter.all false
set_option Elab.async false
/-! TC: going along what lies on top. -/
namespace Pop
section
variable (S : Nat → List Nat) (n : Nat)
structure Line (t : Nat → Nat) (p j : Nat) : Prop where
  on : ∀ i, i < j → itr (nx S n t) i p < n
  inj : ∀ i i', i < i' → i' < j → itr (nx S n t) i p ≠ itr (nx S n t) i' p
  here : itr (nx S n t) j p ≤ n
def lineL (t : Nat → Nat) (p j : Nat) : List Nat := (List.range j).map fun i => itr (nx S n t) i p
variable {S n}
theorem mem_line {t : Nat → Nat} {p j q : Nat} : q ∈ lineL S n t p j ↔ ∃ i, i < j ∧ itr (nx S n t) i p = q := by
  simp only [lineL, List.mem_map, List.mem_range]
theorem Line.nil {t : Nat → Nat} {p : Nat} (h : p ≤ n) : Line S n t p 0 := ⟨fun i hi => by omega, fun i i' _ h => by omega, h⟩
theorem Line.le {t : Nat → Nat} {p j : Nat} (l : Line S n t p j) : j ≤ n := by
  have := pigeon n (lineL S n t p j) (by
    unfold lineL
    rw [List.nodup_iff_pairwise_ne, List.pairwise_map]
    refine List.Pairwise.imp_of_mem ?_ List.pairwise_lt_range
    intro a b _ hb hab
    exact l.inj a b hab (List.mem_range.mp hb)) fun x hx => by
      obtain ⟨i, hi, rfl⟩ := mem_line.mp hx
      exact l.on i hi
  simpa [lineL] using this
theorem Line.step (hI : ∀ q x, x ∈ S q → x ≤ n) {t : Nat → Nat} {p j : Nat} (l : Line S n t p j) (h1 : itr (nx S n t) j p ≠ n) (h2 : itr (nx S n t) j p ∉ lineL S n t p j) : itr (nx S n t) j p < n ∧ Line S n t p (j + 1) ∧ itr (nx S n t) (j + 1) p = nx S n t (itr (nx S n t) j p) := by
  have h3 := l.here
  have hlt : itr (nx S n t) j p < n := by omega
  refine ⟨hlt, ⟨fun i hi => ?_, fun i i' h h' => ?_, ?_⟩, itr_succ _ _ _⟩
  · by_cases e : i = j
    · rw [e]; exact hlt
    · exact l.on i (by omega)
  · by_cases e : i' = j
    · subst e
      exact fun z => h2 (mem_line.mpr ⟨i, h, z⟩)
    · exact l.inj i i' h (by omega)
  · rw [itr_succ]
    exact nx_le hI t _
theorem Line.round {t : Nat → Nat} {p j : Nat} (l : Line S n t p j) (hp : p < n) (hj : 0 < j) (e : itr (nx S n t) j p = p) : Per S n t p ∧ ∀ q, q ∈ lineL S n t p j ↔ Orb S n t p q := by
  refine ⟨⟨hp, j, hj, e⟩, fun q => ?_⟩
  rw [mem_line]
  constructor
  · rintro ⟨i, _, h⟩
    exact ⟨i, h⟩
  · rintro ⟨i, h⟩
    refine ⟨i % j, Nat.mod_lt i hj, ?_⟩
    rw [← h]
    have hd := Nat.div_add_mod i j
    conv => rhs; rw [← hd, itr_add, itr_mul e]
theorem Line.noround (hS : ∀ q, n ≤ q → S q = []) {t : Nat → Nat} {p j : Nat} (l : Line S n t p j) (h : itr (nx S n t) j p = n ∨ itr (nx S n t) j p ∈ lineL S n t p j) (hne : itr (nx S n t) j p ≠ p) : ¬ Per S n t p := by
  intro hp
  rcases h with h | h
  · exact no_per (nx_n hS t) h hp
  · obtain ⟨i, hi, e⟩ := mem_line.mp h
    obtain ⟨hpn, k, hk, ek⟩ := hp
    have hi0 : 0 < i := by
      by_cases z : i = 0
      · subst z
        exact absurd e.symm hne
      · omega
    have hle : i ≤ k * i := Nat.le_mul_of_pos_left _ hk
    have e1 : itr (nx S n t) (k * i - i) (itr (nx S n t) i p) = p := by
      rw [← itr_add, Nat.add_sub_cancel' hle]
      exact itr_mul ek i
    have e2 : itr (nx S n t) (k * i - i) (itr (nx S n t) j p) = itr (nx S n t) (j - i) p := by
      rw [← itr_add]
      have : j + (k * i - i) = k * i + (j - i) := by omega
      rw [this, itr_add, itr_mul ek i]
    rw [← e, e1] at e2
    exact l.inj 0 (j - i) (by omega) (by omega) e2
theorem Line.tree {t : Nat → Nat} {p j : Nat} (l : Line S n t p j) (ht : Term S n t) (h : itr (nx S n t) j p ∈ lineL S n t p j) : False := by
  obtain ⟨i, hi, e⟩ := mem_line.mp h
  refine ht (itr (nx S n t) i p) ⟨l.on i hi, j - i, by omega, ?_⟩
  rw [← itr_add, Nat.add_sub_cancel' (Nat.le_of_lt hi)]
  exact e.symm
end
end Pop
end

section
set_option linter.all false
set_option Elab.async false
/-! DA: the draws, beside a table. -/
namespace Py
def kL : List Nat := [108, 97, 114, 103, 101]
def kR : List Nat := [114, 101, 115, 116]
def kC : List Nat := [99, 101, 108, 108, 115]
def kT : List Nat := [116, 117, 114, 110]
/-- the state of the draws -/
def dr (L : List Int) (r : Int) (C : List Int) (t : Int) : O := .dic [(.str kL, .lst (L.map fun i => .d (.int i))), (.str kR, .d (.int r)), (.str kC, .d (.lst (C.map .int))), (.str kT, .d (.int t))]
@[simp] theorem dr_cell {L : List Int} {r : Int} {C : List Int} {t : Int} : noCell (dr L r C t) = true := by rfl
section
variable {L : List Int} {r : Int} {C : List Int} {t x : Int}
@[simp] theorem dr_L : item (dr L r C t) (.str [108, 97, 114, 103, 101]) = some (.lst (L.map fun i => .d (.int i))) := by rfl
@[simp] theorem dr_R : item (dr L r C t) (.str [114, 101, 115, 116]) = some (.d (.int r)) := by rfl
@[simp] theorem dr_C : item (dr L r C t) (.str [99, 101, 108, 108, 115]) = some (.d (.lst (C.map .int))) := by rfl
@[simp] theorem dr_T : item (dr L r C t) (.str [116, 117, 114, 110]) = some (.d (.int t)) := by rfl
theorem dr_setR : setAt (.str [114, 101, 115, 116]) (.d (.int x)) (dr L r C t) = some (dr L x C t, ()) := by rfl
theorem dr_setT : setAt (.str [116, 117, 114, 110]) (.d (.int x)) (dr L r C t) = some (dr L r C x, ()) := by rfl
theorem dr_pop : modPath (popAt [.int 0]) [.str [108, 97, 114, 103, 101]] (dr (x :: L) r C t) = some (dr L r C t, .d (.int x)) := by
  rw [show modPath (popAt [.int 0]) [.str [108, 97, 114, 103, 101]] (dr (x :: L) r C t) = (popAt [.int 0] (.lst ((x :: L).map fun i => .d (.int i)))).map fun z => (O.dic (replK (.str kL) z.1 [(.str kL, .lst ((x :: L).map fun i => .d (.int i))), (.str kR, .d (.int r)), (.str kC, .d (.lst (C.map .int))), (.str kT, .d (.int t))]), z.2) from rfl]
  have h : ixN ((x :: L).map fun i => O.d (.int i)).length 0 = some 0 := by
    have := ixN_nat (n := ((x :: L).map fun i => O.d (.int i)).length) (j := 0) (by simp)
    simpa using this
  simp only [popAt, h]
  simp [pures_mapf]
  rfl
theorem dr_popA {L' : List Int} (h : L = x :: L') : modAt (.str [108, 97, 114, 103, 101]) (fun o => popAt [.int 0] o) (dr L r C t) = some (dr L' r C t, .d (.int x)) := by
  subst h
  exact dr_pop
end
/-- the draws so far: at most n of them mixed -/
def Dr (n : Nat) (sto : List O) : Prop := ∃ L r C t, sto = [.tab 23, dr L r C (t : Nat)] ∧ t ≤ n
theorem Dr_mono {n n' : Nat} {sto : List O} (h : Dr n sto) (hn : n ≤ n') : Dr n' sto := by
  obtain ⟨L, r, C, t, e, ht⟩ := h
  exact ⟨L, r, C, t, e, by omega⟩
@[simp] theorem cell_no {n : Nat} {s : List O} {o : O} (h : s[n]? = some o) {e : List (Option O)} : see (.d (.cell n)) ⟨e, s⟩ = some (o, ⟨e, s⟩) := by simp [h]
@[simp high] theorem ints_ne (L : List Int) : cop .ne (.lst (L.map .int)) (.lst []) = some (!L.isEmpty) := by
  have h1 := plains_map D.int (fun _ => rfl) L
  have h2 := depths_map D.int 0 (fun _ => Nat.le_refl _) L
  rw [show cop .ne (D.lst (L.map .int)) (.lst []) = if eqOk (D.lst (L.map .int)) (.lst []) then some (!D.eqv (D.lst (L.map .int)) (.lst [])) else none from rfl]
  have h3 : eqOk (D.lst (L.map .int)) (.lst []) = true := by
    simp [eqOk, D.plain, D.depth, h1, D.plains, D.depths]
  rw [h3]
  cases L <;> simp [D.eqv, D.eqvs]
theorem fmod_range {a g : Int} (hg : 0 < g) : 0 ≤ a.fmod g ∧ a.fmod g < g := ⟨Int.fmod_nonneg_of_pos a hg, Int.fmod_lt_of_pos a hg⟩
theorem sm_lt {i : Int} {b : Nat} (h : i.natAbs ≤ 2 ^ b) (hb : b < 4000) : Sm i := Nat.lt_of_le_of_lt h (pow_bigA hb)
namespace K34
theorem w_mixed {L : List Int} {r : Int} {C : List Int} {t : Nat} (ht : t ≤ 10 ^ 9) {m : Nat} (hm : 1 ≤ m) : ∃ x : Int, callD loop prog m 11 [.cell 1] [.tab 23, dr L r C (t : Nat)] = some (.d (.int x), [.tab 23, dr L r C ((t + 1 : Nat) : Nat)]) := by
  obtain ⟨k, rfl⟩ : ∃ k, m = k + 1 := ⟨m - 1, by omega⟩
  suffices hE : Ends (callD loop prog (k + 1) 11 [.cell 1] [.tab 23, dr L r C (t : Nat)]) fun a => ∃ x : Int, a = (.d (.int x), [.tab 23, dr L r C ((t + 1 : Nat) : Nat)]) by
    obtain ⟨a, h1, x, rfl⟩ := hE
    exact ⟨x, h1⟩
  refine run_def (d := d_law_mixed) rfl rfl ?_
  simp [d_law_mixed, start, O.isD, O.flat, isInst, isTy, tyNames, tyN, tyNs, anyN, O.toD, eqOk, D.plain, D.depth, D.eqv, D.flat, E.place, E.quiet, E.quiet.go, E.quietO, stEs, stE, asgT, cxK_own, cxK_cel, cxK_call, cxK_callX, cxK_make, bindT.go, Tg.slots, Tg.slots.go, wipe, putBack, dOnly, ixN, bls_map, pures_map', pures_mapf, toDs_mapf, toDs_map', ints_map, E.keeps, isN, isL, modR, modPath, appAt, dr_setT]
  refine run_for [(2147483647 : Nat), 2147483629, 2147483587] (fun j => .int (j : Nat)) (fun done s => ∃ (f : Int) (x3 x4 x5 : Option O), 0 ≤ f ∧ f ≤ 2 ^ (70 * done.length) ∧ s = ⟨[some (.d (.cell 1)), some (.d (.int ((t + 1 : Nat) : Nat))), some (.d (.int f)), x3, x4, x5], [.tab 23, dr L r C ((t + 1 : Nat) : Nat)]⟩) ?_ ?_ ?_
  · simp [start, O.isD, O.flat, isInst, isTy, tyNames, tyN, tyNs, anyN, O.toD, eqOk, D.plain, D.depth, D.eqv, D.flat, E.place, E.quiet, E.quiet.go, E.quietO, stEs, stE, asgT, cxK_own, cxK_cel, cxK_call, cxK_callX, cxK_make, bindT.go, Tg.slots, Tg.slots.go, wipe, putBack, dOnly, ixN, bls_map, pures_map', pures_mapf, toDs_mapf, toDs_map', ints_map, E.keeps, isN, isL, modR, modPath, appAt, O.toDs]
  · rintro done g rest e s ⟨f, x3, x4, x5, f0, f1, rfl⟩
    have hg : 2147483587 ≤ g ∧ g ≤ 2147483647 := by
      have : g ∈ [(2147483647 : Nat), 2147483629, 2147483587] := by rw [e]; simp
      simp at this; omega
    have hd : done.length ≤ 2 := by
      have := congrArg List.length e
      simp at this; omega
    have m1 : mulOk ((t : Int) + 1) 48271 = true := sm_mul (sm_lt (b := 40) (by omega) (by decide)) (sm_lt (b := 40) (by decide) (by decide))
    have d1 : divOk 11 = true := sm_div (by decide) (sm_lt (b := 40) (by decide) (by decide))
    have g0 : (g : Int) ≠ 0 := by omega
    have g0' : ¬ g = 0 := by omega
    simp [start, O.isD, O.flat, isInst, isTy, tyNames, tyN, tyNs, anyN, O.toD, eqOk, D.plain, D.depth, D.eqv, D.flat, E.place, E.quiet, E.quiet.go, E.quietO, stEs, stE, asgT, cxK_own, cxK_cel, cxK_call, cxK_callX, cxK_make, bindT.go, Tg.slots, Tg.slots.go, wipe, putBack, dOnly, ixN, bls_map, pures_map', pures_mapf, toDs_mapf, toDs_map', ints_map, E.keeps, isN, isL, modR, modPath, appAt, m1, d1, g0']
    refine run_for C D.int (fun dn s => ∃ (bl : Int) (x5 : Option O), 0 ≤ bl ∧ bl < g ∧ s = ⟨[some (.d (.cell 1)), some (.d (.int ((t : Int) + 1))), some (.d (.int f)), some (.d (.int (g : Nat))), some (.d (.int bl)), x5], [.tab 23, dr L r C ((t : Int) + 1)]⟩) ?_ ?_ ?_
    · obtain ⟨q1, q2⟩ := fmod_range (a := (((t : Int) + 1) * 48271 + ((g : Nat) : Int).fdiv 11)) (g := (g : Int)) (by omega)
      simp [start, O.isD, O.flat, isInst, isTy, tyNames, tyN, tyNs, anyN, O.toD, eqOk, D.plain, D.depth, D.eqv, D.flat, E.place, E.quiet, E.quiet.go, E.quietO, stEs, stE, asgT, cxK_own, cxK_cel, cxK_call, cxK_callX, cxK_make, bindT.go, Tg.slots, Tg.slots.go, wipe, putBack, dOnly, ixN, bls_map, pures_map', pures_mapf, toDs_mapf, toDs_map', ints_map, E.keeps, isN, isL, modR, modPath, appAt]
      exact ⟨q1, q2⟩
    · rintro dn c rst e2 s ⟨bl, x5, b0, b1, rfl⟩
      have m2 : mulOk bl 69621 = true := sm_mul (sm_lt (b := 40) (by omega) (by decide)) (sm_lt (b := 40) (by decide) (by decide))
      obtain ⟨q1, q2⟩ := fmod_range (a := bl * 69621 + c + ((t : Int) + 1)) (g := (g : Int)) (by omega)
      simp [start, O.isD, O.flat, isInst, isTy, tyNames, tyN, tyNs, anyN, O.toD, eqOk, D.plain, D.depth, D.eqv, D.flat, E.place, E.quiet, E.quiet.go, E.quietO, stEs, stE, asgT, cxK_own, cxK_cel, cxK_call, cxK_callX, cxK_make, bindT.go, Tg.slots, Tg.slots.go, wipe, putBack, dOnly, ixN, bls_map, pures_map', pures_mapf, toDs_mapf, toDs_map', ints_map, E.keeps, isN, isL, modR, modPath, appAt, m2, g0']
      exact ⟨q1, q2⟩
    · rintro s ⟨bl, x5, b0, b1, rfl⟩
      have m3 : mulOk f 2147483659 = true := by
        have : f.natAbs ≤ 2 ^ (70 * done.length) := by
          have : ((2 ^ (70 * done.length) : Nat) : Int) = 2 ^ (70 * done.length) := by push_cast; rfl
          omega
        exact sm_mul (sm_lt this (by omega)) (sm_lt (b := 40) (by decide) (by decide))
      have p1 : bl.natAbs < 2 ^ 64 := by omega
      obtain ⟨q1, q2⟩ := fmod_range (a := bl ^ 5) (g := (g : Int)) (by omega)
      have p2 : f * 2147483659 + (bl ^ 5).fmod g ≤ 2 ^ (70 * (done.length + 1)) := by
        have e1 : (2 : Int) ^ (70 * (done.length + 1)) = 2 ^ (70 * done.length) * 2 ^ 70 := by rw [Nat.mul_add, Int.pow_add]
        have e2 : (0 : Int) < 2 ^ (70 * done.length) := Int.pow_pos (by decide)
        rw [e1]
        omega
      simp [start, O.isD, O.flat, isInst, isTy, tyNames, tyN, tyNs, anyN, O.toD, eqOk, D.plain, D.depth, D.eqv, D.flat, E.place, E.quiet, E.quiet.go, E.quietO, stEs, stE, asgT, cxK_own, cxK_cel, cxK_call, cxK_callX, cxK_make, bindT.go, Tg.slots, Tg.slots.go, wipe, putBack, dOnly, ixN, bls_map, pures_map', pures_mapf, toDs_mapf, toDs_map', ints_map, E.keeps, isN, isL, modR, modPath, appAt, m3, g0', p1]
      exact ⟨by omega, p2⟩
  · rintro s ⟨f, x3, x4, x5, f0, f1, rfl⟩
    simp [start, O.isD, O.flat, isInst, isTy, tyNames, tyN, tyNs, anyN, O.toD, eqOk, D.plain, D.depth, D.eqv, D.flat, E.place, E.quiet, E.quiet.go, E.quietO, stEs, stE, asgT, cxK_own, cxK_cel, cxK_call, cxK_callX, cxK_make, bindT.go, Tg.slots, Tg.slots.go, wipe, putBack, dOnly, ixN, bls_map, pures_map', pures_mapf, toDs_mapf, toDs_map', ints_map, E.keeps, isN, isL, modR, modPath, appAt]
theorem w_take {n : Nat} {sto : List O} (h : Dr n sto) (hn : n ≤ 10 ^ 8) {a : Nat} (ha : 0 < a) (ha2 : a ≤ 1000) {m : Nat} (hm : 2 ≤ m) : ∃ (i : Nat) (sto' : List O), callD loop prog m 12 [.cell 1, .int (a : Nat)] sto = some (.d (.int (i : Nat)), sto') ∧ i < a ∧ Dr (n + 1) sto' := by
  obtain ⟨k, rfl⟩ : ∃ k, m = k + 2 := ⟨m - 2, by omega⟩
  obtain ⟨L, r, C, t, rfl, ht⟩ := h
  have d1 : divOk (a : Int) = true := sm_div (by omega) (sm_lt (b := 40) (by omega) (by decide))
  have a0 : ¬ (a : Int) = 0 := by omega
  have a0' : ¬ a = 0 := by omega
  have fin : ∀ x : Int, ∃ i : Nat, x.fmod (a : Int) = (i : Int) ∧ i < a := fun x => by
    obtain ⟨h1, h2⟩ := fmod_range (a := x) (g := (a : Int)) (by omega)
    exact ⟨(x.fmod a).toNat, by omega, by omega⟩
  suffices hE : Ends (callD loop prog (k + 2) 12 [.cell 1, .int (a : Nat)] [.tab 23, dr L r C (t : Nat)]) fun b => ∃ (i : Nat), b.1 = .d (.int (i : Nat)) ∧ i < a ∧ Dr (n + 1) b.2 by
    obtain ⟨⟨b1, b2⟩, h1, i, rfl, h2, h3⟩ := hE
    exact ⟨i, b2, h1, h2, h3⟩
  refine run_def (d := d_law_take) rfl rfl ?_
  by_cases hr : r = 0
  · by_cases hL : L.isEmpty = true
    · obtain ⟨x, hx⟩ := w_mixed (L := L) (r := r) (C := C) (t := t) (by omega) (m := k + 1) (by omega)
      obtain ⟨i, hi, hi2⟩ := fin x
      subst hr
      simp at hx
      simp [d_law_take, start, O.isD, O.flat, isInst, isTy, tyNames, tyN, tyNs, anyN, O.toD, eqOk, D.plain, D.depth, D.eqv, D.flat, E.place, E.quiet, E.quiet.go, E.quietO, stEs, stE, asgT, cxK_own, cxK_cel, cxK_call, cxK_callX, cxK_make, bindT.go, Tg.slots, Tg.slots.go, wipe, putBack, dOnly, ixN, bls_map, pures_map', pures_mapf, toDs_mapf, toDs_map', ints_map, E.keeps, isN, isL, modR, modPath, appAt, hL, hx, dr_setR, d1, a0', hi]
      exact ⟨i, rfl, hi2, L, _, C, t + 1, rfl, by omega⟩
    · obtain ⟨y, L', hLe⟩ : ∃ y L', L = y :: L' := by
        cases L with
        | nil => exact absurd rfl hL
        | cons y L' => exact ⟨y, L', rfl⟩
      obtain ⟨i, hi, hi2⟩ := fin y
      have hp := fun r => dr_popA (r := r) (C := C) (t := (t : Int)) hLe
      subst hr
      simp [d_law_take, start, O.isD, O.flat, isInst, isTy, tyNames, tyN, tyNs, anyN, O.toD, eqOk, D.plain, D.depth, D.eqv, D.flat, E.place, E.quiet, E.quiet.go, E.quietO, stEs, stE, asgT, cxK_own, cxK_cel, cxK_call, cxK_callX, cxK_make, bindT.go, Tg.slots, Tg.slots.go, wipe, putBack, dOnly, ixN, bls_map, pures_map', pures_mapf, toDs_mapf, toDs_map', ints_map, E.keeps, isN, isL, modR, modPath, appAt, hL, hp, dr_setR, d1, a0', hi, E.isCon]
      exact ⟨i, rfl, hi2, L', _, C, t, rfl, by omega⟩
  · obtain ⟨i, hi, hi2⟩ := fin r
    have hr2 : (r == 0) = false := by simpa using hr
    simp [d_law_take, start, O.isD, O.flat, isInst, isTy, tyNames, tyN, tyNs, anyN, O.toD, eqOk, D.plain, D.depth, D.eqv, D.flat, E.place, E.quiet, E.quiet.go, E.quietO, stEs, stE, asgT, cxK_own, cxK_cel, cxK_call, cxK_callX, cxK_make, bindT.go, Tg.slots, Tg.slots.go, wipe, putBack, dOnly, ixN, bls_map, pures_map', pures_mapf, toDs_mapf, toDs_map', ints_map, E.keeps, isN, isL, modR, modPath, appAt, hr, hr2, dr_setR, d1, a0', hi]
    exact ⟨i, rfl, hi2, L, _, C, t, rfl, by omega⟩
end K34
end Py
end

section
set_option linter.all false
set_option Elab.async false
/-! DB: drawn things. -/
namespace Py
theorem Dr_tab {n : Nat} {sto : List O} (h : Dr n sto) : sto[0]? = some (.tab 23) := by
  obtain ⟨L, r, C, t, rfl, _⟩ := h
  rfl
namespace K34
variable {sto : List O}
theorem w_begun {ns : List Int} (hl : ns.length ≤ 63) {m : Nat} (hm : 1 ≤ m) : ∃ L C, callD loop prog m 10 [.scr (ns.map .int)] sto = some (dr L 0 C 0, sto) := by
  obtain ⟨k, rfl⟩ : ∃ k, m = k + 1 := ⟨m - 1, by omega⟩
  refine ⟨(ns.filter fun i => decide ((1000000000000000000 : Int) ≤ (i.natAbs : Int))).map fun i => (i.natAbs : Int) - 1000000000000000000, ns.map fun i => (i.natAbs : Int), ?_⟩
  have q4 : lenOk ns.length = true := lenOk_of (by omega)
  refine ends_eq (run_def (d := d_law_begun) rfl rfl ?_)
  simp [d_law_begun, start, O.isD, O.flat, isInst, isTy, tyNames, tyN, tyNs, anyN, O.toD, eqOk, D.plain, D.depth, D.eqv, D.flat, E.place, E.quiet, E.quiet.go, E.quietO, stEs, stE, asgT, cxK_own, cxK_cel, cxK_call, cxK_callX, cxK_make, bindT.go, Tg.slots, Tg.slots.go, wipe, putBack, dOnly, ixN, bls_map, pures_map', pures_mapf, toDs_mapf, toDs_map', ints_map, E.keeps, isN, isL, modR, modPath, appAt]
  refine run_filt ns .int (fun i => .int ((i.natAbs : Int) - 1000000000000000000)) (fun i => decide ((1000000000000000000 : Int) ≤ (i.natAbs : Int))) ?_
  simp [start, O.isD, O.flat, isInst, isTy, tyNames, tyN, tyNs, anyN, O.toD, eqOk, D.plain, D.depth, D.eqv, D.flat, E.place, E.quiet, E.quiet.go, E.quietO, stEs, stE, asgT, cxK_own, cxK_cel, cxK_call, cxK_callX, cxK_make, bindT.go, Tg.slots, Tg.slots.go, wipe, putBack, dOnly, ixN, bls_map, pures_map', pures_mapf, toDs_mapf, toDs_map', ints_map, E.keeps, isN, isL, modR, modPath, appAt, q4]
  refine run_map ns .int (fun i => .int (i.natAbs : Int)) ?_
  simp [start, O.isD, O.flat, isInst, isTy, tyNames, tyN, tyNs, anyN, O.toD, eqOk, D.plain, D.depth, D.eqv, D.flat, E.place, E.quiet, E.quiet.go, E.quietO, stEs, stE, asgT, cxK_own, cxK_cel, cxK_call, cxK_callX, cxK_make, bindT.go, Tg.slots, Tg.slots.go, wipe, putBack, dOnly, ixN, bls_map, pures_map', pures_mapf, toDs_mapf, toDs_map', ints_map, E.keeps, isN, isL, modR, modPath, appAt, q4]
  refine ⟨rfl, ?_⟩
  simp [dr, kL, kR, kC, kT, Function.comp_def]
theorem w_pick {n : Nat} {sto : List O} (h : Dr n sto) (hn : n ≤ 10 ^ 8) {w : Bool} {xs : List D} (h0 : 0 < xs.length) (h1 : xs.length ≤ 1000) {m : Nat} (hm : 3 ≤ m) : ∃ (x : D) (sto' : List O), callD loop prog m 13 [.cell 1, sq w xs] sto = some (.d x, sto') ∧ x ∈ xs ∧ Dr (n + 1) sto' := by
  obtain ⟨k, rfl⟩ : ∃ k, m = k + 3 := ⟨m - 3, by omega⟩
  obtain ⟨i, sto', e1, e2, e3⟩ := w_take (n := n) h hn h0 h1 (m := k + 2) (by omega)
  suffices hE : Ends (callD loop prog (k + 3) 13 [.cell 1, sq w xs] sto) fun b => b = (.d (xs[i]), sto') by
    exact ⟨xs[i], sto', ends_eq hE, List.getElem_mem _, e3⟩
  refine run_def (d := d_law_pick) rfl rfl ?_
  simp [d_law_pick, start, O.isD, O.flat, isInst, isTy, tyNames, tyN, tyNs, anyN, O.toD, eqOk, D.plain, D.depth, D.eqv, D.flat, E.place, E.quiet, E.quiet.go, E.quietO, stEs, stE, asgT, cxK_own, cxK_cel, cxK_call, cxK_callX, cxK_make, bindT.go, Tg.slots, Tg.slots.go, wipe, putBack, dOnly, ixN, bls_map, pures_map', pures_mapf, toDs_mapf, toDs_map', ints_map, E.keeps, isN, isL, modR, modPath, appAt, e1, sq_item e2]
theorem w_pickL {n : Nat} {sto : List O} (h : Dr n sto) (hn : n ≤ 10 ^ 8) {xs : List D} (h0 : 0 < xs.length) (h1 : xs.length ≤ 1000) {m : Nat} (hm : 3 ≤ m) : ∃ (x : D) (sto' : List O), callD loop prog m 13 [.cell 1, .lst xs] sto = some (.d x, sto') ∧ x ∈ xs ∧ Dr (n + 1) sto' := w_pick (w := false) h hn h0 h1 hm
theorem map_eraseIdx {α β : Type} (f : α → β) : ∀ (l : List α) (i : Nat), (l.map f).eraseIdx i = (l.eraseIdx i).map f
  | [], _ => rfl
  | x :: l, 0 => rfl
  | x :: l, i + 1 => by simp only [List.map_cons, List.eraseIdx_cons_succ, map_eraseIdx f l i]
theorem popI {l : List D} {i : Nat} (h : i < l.length) (hl : l.length ≤ 1000000) : popAt [.int (i : Nat)] (.lst (l.map .d)) = some (.lst ((l.eraseIdx i).map .d), .d l[i]) := by
  have h1 : ixN (l.map O.d).length (i : Int) = some i := ixN_nat (by simpa using h)
  have h2 : (l.map O.d)[i]? = some (.d l[i]) := by simp [h]
  have h3 : (O.pures (l.map .d)).isNone = false := by rw [pures_map']; rfl
  have h4 : -(2 : Int) ^ 62 ≤ (i : Int) := by omega
  have h5 : (i : Int) < 2 ^ 62 := by omega
  simp only [popAt, h1, h2, h3, h4, h5, decide_true, Bool.and_self, Bool.not_true, Bool.or_self, if_neg Bool.false_ne_true, map_eraseIdx]
theorem pop1 {l : List D} {x : D} : popAt [] (.lst ((l ++ [x]).map .d)) = some (.lst (l.map .d), .d x) := by
  have h2 : ((l ++ [x]).map O.d)[((l ++ [x]).map O.d).length - 1]? = some (.d x) := by simp
  simp only [popAt, h2]
  simp
theorem ne_nil (l : List D) (h : l.length ≤ 1000) (hp : D.plains l = true) (hd : D.depths l ≤ 60) : cop .ne (.lst l) (.lst []) = some (!l.isEmpty) := by
  have e : eqOk (.lst l) (.lst []) = true := by
    simp [eqOk, D.plain, D.depth, hp, D.plains, D.depths]
    omega
  rw [show cop .ne (D.lst l) (.lst []) = if eqOk (D.lst l) (.lst []) then some (!D.eqv (D.lst l) (.lst [])) else none from rfl, e, if_pos rfl]
  cases l <;> simp [D.eqv, D.eqvs]
theorem plains_mem : ∀ {l : List D}, (∀ x ∈ l, x.plain = true) → D.plains l = true
  | [], _ => rfl
  | x :: l, h => by
    rw [D.plains, h x List.mem_cons_self, plains_mem fun y hy => h y (List.mem_cons_of_mem _ hy)]
    rfl
theorem depths_mem {k : Nat} : ∀ {l : List D}, (∀ x ∈ l, x.depth ≤ k) → D.depths l ≤ k
  | [], _ => by simp [D.depths]
  | x :: l, h => by
    rw [D.depths]
    exact Nat.max_le.mpr ⟨h x List.mem_cons_self, depths_mem fun y hy => h y (List.mem_cons_of_mem _ hy)⟩
theorem eraseIdx_perm {α : Type} : ∀ {l : List α} {i : Nat} (h : i < l.length), (l[i] :: l.eraseIdx i).Perm l
  | x :: l, 0, _ => .refl _
  | x :: l, i + 1, h => by
    have ih := eraseIdx_perm (l := l) (i := i) (by simpa using h)
    exact (List.Perm.swap _ _ _).trans (.cons x ih)
theorem w_shuffled {n : Nat} {sto : List O} (h : Dr n sto) {xs : List Int} (hx : xs.length ≤ 1000) (hn : n + 1000 ≤ 10 ^ 8) {m : Nat} (hm : 3 ≤ m) : ∃ (ys : List Int) (sto' : List O), callD loop prog m 14 [.cell 1, .lst (xs.map .int)] sto = some (.lst (ys.map fun i => .d (.int i)), sto') ∧ ys.Perm xs ∧ Dr (n + xs.length) sto' := by
  obtain ⟨k, rfl⟩ : ∃ k, m = k + 3 := ⟨m - 3, by omega⟩
  suffices hE : Ends (callD loop prog (k + 3) 14 [.cell 1, .lst (xs.map .int)] sto) fun b => ∃ ys : List Int, b.1 = .lst (ys.map fun i => .d (.int i)) ∧ ys.Perm xs ∧ Dr (n + xs.length) b.2 by
    obtain ⟨⟨b1, b2⟩, h1, ys, rfl, h2, h3⟩ := hE
    exact ⟨ys, b2, h1, h2, h3⟩
  refine run_def (d := d_law_shuffled) rfl rfl ?_
  simp [-w_exs1, d_law_shuffled, start, O.isD, O.flat, isInst, isTy, tyNames, tyN, tyNs, anyN, O.toD, eqOk, D.plain, D.depth, D.eqv, D.flat, E.place, E.quiet, E.quiet.go, E.quietO, stEs, stE, asgT, cxK_own, cxK_cel, cxK_call, cxK_callX, cxK_make, bindT.go, Tg.slots, Tg.slots.go, wipe, putBack, dOnly, ixN, bls_map, pures_map', pures_mapf, toDs_mapf, toDs_map', ints_map, E.keeps, isN, isL, modR, modPath, appAt]
  rw [w_exs1]
  simp [-w_exs1, start, O.isD, O.flat, isInst, isTy, tyNames, tyN, tyNs, anyN, O.toD, eqOk, D.plain, D.depth, D.eqv, D.flat, E.place, E.quiet, E.quiet.go, E.quietO, stEs, stE, asgT, cxK_own, cxK_cel, cxK_call, cxK_callX, cxK_make, bindT.go, Tg.slots, Tg.slots.go, wipe, putBack, dOnly, ixN, bls_map, pures_map', pures_mapf, toDs_mapf, toDs_map', ints_map, E.keeps, isN, isL, modR, modPath, appAt, bi]
  rw [w_exs1]
  refine run_whl (fun j s => ∃ (l ys : List Int), j = l.length ∧ (ys ++ l).Perm xs ∧ ∃ sto, Dr (n + ys.length) sto ∧ s = ⟨[some (.d (.cell 1)), some (.d (.lst (xs.map .int))), some (.lst (l.map fun i => .d (.int i))), some (.lst (ys.map fun i => .d (.int i)))], sto⟩) rfl (n := xs.length) ⟨xs, [], rfl, .refl _, sto, h, rfl⟩ ?_
  rintro j s ⟨l, ys, rfl, hp, sto, d, rfl⟩
  have hl : ys.length + l.length = xs.length := by
    have := hp.length_eq
    simpa using this
  simp [start, O.isD, O.flat, isInst, isTy, tyNames, tyN, tyNs, anyN, O.toD, eqOk, D.plain, D.depth, D.eqv, D.flat, E.place, E.quiet, E.quiet.go, E.quietO, stEs, stE, asgT, cxK_own, cxK_cel, cxK_call, cxK_callX, cxK_make, bindT.go, Tg.slots, Tg.slots.go, wipe, putBack, dOnly, ixN, bls_map, pures_map', pures_mapf, toDs_mapf, toDs_map', ints_map, E.keeps, isN, isL, modR, modPath, appAt]
  refine ⟨fun e => ?_, fun e => ?_⟩
  · subst e
    simp at hp hl
    refine ⟨ys, rfl, hp, ?_⟩
    rw [← hl]
    exact d
  · have hpos : 0 < l.length := List.length_pos_iff.mpr e
    obtain ⟨i, sto2, e1, e2, e3⟩ := w_take (n := n + ys.length) d (by omega) (a := l.length) hpos (by omega) (m := k + 2) (by omega)
    have pp : popAt [.int (i : Nat)] (.lst (l.map fun i => .d (.int i))) = some (.lst ((l.eraseIdx i).map fun i => .d (.int i)), .d (.int l[i])) := by
      have := popI (l := l.map .int) (i := i) (by simpa using e2) (by simp; omega)
      simpa [Function.comp_def, map_eraseIdx] using this
    have q1 : lenOk (ys.length + 1) = true := lenOk_of (by omega)
    simp [start, O.isD, O.flat, isInst, isTy, tyNames, tyN, tyNs, anyN, O.toD, eqOk, D.plain, D.depth, D.eqv, D.flat, E.place, E.quiet, E.quiet.go, E.quietO, stEs, stE, asgT, cxK_own, cxK_cel, cxK_call, cxK_callX, cxK_make, bindT.go, Tg.slots, Tg.slots.go, wipe, putBack, dOnly, ixN, bls_map, pures_map', pures_mapf, toDs_mapf, toDs_map', ints_map, E.keeps, isN, isL, modR, modPath, appAt, e1, pp, bi, q1]
    refine ⟨l.length - 1, by omega, l.eraseIdx i, by rw [List.length_eraseIdx_of_lt e2], ys ++ [l[i]], ?_, ?_, ?_⟩
    · rw [List.append_assoc]
      exact (List.Perm.append_left ys (eraseIdx_perm e2)).trans hp
    · simpa [Nat.add_assoc] using e3
    · simp
end K34
end Py
end

section
set_option linter.all false
set_option Elab.async false
/-! PA: what is asked of numbers, stacks, sequences. -/
namespace Py
def betB (lo hi : Int) : D → Bool
  | .int i => decide (lo ≤ i) && decide (i ≤ hi)
  | _ => false
def stackB (n : Int) : D → Bool
  | .lst xs | .tup xs => xs.all (betB 0 n)
  | _ => false
def toI : D → Int
  | .int i => i
  | _ => 0
def rngI (n : Nat) : List Int := (List.range n).map fun (j : Nat) => (j : Int)
theorem rngI_len {n : Nat} : (rngI n).length = n := by simp [rngI]
theorem q_rangeI {n : Nat} (h : n < 2 ^ 24) : itk .range [.int (n : Int)] = some ((rngI n).map .int) := by
  rw [q_range h, rngI, List.map_map]
  rfl
def allB (n : Nat) : D → Bool
  | .tup xs => xs.all (betB 0 ((n : Int) - 1)) && decide (isort (xs.map toI) = rngI n)
  | _ => false
theorem bet_ints {lo hi : Int} : ∀ {xs : List D}, xs.all (betB lo hi) = true → xs = (xs.map toI).map .int
  | [], _ => rfl
  | x :: xs, h => by
    rw [List.all_cons, Bool.and_eq_true] at h
    have e := bet_ints h.2
    cases x <;> simp [betB] at h
    rw [List.map_cons, List.map_cons, ← e]
    rfl
namespace K34
variable {sto : List O}
theorem v_bet {d : D} {lo hi : Int} (h : okD d = true) {m : Nat} (hm : 2 ≤ m) : callD loop prog m 1 [d, .int lo, .int hi] sto = some (.d (.bl (betB lo hi d)), sto) := by
  rw [v_is_between h hm]
  cases d <;> rfl
theorem v_is_index {d : D} {n : Int} (h : okD d = true) {m : Nat} (hm : 3 ≤ m) : callD loop prog m 4 [d, .int n] sto = some (.d (.bl (betB 0 (n - 1) d)), sto) := by
  obtain ⟨k, rfl⟩ : ∃ k, m = k + 3 := ⟨m - 3, by omega⟩
  refine ends_eq (run_def (d := d_is_index) rfl rfl ?_)
  have hc := noCell_ok h
  simp [d_is_index, v_bet h, start, O.isD, O.flat, isInst, isTy, tyNames, tyN, tyNs, anyN, O.toD, eqOk, D.plain, D.depth, D.eqv, D.flat, E.place, E.quiet, E.quiet.go, E.quietO, stEs, stE, asgT, cxK_own, cxK_cel, cxK_call, cxK_callX, cxK_make, bindT.go, Tg.slots, Tg.slots.go, wipe, putBack, dOnly, ixN, bls_map, pures_map', pures_mapf, toDs_mapf, toDs_map', ints_map, E.keeps, isN, isL, modR, modPath, appAt]
theorem v_need_many {d : D} (h : okD d = true) {m : Nat} (hm : 3 ≤ m) : callXD loop prog m 3 [d] sto = some (if betB 1 8 d then none else some 1, sto) := by
  obtain ⟨k, rfl⟩ : ∃ k, m = k + 3 := ⟨m - 3, by omega⟩
  refine ends_eq (run_defX (d := d_need_many) rfl rfl ?_)
  simp [d_need_many, v_bet h, start, O.isD, O.flat, isInst, isTy, tyNames, tyN, tyNs, anyN, O.toD, eqOk, D.plain, D.depth, D.eqv, D.flat, E.place, E.quiet, E.quiet.go, E.quietO, stEs, stE, asgT, cxK_own, cxK_cel, cxK_call, cxK_callX, cxK_make, bindT.go, Tg.slots, Tg.slots.go, wipe, putBack, dOnly, ixN, bls_map, pures_map', pures_mapf, toDs_mapf, toDs_map', ints_map, E.keeps, isN, isL, modR, modPath, appAt]
theorem v_is_stack {d : D} {n : Nat} (h : okD d = true) {m : Nat} (hm : 3 ≤ m) : callD loop prog m 7 [.int (n : Nat), d] sto = some (.d (.bl (stackB n d)), sto) := by
  obtain ⟨k, rfl⟩ : ∃ k, m = k + 3 := ⟨m - 3, by omega⟩
  refine ends_eq (run_def (d := d_is_stack) rfl rfl ?_)
  simp [d_is_stack, v_is_list h, start, O.isD, O.flat, isInst, isTy, tyNames, tyN, tyNs, anyN, O.toD, eqOk, D.plain, D.depth, D.eqv, D.flat, E.place, E.quiet, E.quiet.go, E.quietO, stEs, stE, asgT, cxK_own, cxK_cel, cxK_call, cxK_callX, cxK_make, bindT.go, Tg.slots, Tg.slots.go, wipe, putBack, dOnly, ixN, bls_map, pures_map', pures_mapf, toDs_mapf, toDs_map', ints_map, E.keeps, isN, isL, modR, modPath, appAt]
  cases d <;> simp [isLis, stackB] <;> simp [okD] at h
  all_goals
    rename_i xs
    refine run_map xs id (fun x => .bl (betB 0 n x)) ?_
    simp [h.1, start, O.isD, O.flat, isInst, isTy, tyNames, tyN, tyNs, anyN, O.toD, eqOk, D.plain, D.depth, D.eqv, D.flat, E.place, E.quiet, E.quiet.go, E.quietO, stEs, stE, asgT, cxK_own, cxK_cel, cxK_call, cxK_callX, cxK_make, bindT.go, Tg.slots, Tg.slots.go, wipe, putBack, dOnly, ixN, bls_map, pures_map', pures_mapf, toDs_mapf, toDs_map', ints_map, E.keeps, isN, isL, modR, modPath, appAt]
    intro x hx
    simp [v_bet (okDs_mem h.2 x hx), noCell_ok (okDs_mem h.2 x hx), start, O.isD, O.flat, isInst, isTy, tyNames, tyN, tyNs, anyN, O.toD, eqOk, D.plain, D.depth, D.eqv, D.flat, E.place, E.quiet, E.quiet.go, E.quietO, stEs, stE, asgT, cxK_own, cxK_cel, cxK_call, cxK_callX, cxK_make, bindT.go, Tg.slots, Tg.slots.go, wipe, putBack, dOnly, ixN, bls_map, pures_map', pures_mapf, toDs_mapf, toDs_map', ints_map, E.keeps, isN, isL, modR, modPath, appAt]
theorem v_are_all {d : D} {n : Nat} (h : okD d = true) (hn : n ≤ 1000) (hl : ∀ xs, d = .tup xs → xs.length < 64) {m : Nat} (hm : 4 ≤ m) : callD loop prog m 5 [.int (n : Nat), d] sto = some (.d (.bl (allB n d)), sto) := by
  obtain ⟨k, rfl⟩ : ∃ k, m = k + 4 := ⟨m - 4, by omega⟩
  refine ends_eq (run_def (d := d_are_all) rfl rfl ?_)
  have hr := q_rangeI (n := n) (by omega)
  have q1 : lenOk n = true := lenOk_of (by omega)
  simp [-w_exs1, d_are_all, start, O.isD, O.flat, isInst, isTy, tyNames, tyN, tyNs, anyN, O.toD, eqOk, D.plain, D.depth, D.eqv, D.flat, E.place, E.quiet, E.quiet.go, E.quietO, stEs, stE, asgT, cxK_own, cxK_cel, cxK_call, cxK_callX, cxK_make, bindT.go, Tg.slots, Tg.slots.go, wipe, putBack, dOnly, ixN, bls_map, pures_map', pures_mapf, toDs_mapf, toDs_map', ints_map, E.keeps, isN, isL, modR, modPath, appAt]
  rw [w_exs1]
  by_cases ht : ∃ xs, d = .tup xs
  · obtain ⟨xs, rfl⟩ := ht
    have hx := hl xs rfl
    simp [okD] at h
    simp [-w_exs1, start, O.isD, O.flat, isInst, isTy, tyNames, tyN, tyNs, anyN, O.toD, eqOk, D.plain, D.depth, D.eqv, D.flat, E.place, E.quiet, E.quiet.go, E.quietO, stEs, stE, asgT, cxK_own, cxK_cel, cxK_call, cxK_callX, cxK_make, bindT.go, Tg.slots, Tg.slots.go, wipe, putBack, dOnly, ixN, bls_map, pures_map', pures_mapf, toDs_mapf, toDs_map', ints_map, E.keeps, isN, isL, modR, modPath, appAt]
    refine run_map xs id (fun x => .bl (betB 0 ((n : Int) - 1) x)) ?_
    simp [-w_exs1, h.1, start, O.isD, O.flat, isInst, isTy, tyNames, tyN, tyNs, anyN, O.toD, eqOk, D.plain, D.depth, D.eqv, D.flat, E.place, E.quiet, E.quiet.go, E.quietO, stEs, stE, asgT, cxK_own, cxK_cel, cxK_call, cxK_callX, cxK_make, bindT.go, Tg.slots, Tg.slots.go, wipe, putBack, dOnly, ixN, bls_map, pures_map', pures_mapf, toDs_mapf, toDs_map', ints_map, E.keeps, isN, isL, modR, modPath, appAt]
    refine ⟨fun x hx => ?_, fun x hx hb => ?_, fun ha => ?_⟩
    · simp [v_is_index (okDs_mem h.2 x hx), noCell_ok (okDs_mem h.2 x hx), start, O.isD, O.flat, isInst, isTy, tyNames, tyN, tyNs, anyN, O.toD, eqOk, D.plain, D.depth, D.eqv, D.flat, E.place, E.quiet, E.quiet.go, E.quietO, stEs, stE, asgT, cxK_own, cxK_cel, cxK_call, cxK_callX, cxK_make, bindT.go, Tg.slots, Tg.slots.go, wipe, putBack, dOnly, ixN, bls_map, pures_map', pures_mapf, toDs_mapf, toDs_map', ints_map, E.keeps, isN, isL, modR, modPath, appAt]
    · rw [w_exs1]
      have : allB n (.tup xs) = false := by
        simp only [allB, Bool.and_eq_false_iff]
        exact .inl (List.all_eq_false.mpr ⟨x, hx, by simp [hb]⟩)
      simp [this]
    · have ha' : xs.all (betB 0 ((n : Int) - 1)) = true := List.all_eq_true.mpr ha
      have e := bet_ints ha'
      have ei : intsD xs = some (xs.map toI) := by
        conv => lhs; rw [e]
        exact ints_map' _
      have hs : bi .sorted [.tup xs] = some (.lst (((isort (xs.map toI)).map .int).map .d)) := by
        simp only [bi, ei, Option.bind_some, List.length_map]
        rw [if_pos hx, List.map_map]
        rfl
      have q2 : lenOk (rngI n).length = true := by rw [rngI_len]; exact q1
      have hb : bit .list ((rngI n).map .int) = some (.lst (((rngI n).map .int).map .d)) := by
        simp only [bit, List.length_map, q2, if_true]
      rw [w_exs1]
      simp [-List.map_map, start, O.isD, O.flat, isInst, isTy, tyNames, tyN, tyNs, anyN, O.toD, eqOk, D.plain, D.depth, D.eqv, D.flat, E.place, E.quiet, E.quiet.go, E.quietO, stEs, stE, asgT, cxK_own, cxK_cel, cxK_call, cxK_callX, cxK_make, bindT.go, Tg.slots, Tg.slots.go, wipe, putBack, dOnly, ixN, bls_map, pures_map', pures_mapf, toDs_mapf, toDs_map', ints_map, E.keeps, isN, isL, modR, modPath, appAt, hs, hr, hb, cop_ints, allB, ha']
  · have : allB n d = false := by
      cases d <;> first | rfl | exact absurd ⟨_, rfl⟩ ht
    have hc := noCell_ok h
    cases d <;> simp [okD] at h <;> first | exact absurd ⟨_, rfl⟩ ht | (simp [-w_exs1, start, O.isD, O.flat, isInst, isTy, tyNames, tyN, tyNs, anyN, O.toD, eqOk, D.plain, D.depth, D.eqv, D.flat, E.place, E.quiet, E.quiet.go, E.quietO, stEs, stE, asgT, cxK_own, cxK_cel, cxK_call, cxK_callX, cxK_make, bindT.go, Tg.slots, Tg.slots.go, wipe, putBack, dOnly, ixN, bls_map, pures_map', pures_mapf, toDs_mapf, toDs_map', ints_map, E.keeps, isN, isL, modR, modPath, appAt]; rw [w_exs1]; simp [this])
theorem v_need_order {d : D} {n : Nat} (h : okD d = true) (hn : n ≤ 1000) (hl : ∀ xs, d = .tup xs → xs.length < 64) {m : Nat} (hm : 5 ≤ m) : callXD loop prog m 6 [.int (n : Nat), d] sto = some (if allB n d then none else some 2, sto) := by
  obtain ⟨k, rfl⟩ : ∃ k, m = k + 5 := ⟨m - 5, by omega⟩
  refine ends_eq (run_defX (d := d_need_order) rfl rfl ?_)
  simp [d_need_order, v_are_all h hn hl, start, O.isD, O.flat, isInst, isTy, tyNames, tyN, tyNs, anyN, O.toD, eqOk, D.plain, D.depth, D.eqv, D.flat, E.place, E.quiet, E.quiet.go, E.quietO, stEs, stE, asgT, cxK_own, cxK_cel, cxK_call, cxK_callX, cxK_make, bindT.go, Tg.slots, Tg.slots.go, wipe, putBack, dOnly, ixN, bls_map, pures_map', pures_mapf, toDs_mapf, toDs_map', ints_map, E.keeps, isN, isL, modR, modPath, appAt]
end K34
end Py
end

section
set_option linter.all false
set_option Elab.async false
/-! PB: popped_of. -/
namespace Py
open Pop
/-- how many are taken -/
def trO (n : Nat) (τ : Nat → Nat) : O := .lst ((List.range n).map fun q => .d (.int (τ q : Nat)))
def trD (n : Nat) (τ : Nat → Nat) : List D := (List.range n).map fun q => .int (τ q : Nat)
@[simp] theorem trO_cell {n : Nat} {τ : Nat → Nat} : noCell (trO n τ) = true := by rfl
@[simp high] theorem trO_isD {n : Nat} {τ : Nat → Nat} : (trO n τ).isD = false := by rfl
@[simp high] theorem trO_flat {n : Nat} {τ : Nat → Nat} : (trO n τ).flat = some (.lst (trD n τ)) := by
  rw [trO, O.flat, pures_rng]
  rfl
@[simp high] theorem trO_toD {n : Nat} {τ : Nat → Nat} : (trO n τ).toD = .lst (trD n τ) := by
  rw [trO, O.toD, toDs_rng]
  rfl
theorem trO_item {n : Nat} {τ : Nat → Nat} {i : Nat} (h : i < n) : item (trO n τ) (.int (i : Nat)) = some (.d (.int (τ i : Nat))) := rng_itemO (fun q => .int (τ q : Nat)) h
theorem trO_up {n : Nat} {τ : Nat → Nat} {i : Nat} (h : i < n) : setAt (.int (i : Nat)) (.d (.int ((τ i : Int) + 1))) (trO n τ) = some (trO n (fun q => if q = i then τ q + 1 else τ q), ()) := by
  rw [trO, rng_set (fun q => .int (τ q : Nat)) _ h]
  simp only [trO]
  congr 3
  apply List.map_congr_left
  intro q _
  by_cases e : q = i
  · subst e
    simp
  · simp [e]
/-- the tree so far -/
def dcO (T : List (Nat × Nat)) : O := .dic (T.map fun p => (.int (p.1 : Nat), .d (.int (p.2 : Nat))))
def dcD (T : List (Nat × Nat)) : List (D × D) := T.map fun p => (.int (p.1 : Nat), .int (p.2 : Nat))
@[simp] theorem dcO_cell {T : List (Nat × Nat)} : noCell (dcO T) = true := by rfl
@[simp high] theorem dcO_isD {T : List (Nat × Nat)} : (dcO T).isD = false := by rfl
theorem pureKs_T : ∀ T : List (Nat × Nat), O.pureKs (T.map fun p => (.int (p.1 : Nat), .d (.int (p.2 : Nat)))) = some (dcD T)
  | [] => rfl
  | (a, b) :: T => by
    rw [List.map_cons, O.pureKs, pureKs_T T]
    rfl
@[simp high] theorem dcO_flat {T : List (Nat × Nat)} : (dcO T).flat = some (.dic (dcD T)) := by
  rw [dcO, O.flat, pureKs_T]
  rfl
theorem eqv_nat (a b : Nat) : D.eqv (.int (a : Int)) (.int (b : Int)) = decide (a = b) := by
  rw [D.eqv, Bool.eq_iff_iff]
  simp
  omega
theorem dget_T (q : Nat) : ∀ T : List (Nat × Nat), dget (.int (q : Nat)) (dcD T) = (T.lookup q).map fun v => .int (v : Nat)
  | [] => rfl
  | (a, b) :: T => by
    have ih := dget_T q T
    unfold dcD at ih ⊢
    rw [List.map_cons, dget, eqv_nat]
    by_cases e : a = q
    · subst e
      simp [List.lookup]
    · have e2 : (q == a) = false := by simpa using fun z => e z.symm
      simp only [e, decide_false, Bool.false_eq_true, if_false, List.lookup, e2]
      exact ih
@[simp high] theorem notin_T (q : Nat) (T : List (Nat × Nat)) : cop .notin (.int (q : Nat)) (.dic (dcD T)) = some (!(T.lookup q).isSome) := by
  rw [show cop .notin (.int (q : Nat)) (.dic (dcD T)) = some (!(dget (.int (q : Nat)) (dcD T)).isSome) from rfl, dget_T]
  simp
theorem item_T {q v : Nat} : ∀ {T : List (Nat × Nat)}, T.lookup q = some v → item (dcO T) (.int (q : Nat)) = some (.d (.int (v : Nat))) := by
  intro T h
  rw [show item (dcO T) (.int (q : Nat)) = ((T.map fun p => ((.int (p.1 : Nat), .d (.int (p.2 : Nat))) : D × O)).find? fun p => D.eqv p.1 (.int (q : Nat))).map (·.2) from rfl]
  induction T with
  | nil => cases h
  | cons y T ih =>
    obtain ⟨a, b⟩ := y
    rw [List.map_cons, List.find?_cons, eqv_nat]
    by_cases e : a = q
    · subst e
      simp [List.lookup] at h
      subst h
      simp
    · have e2 : (q == a) = false := by simpa using fun z => e z.symm
      rw [List.lookup, e2] at h
      simp only [e, decide_false]
      exact ih h
theorem set_T {q v : Nat} {T : List (Nat × Nat)} (h : T.lookup q = none) (hl : T.length ≤ 1000) : setAt (.int (q : Nat)) (.d (.int (v : Nat))) (dcO T) = some (dcO (T ++ [(q, v)]), ()) := by
  have q1 : lenOk (T.length + 1) = true := lenOk_of (by omega)
  have hn : ((T.map fun p => ((.int (p.1 : Nat), .d (.int (p.2 : Nat))) : D × O)).any fun p => D.eqv p.1 (.int (q : Nat))) = false := by
    rw [List.any_eq_false]
    intro x hx
    obtain ⟨⟨a, b⟩, hm, rfl⟩ := List.mem_map.mp hx
    rw [eqv_nat]
    simp
    rintro rfl
    have : ∀ {U : List (Nat × Nat)}, (a, b) ∈ U → U.lookup a ≠ none := by
      intro U
      induction U with
      | nil => intro h; cases h
      | cons y U ih =>
        intro h
        obtain ⟨c, d⟩ := y
        by_cases e2 : a = c
        · subst e2
          simp [List.lookup]
        · have hb : (a == c) = false := by simpa using e2
          rw [List.lookup, hb]
          rcases List.mem_cons.mp h with h | h
          · cases h
            exact (e2 rfl).elim
          · exact ih h
    exact this hm h
  unfold dcO
  simp only [setAt, keyOf, Bool.true_and, List.length_map, q1, if_true, putKs, hn, Bool.false_eq_true, if_false, List.map_append, List.map_cons, List.map_nil]
/-- stacks as they are given -/
def stD (w : Bool) (n : Nat) (S : Nat → List Nat) : D := sq w ((List.range n).map fun q => sq w ((S q).map fun i => .int (i : Nat)))
@[simp] theorem stD_cell {w : Bool} {n : Nat} {S : Nat → List Nat} : noCell (.d (stD w n S)) = true := by simp [stD]
theorem stD_item {w : Bool} {n : Nat} {S : Nat → List Nat} {i : Nat} (h : i < n) : item (.d (stD w n S)) (.int (i : Nat)) = some (.d (sq w ((S i).map fun i => .int (i : Nat)))) := by
  rw [stD, rng_item (fun q => sq w ((S q).map fun i => .int (i : Nat))) h]
theorem st_item {w : Bool} {l : List Nat} {i x : Nat} (h : l[i]? = some x) : item (.d (sq w (l.map fun i => .int (i : Nat)))) (.int (i : Nat)) = some (.d (.int (x : Nat))) := by
  have hl := (List.getElem?_eq_some_iff.mp h).1
  rw [sq_item (by simpa using hl)]
  simp
  exact congrArg Int.ofNat (List.getElem?_eq_some_iff.mp h).2
/-- what is left of stacks -/
def PopSpec (S : Nat → List Nat) (n : Nat) (r : D) : Prop :=
  (r = .non ∧ ∃ t, Reach S n (fun _ => 0) t ∧ ∃ q, q < n ∧ (S q).length ≤ t q) ∨
  ∃ t, Reach S n (fun _ => 0) t ∧ Term S n t ∧ (∀ q, q < n → t q < (S q).length) ∧ r = .tup [.tup ((List.range n).map fun q => .int (nx S n t q : Nat)), .tup (trD n t)]
theorem popSpec_one {S : Nat → List Nat} {n : Nat} {r r' : D} (h : PopSpec S n r) (h' : PopSpec S n r') : r = r' := by
  rcases h with ⟨rfl, t, h1, q, h2, h3⟩ | ⟨t, h1, h2, h3, rfl⟩
  · rcases h' with ⟨rfl, _⟩ | ⟨u, k1, k2, k3, rfl⟩
    · rfl
    · have := below h1 k1 k2 q
      have := k3 q h2
      omega
  · rcases h' with ⟨rfl, u, k1, q, k2, k3⟩ | ⟨u, k1, k2, k3, rfl⟩
    · have := below k1 h1 h2 q
      have := h3 q k2
      omega
    · rw [end_one h1 h2 k1 k2]
end Py
end

section
set_option linter.all false
set_option Elab.async false
/-! PC: popped_of. -/
namespace Py
open Pop
namespace K34
variable {sto : List O}
section
variable {S : Nat → List Nat} {n : Nat} (hS : ∀ q, n ≤ q → S q = []) (hI : ∀ q x, x ∈ S q → x ≤ n) {w : Bool} {od : D}
/-- the names' values -/
def pst (w : Bool) (n : Nat) (S : Nat → List Nat) (od : D) (sto : List O) (τ : Nat → Nat) (T : List (Nat × Nat)) (x5 x6 : Option O) : St := ⟨[some (.d (.int (n : Nat))), some (.d (stD w n S)), some (.d od), some (trO n τ), some (dcO T), x5, x6, none], sto⟩
@[simp] theorem mod3 {a b c e f g h : Option O} {n : Nat} {τ : Nat → Nat} {F : O → Option (O × Unit)} : modR 3 [] F ⟨[a, b, c, some (trO n τ), e, f, g, h], sto⟩ = (F (trO n τ)).map fun r => (r.2, ⟨[a, b, c, some r.1, e, f, g, h], sto⟩) := by rfl
@[simp] theorem mod4 {a b c e f g h : Option O} {T : List (Nat × Nat)} {F : O → Option (O × Unit)} : modR 4 [] F ⟨[a, b, c, e, some (dcO T), f, g, h], sto⟩ = (F (dcO T)).map fun r => (r.2, ⟨[a, b, c, e, some r.1, f, g, h], sto⟩) := by rfl
def lp1 : Py.S := .whl (.cmp .notin (.var 6) (.var 4))
  [.ite (.cmp .eq (.idx (.var 3) (.var 6)) (.bi .len [.idx (.var 1) (.var 6)]))
  [.ret (.con .non)]
  [],
  .set (.var 3) (.var 6) (.bin .add (.idx (.var 3) (.var 6)) (.con (.int 1))),
  .asg (.nm 6) (.idx (.idx (.var 1) (.var 6)) (.bin .sub (.idx (.var 3) (.var 6)) (.con (.int 1))))]
def lp2 : Py.S := .whl (.cmp .notin (.var 6) (.var 4))
  [.set (.var 4) (.var 6) (.idx (.idx (.var 1) (.var 6)) (.bin .sub (.idx (.var 3) (.var 6)) (.con (.int 1)))),
  .asg (.nm 6) (.idx (.var 4) (.var 6))]
def left (S : Nat → List Nat) (n : Nat) (τ : Nat → Nat) : Nat := ((List.range n).map fun q => (S q).length - τ q).sum
theorem left_lt {τ : Nat → Nat} {h : Nat} (hh : h < n) (hl : τ h < (S h).length) : left S n (fun q => if q = h then τ q + 1 else τ q) < left S n τ := by
  refine sum_lt (fun q _ => ?_) (List.mem_range.mpr hh) ?_
  · show (S q).length - (if q = h then τ q + 1 else τ q) ≤ _
    split <;> omega
  · show (S h).length - (if h = h then τ h + 1 else τ h) < _
    rw [if_pos rfl]
    omega
include hS hI in
theorem run_lp1 {c : Cx} (hl : c.lp = loop) (ho : c.own = [3, 4]) (hc : c.cel = []) (hn : n ≤ 1000) (hlen : ∀ q, (S q).length ≤ 1000) {p : Nat} {T : List (Nat × Nat)} {τ t : Nat → Nat} {k : Nat} (wy : Way S n p T τ t k) {x5 : Option O} {K : Out × St → Prop}
    (hK : ∀ τ' t' k', Way S n p T τ' t' k' → (T.lookup (itr (nx S n t') k' p)).isSome → K (.nx, pst w n S od sto τ' T x5 (some (.d (.int (itr (nx S n t') k' p : Nat))))))
    (hR : ∀ s, s.sto = sto → (∃ t', Reach S n (fun _ => 0) t' ∧ ∃ q, q < n ∧ (S q).length ≤ t' q) → K (.ret (.d .non), s)) :
    Ends (ex c lp1 (pst w n S od sto τ T x5 (some (.d (.int (itr (nx S n t) k p : Nat)))))) K := by
  unfold lp1
  refine run_whl (fun M s => ∃ τ t k, Way S n p T τ t k ∧ M = left S n τ ∧ s = pst w n S od sto τ T x5 (some (.d (.int (itr (nx S n t) k p : Nat))))) hl (n := left S n τ) ⟨τ, t, k, wy, rfl, rfl⟩ ?_
  rintro M s ⟨τ, t, k, wy, rfl, rfl⟩
  cases hx : (T.lookup (itr (nx S n t) k p)).isSome
  rotate_left
  · simp [-w_exs1, pst, start, isInst, isTy, tyNames, tyN, tyNs, anyN, eqOk, D.plain, D.depth, D.eqv, D.flat, E.place, E.quiet, E.quiet.go, E.quietO, stEs, stE, asgT, cxK_own, cxK_cel, cxK_call, cxK_callX, cxK_make, bindT.go, Tg.slots, Tg.slots.go, wipe, putBack, dOnly, ixN, bls_map, pures_map', pures_mapf, toDs_mapf, toDs_map', ints_map, E.keeps, isN, isL, appAt, hc, ho, hx]
    exact hK τ t k wy hx
  · have e : T.lookup (itr (nx S n t) k p) = none := by
      cases z : T.lookup (itr (nx S n t) k p) with
      | none => rfl
      | some v => rw [z] at hx; cases hx
    simp [-w_exs1, pst, start, isInst, isTy, tyNames, tyN, tyNs, anyN, eqOk, D.plain, D.depth, D.eqv, D.flat, E.place, E.quiet, E.quiet.go, E.quietO, stEs, stE, asgT, cxK_own, cxK_cel, cxK_call, cxK_callX, cxK_make, bindT.go, Tg.slots, Tg.slots.go, wipe, putBack, dOnly, ixN, bls_map, pures_map', pures_mapf, toDs_mapf, toDs_map', ints_map, E.keeps, isN, isL, appAt, hc, ho, hx]
    obtain ⟨t', k', wf, eh, hf⟩ := wy.fresh hS e
    rw [← eh] at e ⊢
    obtain ⟨h1, h2, h3⟩ := wf.step hI e hf
    generalize hh : itr (nx S n t') k' p = h at *
    have i1 := trO_item (τ := τ) h1
    have i2 := stD_item (w := w) (S := S) h1
    have hle := wf.le h h1
    rw [w_exs1]
    simp [-w_exs1, start, isInst, isTy, tyNames, tyN, tyNs, anyN, eqOk, D.plain, D.depth, D.eqv, D.flat, E.place, E.quiet, E.quiet.go, E.quietO, stEs, stE, asgT, cxK_own, cxK_cel, cxK_call, cxK_callX, cxK_make, bindT.go, Tg.slots, Tg.slots.go, wipe, putBack, dOnly, ixN, bls_map, pures_map', pures_mapf, toDs_mapf, toDs_map', ints_map, E.keeps, isN, isL, appAt, hc, ho, i1, i2]
    refine ⟨fun e2 => ?_, fun e2 => ?_⟩
    · rw [w_exs1]
      simp
      exact hR _ rfl ⟨t', wf.re, h, h1, by omega⟩
    · have hlt : t' h < (S h).length := by omega
      have g1 := nx_at (n := n) hlt
      have up := trO_up (τ := τ) h1
      have i3 := trO_item (τ := fun q => if q = h then τ q + 1 else τ q) h1
      simp at i3
      have i4 := st_item (w := w) g1
      have e4 : ((τ h : Int) + 1 - 1) = ((t' h : Nat) : Int) := by omega
      rw [w_exs1]
      simp [-w_exs1, start, isInst, isTy, tyNames, tyN, tyNs, anyN, eqOk, D.plain, D.depth, D.eqv, D.flat, E.place, E.quiet, E.quiet.go, E.quietO, stEs, stE, asgT, cxK_own, cxK_cel, cxK_call, cxK_callX, cxK_make, bindT.go, Tg.slots, Tg.slots.go, wipe, putBack, dOnly, ixN, bls_map, pures_map', pures_mapf, toDs_mapf, toDs_map', ints_map, E.keeps, isN, isL, appAt, hc, ho, i1, i2, up]
      rw [w_exs1]
      simp [-w_exs1, start, isInst, isTy, tyNames, tyN, tyNs, anyN, eqOk, D.plain, D.depth, D.eqv, D.flat, E.place, E.quiet, E.quiet.go, E.quietO, stEs, stE, asgT, cxK_own, cxK_cel, cxK_call, cxK_callX, cxK_make, bindT.go, Tg.slots, Tg.slots.go, wipe, putBack, dOnly, ixN, bls_map, pures_map', pures_mapf, toDs_mapf, toDs_map', ints_map, E.keeps, isN, isL, appAt, hc, ho, i2, i3, e4, i4]
      refine ⟨left S n (fun q => if q = h then τ q + 1 else τ q), left_lt h1 (by omega), _, t', k' + 1, h3 hlt, rfl, ?_⟩
      rw [itr_succ, hh]
      exact ⟨rfl, rfl⟩
theorem run_lp2 {c : Cx} (hl : c.lp = loop) (ho : c.own = [3, 4]) (hc : c.cel = []) (hn : n ≤ 900) {p : Nat} {T : List (Nat × Nat)} {τ t : Nat → Nat} {k : Nat} (wy : Way S n p T τ t k) (hT : (T.lookup (itr (nx S n t) k p)).isSome) {x5 : Option O} {K : Out × St → Prop}
    (hK : ∀ x6, K (.nx, pst w n S od sto τ (T ++ wayT t S n p k) x5 x6)) :
    Ends (ex c lp2 (pst w n S od sto τ T x5 (some (.d (.int (p : Nat)))))) K := by
  unfold lp2
  have dn := wy.done hT
  have len : ∀ j, j ≤ k → (T ++ wayT t S n p j).length ≤ n + 1 := by
    intro j hj
    have h1 := tree_len dn.1
    have h2 : (wayT t S n p j).length = j := by simp [wayT]
    have h3 : (wayT t S n p k).length = k := by simp [wayT]
    rw [List.length_append] at h1 ⊢
    omega
  refine run_whl (fun M s => ∃ j, j ≤ k ∧ M = k - j ∧ s = pst w n S od sto τ (T ++ wayT t S n p j) x5 (some (.d (.int (itr (nx S n t) j p : Nat))))) hl (n := k) ⟨0, Nat.zero_le _, rfl, by simp [wayT, itr]⟩ ?_
  rintro M s ⟨j, hj, rfl, rfl⟩
  by_cases hjk : j = k
  · subst hjk
    have hx : ((T ++ wayT t S n p j).lookup (itr (nx S n t) j p)).isSome = true := by
      rw [Pop.lookup_append, Option.isSome_or, hT]
      rfl
    simp [-w_exs1, pst, start, isInst, isTy, tyNames, tyN, tyNs, anyN, eqOk, D.plain, D.depth, D.eqv, D.flat, E.place, E.quiet, E.quiet.go, E.quietO, stEs, stE, asgT, cxK_own, cxK_cel, cxK_call, cxK_callX, cxK_make, bindT.go, Tg.slots, Tg.slots.go, wipe, putBack, dOnly, ixN, bls_map, pures_map', pures_mapf, toDs_mapf, toDs_map', ints_map, E.keeps, isN, isL, appAt, hc, ho, hx]
    exact hK _
  · have hlt : j < k := by omega
    have e := way_none wy hlt
    have hx : ((T ++ wayT t S n p j).lookup (itr (nx S n t) j p)).isSome = false := by rw [e]; rfl
    obtain ⟨h1, h2, h3⟩ := wy.on j hlt
    have htk := wy.tk _ h1
    rw [if_pos (.inr ⟨j, hlt, rfl⟩)] at htk
    have i1 := trO_item (τ := τ) h1
    have i2 := stD_item (w := w) (S := S) h1
    have i4 := st_item (w := w) (nx_at (n := n) h3)
    have e4 : ((τ (itr (nx S n t) j p) : Int) - 1) = ((t (itr (nx S n t) j p) : Nat) : Int) := by omega
    have s1 := set_T (v := nx S n t (itr (nx S n t) j p)) e (by have := len j hj; omega)
    have ee : T ++ wayT t S n p j ++ [(itr (nx S n t) j p, nx S n t (itr (nx S n t) j p))] = T ++ wayT t S n p (j + 1) := by
      rw [List.append_assoc]
      unfold wayT
      rw [List.range_succ, List.map_append, List.map_cons, List.map_nil, itr_succ]
    rw [ee] at s1
    have i5 : item (dcO (T ++ wayT t S n p (j + 1))) (.int (itr (nx S n t) j p : Nat)) = some (.d (.int (nx S n t (itr (nx S n t) j p) : Nat))) := by
      refine item_T ?_
      rw [← ee, Pop.lookup_append, e]
      simp [List.lookup]
    simp [-w_exs1, pst, start, isInst, isTy, tyNames, tyN, tyNs, anyN, eqOk, D.plain, D.depth, D.eqv, D.flat, E.place, E.quiet, E.quiet.go, E.quietO, stEs, stE, asgT, cxK_own, cxK_cel, cxK_call, cxK_callX, cxK_make, bindT.go, Tg.slots, Tg.slots.go, wipe, putBack, dOnly, ixN, bls_map, pures_map', pures_mapf, toDs_mapf, toDs_map', ints_map, E.keeps, isN, isL, appAt, hc, ho, hx]
    rw [w_exs1]
    simp [-w_exs1, start, isInst, isTy, tyNames, tyN, tyNs, anyN, eqOk, D.plain, D.depth, D.eqv, D.flat, E.place, E.quiet, E.quiet.go, E.quietO, stEs, stE, asgT, cxK_own, cxK_cel, cxK_call, cxK_callX, cxK_make, bindT.go, Tg.slots, Tg.slots.go, wipe, putBack, dOnly, ixN, bls_map, pures_map', pures_mapf, toDs_mapf, toDs_map', ints_map, E.keeps, isN, isL, appAt, hc, ho, i1, i2, i4, e4, s1]
    rw [w_exs1]
    simp [-w_exs1, start, isInst, isTy, tyNames, tyN, tyNs, anyN, eqOk, D.plain, D.depth, D.eqv, D.flat, E.place, E.quiet, E.quiet.go, E.quietO, stEs, stE, asgT, cxK_own, cxK_cel, cxK_call, cxK_callX, cxK_make, bindT.go, Tg.slots, Tg.slots.go, wipe, putBack, dOnly, ixN, bls_map, pures_map', pures_mapf, toDs_mapf, toDs_map', ints_map, E.keeps, isN, isL, appAt, hc, ho, i5]
    refine ⟨k - (j + 1), by omega, j + 1, by omega, rfl, rfl, ?_⟩
    rw [itr_succ]
/-- between two places of the sequence -/
inductive PInv (w : Bool) (n : Nat) (S : Nat → List Nat) (od : D) (sto : List O) (done : List Int) : St → Prop
  | mk (t τ : Nat → Nat) (T : List (Nat × Nat)) (x5 x6 : Option O) (re : Reach S n (fun _ => 0) t) (tr : TreeOk S n t T) (le : ∀ q, q < n → t q ≤ (S q).length) (tk : ∀ q, q < n → τ q = t q + if (T.lookup q).isSome then 1 else 0)
    (dn : ∀ q : Nat, (q : Int) ∈ done → (T.lookup q).isSome) : PInv w n S od sto done (pst w n S od sto τ T x5 x6)
include hS hI in
theorem v_popped_of {order : List Int} (ho : order.Perm (rngI n)) (hn : n ≤ 900) (hn0 : 0 < n) (hlen : ∀ q, (S q).length ≤ 1000) {m : Nat} (hm : 1 ≤ m) : ∃ r, callD loop prog m 8 [.int (n : Nat), stD w n S, .tup (order.map .int)] sto = some (.d r, sto) ∧ PopSpec S n r := by
  obtain ⟨k, rfl⟩ : ∃ k, m = k + 1 := ⟨m - 1, by omega⟩
  suffices hE : Ends (callD loop prog (k + 1) 8 [.int (n : Nat), stD w n S, .tup (order.map .int)] sto) fun a => ∃ r, a = (.d r, sto) ∧ PopSpec S n r by
    obtain ⟨a, h1, r, rfl, h2⟩ := hE
    exact ⟨r, h1, h2⟩
  have mem : ∀ q, q < n → ((q : Nat) : Int) ∈ order := fun q hq => ho.mem_iff.mpr (by simp only [rngI, List.mem_map, List.mem_range]; exact ⟨q, hq, rfl⟩)
  have inr : ∀ i ∈ order, ∃ q : Nat, i = (q : Int) ∧ q < n := fun i hi => by
    have := ho.mem_iff.mp hi
    simp only [rngI, List.mem_map, List.mem_range] at this
    obtain ⟨q, h1, h2⟩ := this
    exact ⟨q, h2.symm, h1⟩
  refine run_def (d := d_popped_of) rfl rfl ?_
  have h0 : (0 : Int) ≤ (n : Int) := by omega
  have q1 : lenOk n = true := lenOk_of (by omega)
  have t0 : O.lst ((List.replicate n (.int 0)).map .d) = trO n (fun _ => 0) := by
    rw [trO, List.map_replicate]
    congr 1
    apply List.ext_getElem?
    intro j
    by_cases hj : j < n
    · rw [List.getElem?_replicate, if_pos hj, rng_get _ hj]
      rfl
    · rw [List.getElem?_eq_none (by simpa using hj), List.getElem?_eq_none (by simpa using hj)]
  have d0 : O.dic [(.int (n : Nat), .d (.int (n : Nat)))] = dcO [(n, n)] := rfl
  simp [-w_exs1, d_popped_of, start, isInst, isTy, tyNames, tyN, tyNs, anyN, eqOk, D.plain, D.depth, D.eqv, D.flat, E.place, E.quiet, E.quiet.go, E.quietO, stEs, stE, asgT, cxK_own, cxK_cel, cxK_call, cxK_callX, cxK_make, bindT.go, Tg.slots, Tg.slots.go, wipe, putBack, dOnly, ixN, bls_map, pures_map', pures_mapf, toDs_mapf, toDs_map', ints_map, E.keeps, isN, isL, appAt]
  rw [w_exs1]
  simp [-w_exs1, start, isInst, isTy, tyNames, tyN, tyNs, anyN, eqOk, D.plain, D.depth, D.eqv, D.flat, E.place, E.quiet, E.quiet.go, E.quietO, stEs, stE, asgT, cxK_own, cxK_cel, cxK_call, cxK_callX, cxK_make, bindT.go, Tg.slots, Tg.slots.go, wipe, putBack, dOnly, ixN, bls_map, pures_map', pures_mapf, toDs_mapf, toDs_map', ints_map, E.keeps, isN, isL, appAt, q1, h0, stEs]
  have t0' : O.lst (List.replicate n (.d (.int 0))) = trO n (fun _ => 0) := by rw [← t0, List.map_replicate]
  refine ⟨rfl, ?_⟩
  rw [t0', d0, w_exs1]
  refine run_for order D.int (fun done s => PInv w n S (.tup (order.map .int)) sto done s) ?_ ?_ ?_
  · simp [start, isInst, isTy, tyNames, tyN, tyNs, anyN, eqOk, D.plain, D.depth, D.eqv, D.flat, E.place, E.quiet, E.quiet.go, E.quietO, stEs, stE, asgT, cxK_own, cxK_cel, cxK_call, cxK_callX, cxK_make, bindT.go, Tg.slots, Tg.slots.go, wipe, putBack, dOnly, ixN, bls_map, pures_map', pures_mapf, toDs_mapf, toDs_map', ints_map, E.keeps, isN, isL, appAt]
    refine .mk (fun _ => 0) (fun _ => 0) [(n, n)] none none .refl ⟨by simp [List.lookup], by simp, fun q v e z => ?_⟩ (fun q _ => Nat.zero_le _) (fun q hq => ?_) (fun q hq => by cases hq)
    · have : (q == n) = false := by simpa using z
      simp [List.lookup, this] at e
    · have : (q == n) = false := by
        have : q ≠ n := by omega
        simpa using this
      simp [List.lookup, this]
  · rintro done i rest e s ⟨t, τ, T, x5, x6, re, tr, le, tk, dn⟩
    obtain ⟨q, rfl, hq⟩ := inr i (by rw [e]; simp)
    have wy : Way S n q T τ t 0 := ⟨re, tr, le, fun q hq => by
      rw [tk q hq]
      by_cases c : (T.lookup q).isSome = true
      · rw [if_pos c, if_pos (.inl c)]
      · rw [if_neg c, if_neg]
        rintro (h | ⟨i, hi, _⟩)
        · exact c h
        · omega, fun i hi => by omega, fun i j _ hj => by omega, by show q ≤ n; omega⟩
    simp [-w_exs1, pst, start, isInst, isTy, tyNames, tyN, tyNs, anyN, eqOk, D.plain, D.depth, D.eqv, D.flat, E.place, E.quiet, E.quiet.go, E.quietO, stEs, stE, asgT, cxK_own, cxK_cel, cxK_call, cxK_callX, cxK_make, bindT.go, Tg.slots, Tg.slots.go, wipe, putBack, dOnly, ixN, bls_map, pures_map', pures_mapf, toDs_mapf, toDs_map', ints_map, E.keeps, isN, isL, appAt]
    rw [w_exs1]
    simp [-w_exs1, start, isInst, isTy, tyNames, tyN, tyNs, anyN, eqOk, D.plain, D.depth, D.eqv, D.flat, E.place, E.quiet, E.quiet.go, E.quietO, stEs, stE, asgT, cxK_own, cxK_cel, cxK_call, cxK_callX, cxK_make, bindT.go, Tg.slots, Tg.slots.go, wipe, putBack, dOnly, ixN, bls_map, pures_map', pures_mapf, toDs_mapf, toDs_map', ints_map, E.keeps, isN, isL, appAt]
    rw [w_exs1]
    refine run_lp1 (od := .tup (order.map .int)) hS hI rfl rfl rfl (by omega) hlen wy (fun τ' t' k' wy' hT => ?_) (fun s hs hz => ?_)
    · simp only
      rw [w_exs1]
      simp [-w_exs1, pst, start, isInst, isTy, tyNames, tyN, tyNs, anyN, eqOk, D.plain, D.depth, D.eqv, D.flat, E.place, E.quiet, E.quiet.go, E.quietO, stEs, stE, asgT, cxK_own, cxK_cel, cxK_call, cxK_callX, cxK_make, bindT.go, Tg.slots, Tg.slots.go, wipe, putBack, dOnly, ixN, bls_map, pures_map', pures_mapf, toDs_mapf, toDs_map', ints_map, E.keeps, isN, isL, appAt]
      rw [w_exs1]
      refine run_lp2 (od := .tup (order.map .int)) rfl rfl rfl hn wy' hT fun x6 => ?_
      obtain ⟨d1, d2, d3⟩ := wy'.done hT
      simp
      refine .mk t' τ' _ _ _ wy'.re d1 wy'.le d2 fun r hr => ?_
      have hr : (r : Int) ∈ done ∨ (r : Int) = (q : Int) := by simpa using hr
      rcases hr with hr | hr
      · have := dn r hr
        rw [Pop.lookup_append, Option.isSome_or, this]
        rfl
      · have : r = q := by omega
        subst this
        exact d3
    · simp only
      exact ⟨.non, by rw [hs], .inl ⟨rfl, hz⟩⟩
  · rintro s ⟨t, τ, T, x5, x6, re, tr, le, tk, dn⟩
    have all : ∀ q, q < n → T.lookup q = some (nx S n t q) ∧ t q < (S q).length ∧ τ q = t q + 1 ∧ ∃ i, itr (nx S n t) i q = n := by
      intro q hq
      have h1 := dn q (mem q hq)
      cases z : T.lookup q with
      | none => rw [z] at h1; cases h1
      | some v =>
        obtain ⟨_, h2, h3, h4⟩ := tr.at_ q v z (by omega)
        have h5 := tk q hq
        rw [h1, if_pos rfl] at h5
        exact ⟨by rw [h2], h3, h5, h4⟩
    simp only
    rw [w_exs1]
    simp [-w_exs1, pst, start, isInst, isTy, tyNames, tyN, tyNs, anyN, eqOk, D.plain, D.depth, D.eqv, D.flat, E.place, E.quiet, E.quiet.go, E.quietO, stEs, stE, asgT, cxK_own, cxK_cel, cxK_call, cxK_callX, cxK_make, bindT.go, Tg.slots, Tg.slots.go, wipe, putBack, dOnly, ixN, bls_map, pures_map', pures_mapf, toDs_mapf, toDs_map', ints_map, E.keeps, isN, isL, appAt]
    have hr := q_range (n := n) (by omega)
    refine run_map (List.range n) (fun j => .int (j : Nat)) (fun q => .int (nx S n t q : Nat)) ?_
    simp [-w_exs1, start, isInst, isTy, tyNames, tyN, tyNs, anyN, eqOk, D.plain, D.depth, D.eqv, D.flat, E.place, E.quiet, E.quiet.go, E.quietO, stEs, stE, asgT, cxK_own, cxK_cel, cxK_call, cxK_callX, cxK_make, bindT.go, Tg.slots, Tg.slots.go, wipe, putBack, dOnly, ixN, bls_map, pures_map', pures_mapf, toDs_mapf, toDs_map', ints_map, E.keeps, isN, isL, appAt, hr, q1]
    refine ⟨fun q hq => by simp [start, isInst, isTy, tyNames, tyN, tyNs, anyN, eqOk, D.plain, D.depth, D.eqv, D.flat, E.place, E.quiet, E.quiet.go, E.quietO, stEs, stE, asgT, cxK_own, cxK_cel, cxK_call, cxK_callX, cxK_make, bindT.go, Tg.slots, Tg.slots.go, wipe, putBack, dOnly, ixN, bls_map, pures_map', pures_mapf, toDs_mapf, toDs_map', ints_map, E.keeps, isN, isL, appAt, item_T (all q hq).1], ?_⟩
    simp [-w_exs1, start, isInst, isTy, tyNames, tyN, tyNs, anyN, eqOk, D.plain, D.depth, D.eqv, D.flat, E.place, E.quiet, E.quiet.go, E.quietO, stEs, stE, asgT, cxK_own, cxK_cel, cxK_call, cxK_callX, cxK_make, bindT.go, Tg.slots, Tg.slots.go, wipe, putBack, dOnly, ixN, bls_map, pures_map', pures_mapf, toDs_mapf, toDs_map', ints_map, E.keeps, isN, isL, appAt, bi, pures_mapf]
    refine run_map (List.range n) (fun q => .int (τ q : Nat)) (fun q => .int (t q : Nat)) ?_
    simp [-w_exs1, start, isInst, isTy, tyNames, tyN, tyNs, anyN, eqOk, D.plain, D.depth, D.eqv, D.flat, E.place, E.quiet, E.quiet.go, E.quietO, stEs, stE, asgT, cxK_own, cxK_cel, cxK_call, cxK_callX, cxK_make, bindT.go, Tg.slots, Tg.slots.go, wipe, putBack, dOnly, ixN, bls_map, pures_map', pures_mapf, toDs_mapf, toDs_map', ints_map, E.keeps, isN, isL, appAt, q1, trD]
    refine ⟨fun q hq => ?_, ?_⟩
    · have := (all q hq).2.2.1
      omega
    · refine .inr ⟨t, re, fun p hp => ?_, fun q hq => (all q hq).2.1, rfl⟩
      obtain ⟨i, h⟩ := (all p hp.1).2.2.2
      exact no_per (nx_n hS t) h hp
end
end K34
end Py
end

section
set_option linter.all false
set_option Elab.async false
/-! PD: popped, its errors. -/
namespace Py
open Pop
def stacksB (n : Nat) : D → Bool
  | .lst xs | .tup xs => decide (xs.length = n) && xs.all (stackB n)
  | _ => false
theorem insort_perm' (x : Int) : ∀ l : List Int, (insort x l).Perm (x :: l)
  | [] => .refl _
  | y :: r => by
    rw [insort]
    split
    · exact .refl _
    · exact (List.Perm.cons y (insort_perm' x r)).trans (List.Perm.swap x y r)
theorem isort_perm' : ∀ l : List Int, (isort l).Perm l
  | [] => .refl _
  | x :: r => by
    rw [isort]
    exact (insort_perm' x _).trans (List.Perm.cons x (isort_perm' r))
theorem insort_ord' (x : Int) : ∀ {l : List Int}, l.Pairwise (· ≤ ·) → (insort x l).Pairwise (· ≤ ·)
  | [], _ => by simp [insort]
  | y :: r, h => by
    rw [insort]
    rw [List.pairwise_cons] at h
    split
    · rename_i q
      rw [List.pairwise_cons, List.pairwise_cons]
      refine ⟨fun z hz => ?_, h⟩
      rcases List.mem_cons.mp hz with e | e
      · omega
      · have := h.1 z e
        omega
    · rename_i q
      rw [List.pairwise_cons]
      refine ⟨fun z hz => ?_, insort_ord' x h.2⟩
      have := (insort_perm' x r).mem_iff.mp hz
      rcases List.mem_cons.mp this with e | e
      · omega
      · exact h.1 z e
theorem isort_ord' : ∀ l : List Int, (isort l).Pairwise (· ≤ ·)
  | [] => by simp [isort]
  | x :: r => by
    rw [isort]
    exact insort_ord' x (isort_ord' r)
theorem rngI_ord (n : Nat) : (rngI n).Pairwise (· ≤ ·) := by
  rw [rngI, List.pairwise_map]
  exact List.Pairwise.imp (fun h => by omega) List.pairwise_lt_range
theorem isort_rng {l : List Int} {n : Nat} (h : l.Perm (rngI n)) : isort l = rngI n := by
  refine List.Perm.eq_of_pairwise (le := (· ≤ ·)) (fun a b _ _ h1 h2 => ?_) (isort_ord' l) (rngI_ord n) ((isort_perm' l).trans h)
  omega
theorem okD_sq {w : Bool} {xs : List D} (h : xs.length ≤ 1000000) (h2 : ∀ x ∈ xs, okD x = true) : okD (sq w xs) = true := by
  have a : lenOk xs.length = true := lenOk_of h
  cases w
  · simp only [sq, okD, Bool.false_eq_true, if_false, a, okDs_of h2, Bool.and_self]
  · simp only [sq, okD, if_true, a, okDs_of h2, Bool.and_self]
theorem okD_ints (l : List Nat) : ∀ x ∈ l.map fun i => D.int (i : Nat), okD x = true := fun x hx => by
  obtain ⟨i, _, rfl⟩ := List.mem_map.mp hx
  rfl
theorem okD_st {w : Bool} {n : Nat} {S : Nat → List Nat} (hn : n ≤ 1000) (hlen : ∀ q, (S q).length ≤ 1000) : okD (stD w n S) = true := by
  refine okD_sq (by simp; omega) fun x hx => ?_
  obtain ⟨q, _, rfl⟩ := List.mem_map.mp hx
  exact okD_sq (by have := hlen q; simp; omega) (okD_ints _)
theorem stackB_sq {w : Bool} {n : Int} {l : List D} : stackB n (sq w l) = l.all (betB 0 n) := by cases w <;> rfl
theorem stacksB_sq {w : Bool} {n : Nat} {l : List D} : stacksB n (sq w l) = (decide (l.length = n) && l.all (stackB n)) := by cases w <;> rfl
theorem stackB_nat {w : Bool} {n : Nat} {l : List Nat} (h : ∀ x ∈ l, x ≤ n) : stackB n (sq w (l.map fun i => .int (i : Nat))) = true := by
  rw [stackB_sq, List.all_eq_true]
  intro x hx
  obtain ⟨i, hi, rfl⟩ := List.mem_map.mp hx
  have := h i hi
  simp [betB]
  omega
theorem stacksB_st {w : Bool} {n : Nat} {S : Nat → List Nat} (hI : ∀ q x, x ∈ S q → x ≤ n) : stacksB n (stD w n S) = true := by
  rw [stD, stacksB_sq, Bool.and_eq_true]
  refine ⟨by simp, List.all_eq_true.mpr fun x hx => ?_⟩
  obtain ⟨q, _, rfl⟩ := List.mem_map.mp hx
  exact stackB_nat (hI q)
namespace K34
variable {sto : List O}
def tst : E := .or (.not (.call 2 [.var 1])) (.or (.cmp .ne (.bi .len [.var 1]) (.var 0)) (.not (.bi .all [.lc (.nm 3) none [.var 1] [] (.call 7 [.var 0, .var 3])])))
theorem run_tst {k : Nat} (hk : 3 ≤ k) {n : Nat} {d : D} (h : okD d = true) {x2 : Option O} {K : O × St → Prop} (hK : K (.d (.bl (!stacksB n d)), ⟨[some (.d (.int (n : Nat))), some (.d d), x2, none], sto⟩)) :
    Ends (ev (cxK loop prog k [] []) false tst ⟨[some (.d (.int (n : Nat))), some (.d d), x2, none], sto⟩) K := by
  have hl := v_is_list (sto := sto) h (m := k) (by omega)
  by_cases ht : isLis d = true
  · have : ∃ w xs, d = sq w xs := by
      cases d <;> simp [isLis] at ht
      · exact ⟨true, _, rfl⟩
      · exact ⟨false, _, rfl⟩
    obtain ⟨w, xs, rfl⟩ := this
    have ok : lenOk xs.length = true ∧ okDs xs = true := by
      cases w <;> simpa [sq, okD] using h
    have eB : stacksB n (sq w xs) = (decide (xs.length = n) && xs.all (stackB n)) := by cases w <;> rfl
    rw [eB] at hK
    simp [tst, start, isInst, isTy, tyNames, tyN, tyNs, anyN, eqOk, D.plain, D.depth, D.eqv, D.flat, E.place, E.quiet, E.quiet.go, E.quietO, stEs, stE, asgT, cxK_own, cxK_cel, cxK_call, cxK_callX, cxK_make, bindT.go, Tg.slots, Tg.slots.go, wipe, putBack, dOnly, ixN, bls_map, pures_map', pures_mapf, toDs_mapf, toDs_map', ints_map, E.keeps, isN, isL, modR, modPath, appAt, hl]
    by_cases e : xs.length = n
    · have e1 : ((xs.length : Int) = (n : Int)) := by omega
      simp [e1]
      refine run_map xs id (fun x => .bl (stackB n x)) ?_
      simp [start, isInst, isTy, tyNames, tyN, tyNs, anyN, eqOk, D.plain, D.depth, D.eqv, D.flat, E.place, E.quiet, E.quiet.go, E.quietO, stEs, stE, asgT, cxK_own, cxK_cel, cxK_call, cxK_callX, cxK_make, bindT.go, Tg.slots, Tg.slots.go, wipe, putBack, dOnly, ixN, bls_map, pures_map', pures_mapf, toDs_mapf, toDs_map', ints_map, E.keeps, isN, isL, modR, modPath, appAt, ok.1]
      refine ⟨fun x hx => ?_, ?_⟩
      · simp [v_is_stack (okDs_mem ok.2 x hx) (m := k) hk, noCell_ok (okDs_mem ok.2 x hx), start, isInst, isTy, tyNames, tyN, tyNs, anyN, eqOk, D.plain, D.depth, D.eqv, D.flat, E.place, E.quiet, E.quiet.go, E.quietO, stEs, stE, asgT, cxK_own, cxK_cel, cxK_call, cxK_callX, cxK_make, bindT.go, Tg.slots, Tg.slots.go, wipe, putBack, dOnly, ixN, bls_map, pures_map', pures_mapf, toDs_mapf, toDs_map', ints_map, E.keeps, isN, isL, modR, modPath, appAt]
      · simpa [e] using hK
    · have e1 : ¬ ((xs.length : Int) = (n : Int)) := by omega
      simp [e1]
      simpa [e] using hK
  · have hf : isLis d = false := by simpa using ht
    have eB : stacksB n d = false := by
      cases d <;> first | rfl | (simp [isLis] at hf)
    rw [eB] at hK
    simp [tst, start, isInst, isTy, tyNames, tyN, tyNs, anyN, eqOk, D.plain, D.depth, D.eqv, D.flat, E.place, E.quiet, E.quiet.go, E.quietO, stEs, stE, asgT, cxK_own, cxK_cel, cxK_call, cxK_callX, cxK_make, bindT.go, Tg.slots, Tg.slots.go, wipe, putBack, dOnly, ixN, bls_map, pures_map', pures_mapf, toDs_mapf, toDs_map', ints_map, E.keeps, isN, isL, modR, modPath, appAt, hl, hf, noCell_ok h]
    simpa using hK
/-- popped, with what is right -/
theorem v_popped {S : Nat → List Nat} {n : Nat} (hS : ∀ q, n ≤ q → S q = []) (hI : ∀ q x, x ∈ S q → x ≤ n) {w : Bool} {order : List Int} (ho : order.Perm (rngI n)) (hn : n ≤ 8) (hn0 : 1 ≤ n) (hlen : ∀ q, (S q).length ≤ 1000) {m : Nat} (hm : 10 ≤ m) :
    ∃ r, callD loop prog m 9 [.int (n : Nat), stD w n S, .tup (order.map .int)] sto = some (.d r, sto) ∧ PopSpec S n r := by
  obtain ⟨k, rfl⟩ : ∃ k, m = k + 10 := ⟨m - 10, by omega⟩
  obtain ⟨r, h1, h2⟩ := v_popped_of (sto := sto) hS hI (w := w) ho (by omega) (by omega) hlen (m := k + 9) (by omega)
  refine ⟨r, ?_, h2⟩
  have b1 : betB 1 8 (.int (n : Nat)) = true := by simp [betB]; omega
  have n1 := v_need_many (sto := sto) (d := .int (n : Nat)) (by simp) (m := k + 9) (by omega)
  rw [b1, if_pos rfl] at n1
  have hlo : order.length = n := by rw [ho.length_eq, rngI_len]
  have okO : okD (.tup (order.map .int)) = true := by
    simp only [okD, Bool.and_eq_true]
    refine ⟨lenOk_of (by simp; omega), okDs_of fun x hx => ?_⟩
    obtain ⟨i, _, rfl⟩ := List.mem_map.mp hx
    rfl
  have aO : allB n (.tup (order.map .int)) = true := by
    simp only [allB, Bool.and_eq_true, decide_eq_true_eq, List.all_eq_true]
    refine ⟨fun x hx => ?_, ?_⟩
    · obtain ⟨i, hi, rfl⟩ := List.mem_map.mp hx
      have := ho.mem_iff.mp hi
      simp only [rngI, List.mem_map, List.mem_range] at this
      obtain ⟨q, hq, rfl⟩ := this
      simp [betB]
      omega
    · have e : (order.map D.int).map toI = order := by
        rw [List.map_map]
        exact List.map_id _
      rw [e]
      exact isort_rng ho
  have n2 := v_need_order (sto := sto) okO (n := n) (by omega) (fun xs e => by cases e; simp; omega) (m := k + 9) (by omega)
  rw [aO, if_pos rfl] at n2
  have okS := okD_st (w := w) (S := S) (n := n) (by omega) hlen
  have bS := stacksB_st (w := w) (n := n) hI
  refine ends_eq (run_def (d := d_popped) rfl rfl ?_)
  simp [-w_exs1, d_popped, start, isInst, isTy, tyNames, tyN, tyNs, anyN, eqOk, D.plain, D.depth, D.eqv, D.flat, E.place, E.quiet, E.quiet.go, E.quietO, stEs, stE, asgT, cxK_own, cxK_cel, cxK_call, cxK_callX, cxK_make, bindT.go, Tg.slots, Tg.slots.go, wipe, putBack, dOnly, ixN, bls_map, pures_map', pures_mapf, toDs_mapf, toDs_map', ints_map, E.keeps, isN, isL, modR, modPath, appAt]
  rw [w_exs1]
  simp [-w_exs1, start, isInst, isTy, tyNames, tyN, tyNs, anyN, eqOk, D.plain, D.depth, D.eqv, D.flat, E.place, E.quiet, E.quiet.go, E.quietO, stEs, stE, asgT, cxK_own, cxK_cel, cxK_call, cxK_callX, cxK_make, bindT.go, Tg.slots, Tg.slots.go, wipe, putBack, dOnly, ixN, bls_map, pures_map', pures_mapf, toDs_mapf, toDs_map', ints_map, E.keeps, isN, isL, modR, modPath, appAt, n1]
  rw [w_exs1, w_if]
  refine run_tst (k := k + 9) (by omega) okS ?_
  simp [-w_exs1, bS]
  rw [w_exs1]
  simp [-w_exs1, start, isInst, isTy, tyNames, tyN, tyNs, anyN, eqOk, D.plain, D.depth, D.eqv, D.flat, E.place, E.quiet, E.quiet.go, E.quietO, stEs, stE, asgT, cxK_own, cxK_cel, cxK_call, cxK_callX, cxK_make, bindT.go, Tg.slots, Tg.slots.go, wipe, putBack, dOnly, ixN, bls_map, pures_map', pures_mapf, toDs_mapf, toDs_map', ints_map, E.keeps, isN, isL, modR, modPath, appAt, n2]
  rw [w_exs1]
  simp [-w_exs1, start, isInst, isTy, tyNames, tyN, tyNs, anyN, eqOk, D.plain, D.depth, D.eqv, D.flat, E.place, E.quiet, E.quiet.go, E.quietO, stEs, stE, asgT, cxK_own, cxK_cel, cxK_call, cxK_callX, cxK_make, bindT.go, Tg.slots, Tg.slots.go, wipe, putBack, dOnly, ixN, bls_map, pures_map', pures_mapf, toDs_mapf, toDs_map', ints_map, E.keeps, isN, isL, modR, modPath, appAt, h1]
/-- popped, with what is wrong -/
theorem x_count {d o : D} {x : D} (hx : okD x = true) (hb : betB 1 8 x = false) (ho : okD o = true) {m : Nat} (hm : 10 ≤ m) (hd : okD d = true) : callXD loop prog m 9 [x, d, o] sto = some (some 1, sto) := by
  obtain ⟨k, rfl⟩ : ∃ k, m = k + 10 := ⟨m - 10, by omega⟩
  have n1 := v_need_many (sto := sto) hx (m := k + 9) (by omega)
  rw [hb, if_neg Bool.false_ne_true] at n1
  refine ends_eq (run_defX (d := d_popped) rfl rfl ?_)
  simp [-w_exs1, d_popped, start, isInst, isTy, tyNames, tyN, tyNs, anyN, eqOk, D.plain, D.depth, D.eqv, D.flat, E.place, E.quiet, E.quiet.go, E.quietO, stEs, stE, asgT, cxK_own, cxK_cel, cxK_call, cxK_callX, cxK_make, bindT.go, Tg.slots, Tg.slots.go, wipe, putBack, dOnly, ixN, bls_map, pures_map', pures_mapf, toDs_mapf, toDs_map', ints_map, E.keeps, isN, isL, modR, modPath, appAt]
  rw [w_exs1]
  simp [-w_exs1, start, isInst, isTy, tyNames, tyN, tyNs, anyN, eqOk, D.plain, D.depth, D.eqv, D.flat, E.place, E.quiet, E.quiet.go, E.quietO, stEs, stE, asgT, cxK_own, cxK_cel, cxK_call, cxK_callX, cxK_make, bindT.go, Tg.slots, Tg.slots.go, wipe, putBack, dOnly, ixN, bls_map, pures_map', pures_mapf, toDs_mapf, toDs_map', ints_map, E.keeps, isN, isL, modR, modPath, appAt, n1]
theorem x_stacks {n : Nat} {d o : D} (hn : n ≤ 8) (hn0 : 1 ≤ n) (hd : okD d = true) (hb : stacksB n d = false) {m : Nat} (hm : 10 ≤ m) : callXD loop prog m 9 [.int (n : Nat), d, o] sto = some (some 3, sto) := by
  obtain ⟨k, rfl⟩ : ∃ k, m = k + 10 := ⟨m - 10, by omega⟩
  have b1 : betB 1 8 (.int (n : Nat)) = true := by simp [betB]; omega
  have n1 := v_need_many (sto := sto) (d := .int (n : Nat)) (by simp) (m := k + 9) (by omega)
  rw [b1, if_pos rfl] at n1
  refine ends_eq (run_defX (d := d_popped) rfl rfl ?_)
  simp [-w_exs1, d_popped, start, isInst, isTy, tyNames, tyN, tyNs, anyN, eqOk, D.plain, D.depth, D.eqv, D.flat, E.place, E.quiet, E.quiet.go, E.quietO, stEs, stE, asgT, cxK_own, cxK_cel, cxK_call, cxK_callX, cxK_make, bindT.go, Tg.slots, Tg.slots.go, wipe, putBack, dOnly, ixN, bls_map, pures_map', pures_mapf, toDs_mapf, toDs_map', ints_map, E.keeps, isN, isL, modR, modPath, appAt]
  rw [w_exs1]
  simp [-w_exs1, start, isInst, isTy, tyNames, tyN, tyNs, anyN, eqOk, D.plain, D.depth, D.eqv, D.flat, E.place, E.quiet, E.quiet.go, E.quietO, stEs, stE, asgT, cxK_own, cxK_cel, cxK_call, cxK_callX, cxK_make, bindT.go, Tg.slots, Tg.slots.go, wipe, putBack, dOnly, ixN, bls_map, pures_map', pures_mapf, toDs_mapf, toDs_map', ints_map, E.keeps, isN, isL, modR, modPath, appAt, n1]
  rw [w_exs1, w_if]
  refine run_tst (k := k + 9) (by omega) hd ?_
  simp [-w_exs1, hb]
  rw [w_exs1]
  simp
theorem x_order {n : Nat} {d o : D} (hn : n ≤ 8) (hn0 : 1 ≤ n) (hd : okD d = true) (hb : stacksB n d = true) (ho : okD o = true) (hl : ∀ xs, o = .tup xs → xs.length < 64) (hc : allB n o = false) {m : Nat} (hm : 10 ≤ m) : callXD loop prog m 9 [.int (n : Nat), d, o] sto = some (some 2, sto) := by
  obtain ⟨k, rfl⟩ : ∃ k, m = k + 10 := ⟨m - 10, by omega⟩
  have b1 : betB 1 8 (.int (n : Nat)) = true := by simp [betB]; omega
  have n1 := v_need_many (sto := sto) (d := .int (n : Nat)) (by simp) (m := k + 9) (by omega)
  rw [b1, if_pos rfl] at n1
  have n2 := v_need_order (sto := sto) ho (n := n) (by omega) hl (m := k + 9) (by omega)
  rw [hc, if_neg Bool.false_ne_true] at n2
  refine ends_eq (run_defX (d := d_popped) rfl rfl ?_)
  simp [-w_exs1, d_popped, start, isInst, isTy, tyNames, tyN, tyNs, anyN, eqOk, D.plain, D.depth, D.eqv, D.flat, E.place, E.quiet, E.quiet.go, E.quietO, stEs, stE, asgT, cxK_own, cxK_cel, cxK_call, cxK_callX, cxK_make, bindT.go, Tg.slots, Tg.slots.go, wipe, putBack, dOnly, ixN, bls_map, pures_map', pures_mapf, toDs_mapf, toDs_map', ints_map, E.keeps, isN, isL, modR, modPath, appAt]
  rw [w_exs1]
  simp [-w_exs1, start, isInst, isTy, tyNames, tyN, tyNs, anyN, eqOk, D.plain, D.depth, D.eqv, D.flat, E.place, E.quiet, E.quiet.go, E.quietO, stEs, stE, asgT, cxK_own, cxK_cel, cxK_call, cxK_callX, cxK_make, bindT.go, Tg.slots, Tg.slots.go, wipe, putBack, dOnly, ixN, bls_map, pures_map', pures_mapf, toDs_mapf, toDs_map', ints_map, E.keeps, isN, isL, modR, modPath, appAt, n1]
  rw [w_exs1, w_if]
  refine run_tst (k := k + 9) (by omega) hd ?_
  simp [-w_exs1, hb]
  rw [w_exs1]
  simp [-w_exs1, start, isInst, isTy, tyNames, tyN, tyNs, anyN, eqOk, D.plain, D.depth, D.eqv, D.flat, E.place, E.quiet, E.quiet.go, E.quietO, stEs, stE, asgT, cxK_own, cxK_cel, cxK_call, cxK_callX, cxK_make, bindT.go, Tg.slots, Tg.slots.go, wipe, putBack, dOnly, ixN, bls_map, pures_map', pures_mapf, toDs_mapf, toDs_map', ints_map, E.keeps, isN, isL, modR, modPath, appAt, n2]
end K34
end Py
end

section
set_option linter.all false
set_option Elab.async false
/-! PE: drawn stacks. -/
namespace Py
open Pop
/-- a comprehension that draws numbers -/
theorem run_nums {α : Type} {c : Cx} {s : St} {m : Bool} (l : List α) (g : α → D) (B q n : Nat) {tg : Tg} {k : Option Itk} {es : List E} {el : E} {K : O × St → Prop}
    (h : Ends (evs c es s) fun p => Ends (yields k p.1) fun xs => xs = l.map g ∧ lenOk l.length = true ∧ Dr n p.2.sto ∧
      (∀ x ∈ l, ∀ n' sto, n' ≤ n + l.length * q → Dr n' sto → Ends (bindT tg (g x) (wipe p.2.env tg.slots)) fun env => Ends (ev c false el ⟨env, sto⟩) fun r => (∃ y : Nat, r.1.toD = .int (y : Nat) ∧ y ≤ B) ∧ Dr (n' + q) r.2.sto ∧ wipe r.2.env tg.slots = wipe p.2.env tg.slots) ∧
      (∀ (ys : List Nat) sto, ys.length = l.length → (∀ y ∈ ys, y ≤ B) → Dr (n + l.length * q) sto → K (.lst (ys.map fun y => .d (.int (y : Nat))), ⟨putBack p.2.env p.2.env tg.slots, sto⟩))) : Ends (ev c m (.lc tg k es [] el) s) K := by
  obtain ⟨⟨ds, s1⟩, h1, xs, h2, rfl, h3, h4, h5, h6⟩ := h
  refine run_lc l g (fun done out sto => ∃ ys : List Nat, out = ys.map (fun y => .int (y : Nat)) ∧ ys.length = done.length ∧ (∀ y ∈ ys, y ≤ B) ∧ Dr (n + done.length * q) sto) ⟨(ds, s1), h1, _, h2, rfl, ⟨[], rfl, rfl, (fun _ h => by cases h), by simpa using h4⟩, ?_, ?_⟩
  · rintro done x rest out sto e ⟨ys, rfl, e1, e2, e3⟩
    have hle : done.length ≤ l.length := by rw [e]; simp
    obtain ⟨env, f1, r, f2, ⟨y, f3, f4⟩, f5, f6⟩ := h5 x (by rw [e]; simp) _ sto (Nat.add_le_add_left (Nat.mul_le_mul_right q hle) n) e3
    refine ⟨env, f1, ?_⟩
    simp only [w_evT0, ends_some]
    refine ⟨fun _ => ⟨r, f2, ⟨ys ++ [y], ?_, by simp [e1], ?_, ?_⟩, f6⟩, fun h => by cases h⟩
    · rw [f3]; simp
    · intro z hz
      rcases List.mem_append.mp hz with hz | hz
      · exact e2 z hz
      · simp at hz; rw [hz]; exact f4
    · rw [List.length_append, List.length_singleton, Nat.add_mul, Nat.one_mul, ← Nat.add_assoc]
      exact f5
  · rintro out sto ⟨ys, rfl, e1, e2, e3⟩
    refine ⟨by rw [List.length_map, e1]; exact h3, ?_⟩
    have := h6 ys sto e1 e2 e3
    simpa [Function.comp_def] using this
/-- .. that draws things told by ok -/
theorem run_draw {α β : Type} {c : Cx} {s : St} {m : Bool} (l : List α) (g : α → D) (f : β → D) (ok : β → Prop) (q n : Nat) {tg : Tg} {k : Option Itk} {es : List E} {el : E} {K : O × St → Prop}
    (h : Ends (evs c es s) fun p => Ends (yields k p.1) fun xs => xs = l.map g ∧ lenOk l.length = true ∧ Dr n p.2.sto ∧
      (∀ x ∈ l, ∀ n' sto, n' ≤ n + l.length * q → Dr n' sto → Ends (bindT tg (g x) (wipe p.2.env tg.slots)) fun env => Ends (ev c false el ⟨env, sto⟩) fun r => (∃ y, r.1.toD = f y ∧ ok y) ∧ Dr (n' + q) r.2.sto ∧ wipe r.2.env tg.slots = wipe p.2.env tg.slots) ∧
      (∀ (ys : List β) sto, ys.length = l.length → (∀ y ∈ ys, ok y) → Dr (n + l.length * q) sto → K (.lst (ys.map fun y => .d (f y)), ⟨putBack p.2.env p.2.env tg.slots, sto⟩))) : Ends (ev c m (.lc tg k es [] el) s) K := by
  obtain ⟨⟨ds, s1⟩, h1, xs, h2, rfl, h3, h4, h5, h6⟩ := h
  refine run_lc l g (fun done out sto => ∃ ys : List β, out = ys.map f ∧ ys.length = done.length ∧ (∀ y ∈ ys, ok y) ∧ Dr (n + done.length * q) sto) ⟨(ds, s1), h1, _, h2, rfl, ⟨[], rfl, rfl, (fun _ h => by cases h), by simpa using h4⟩, ?_, ?_⟩
  · rintro done x rest out sto e ⟨ys, rfl, e1, e2, e3⟩
    have hle : done.length ≤ l.length := by rw [e]; simp
    obtain ⟨env, f1, r, f2, ⟨y, f3, f4⟩, f5, f6⟩ := h5 x (by rw [e]; simp) _ sto (Nat.add_le_add_left (Nat.mul_le_mul_right q hle) n) e3
    refine ⟨env, f1, ?_⟩
    simp only [w_evT0, ends_some]
    refine ⟨fun _ => ⟨r, f2, ⟨ys ++ [y], ?_, by simp [e1], ?_, ?_⟩, f6⟩, fun h => by cases h⟩
    · rw [f3]; simp
    · intro z hz
      rcases List.mem_append.mp hz with hz | hz
      · exact e2 z hz
      · simp at hz; rw [hz]; exact f4
    · rw [List.length_append, List.length_singleton, Nat.add_mul, Nat.one_mul, ← Nat.add_assoc]
      exact f5
  · rintro out sto ⟨ys, rfl, e1, e2, e3⟩
    refine ⟨by rw [List.length_map, e1]; exact h3, ?_⟩
    have := h6 ys sto e1 e2 e3
    simpa [Function.comp_def] using this
def natsD (l : List Nat) : D := .lst (l.map fun i => .int (i : Nat))
@[simp] theorem natsD_cell {l : List Nat} : noCell (.d (natsD l)) = true := by rfl
/-- the stacks that are rows -/
def stF (rows : List (List Nat)) (q : Nat) : List Nat := rows.getD q []
theorem stF_D {rows : List (List Nat)} : D.lst (rows.map natsD) = stD false rows.length (stF rows) := by
  show D.lst (rows.map natsD) = D.lst ((List.range rows.length).map fun q => natsD (stF rows q))
  congr 1
  apply List.ext_getElem?
  intro j
  by_cases hj : j < rows.length
  · rw [rng_get _ hj, List.getElem?_map, List.getElem?_eq_getElem hj]
    simp [stF, hj]
  · rw [List.getElem?_eq_none (by simpa using hj), List.getElem?_eq_none (by simpa using hj)]
namespace K34
theorem w_stacks {n0 : Nat} {sto : List O} (h : Dr n0 sto) (hn0 : n0 ≤ 10 ^ 7) {n : Nat} (hn : n ≤ 8) (hn1 : 1 ≤ n) {m : Nat} (hm : 5 ≤ m) : ∃ (rows : List (List Nat)) (sto' : List O), callD loop prog m 20 [.cell 1, .int (n : Nat)] sto = some (.lst (rows.map fun r => .d (natsD r)), sto') ∧
    rows.length = n ∧ (∀ r ∈ rows, r.length ≤ 40 ∧ ∀ x ∈ r, x ≤ n) ∧ Dr (n0 + 1000) sto' := by
  obtain ⟨k, rfl⟩ : ∃ k, m = k + 5 := ⟨m - 5, by omega⟩
  suffices hE : Ends (callD loop prog (k + 5) 20 [.cell 1, .int (n : Nat)] sto) fun b => ∃ (rows : List (List Nat)), b.1 = .lst (rows.map fun r => .d (natsD r)) ∧ rows.length = n ∧ (∀ r ∈ rows, r.length ≤ 40 ∧ ∀ x ∈ r, x ≤ n) ∧ Dr (n0 + 1000) b.2 by
    obtain ⟨⟨b1, b2⟩, h1, rows, rfl, h2, h3, h4⟩ := hE
    exact ⟨rows, b2, h1, h2, h3, h4⟩
  refine run_def (d := d_law_stacks) rfl rfl ?_
  have hr1 : itk .range [.int ((n : Int) + 1)] = some ((List.range (n + 1)).map fun (j : Nat) => .int (j : Int)) := q_range (n := n + 1) (by omega)
  have hr2 := q_range (n := n) (by omega)
  have q1 : ∀ j, j ≤ 20 → lenOk j = true := fun j hj => lenOk_of (by omega)
  obtain ⟨x, s1, e1, e2, e3⟩ := w_pickL (n := n0) h (by omega) (xs := [natsD [n], natsD [n, 0], natsD (List.range (n + 1)), natsD (List.range n ++ [n, n])]) (by simp) (by simp) (m := k + 4) (by omega)
  have hx : ∃ ms : List Nat, x = natsD ms ∧ ms.length ≤ 20 ∧ ∀ y ∈ ms, y ≤ n := by
    simp at e2
    rcases e2 with rfl | rfl | rfl | rfl
    · exact ⟨_, rfl, by simp, by simp⟩
    · exact ⟨_, rfl, by simp, by simp⟩
    · exact ⟨_, rfl, by simp; omega, by simp; omega⟩
    · exact ⟨_, rfl, by simp; omega, by simp; omega⟩
  obtain ⟨ms, rfl, hml, hms⟩ := hx
  obtain ⟨z, s2, g1, g2, g3⟩ := w_pickL (n := n0 + 1) e3 (by omega) (xs := [.int 1, .int 3, .int 8, .int 30]) (by simp) (by simp) (m := k + 4) (by omega)
  have hz : ∃ z' : Nat, z = .int (z' : Nat) ∧ z' ≤ 30 := by
    simp at g2
    rcases g2 with rfl | rfl | rfl | rfl
    · exact ⟨1, rfl, by omega⟩
    · exact ⟨3, rfl, by omega⟩
    · exact ⟨8, rfl, by omega⟩
    · exact ⟨30, rfl, by omega⟩
  obtain ⟨z, rfl, hz⟩ := hz
  have l1 : lenOk (n + 1) = true := lenOk_of (by omega)
  have l0 : lenOk n = true := lenOk_of (by omega)
  have l2 : lenOk (n + 1 + 1) = true := lenOk_of (by omega)
  have l4 : lenOk 4 = true := lenOk_of (by omega)
  have l3 : lenOk 3 = true := lenOk_of (by omega)
  simp [natsD] at e1
  simp [-w_exs1, d_law_stacks, start, O.isD, O.flat, isInst, isTy, tyNames, tyN, tyNs, anyN, O.toD, eqOk, D.plain, D.depth, D.eqv, D.flat, E.place, E.quiet, E.quiet.go, E.quietO, stEs, stE, asgT, cxK_own, cxK_cel, cxK_call, cxK_callX, cxK_make, bindT.go, Tg.slots, Tg.slots.go, wipe, putBack, dOnly, ixN, bls_map, pures_map', pures_mapf, toDs_mapf, toDs_map', ints_map, E.keeps, isN, isL, modR, modPath, appAt]
  rw [w_exs1]
  simp [-w_exs1, start, O.isD, O.flat, isInst, isTy, tyNames, tyN, tyNs, anyN, O.toD, eqOk, D.plain, D.depth, D.eqv, D.flat, E.place, E.quiet, E.quiet.go, E.quietO, stEs, stE, asgT, cxK_own, cxK_cel, cxK_call, cxK_callX, cxK_make, bindT.go, Tg.slots, Tg.slots.go, wipe, putBack, dOnly, ixN, bls_map, pures_map', pures_mapf, toDs_mapf, toDs_map', ints_map, E.keeps, isN, isL, modR, modPath, appAt, hr1, hr2, l0, l1, l2, l4, bit, Function.comp_def, bop, O.toDs, e1]
  rw [w_exs1]
  simp [-w_exs1, start, O.isD, O.flat, isInst, isTy, tyNames, tyN, tyNs, anyN, O.toD, eqOk, D.plain, D.depth, D.eqv, D.flat, E.place, E.quiet, E.quiet.go, E.quietO, stEs, stE, asgT, cxK_own, cxK_cel, cxK_call, cxK_callX, cxK_make, bindT.go, Tg.slots, Tg.slots.go, wipe, putBack, dOnly, ixN, bls_map, pures_map', pures_mapf, toDs_mapf, toDs_map', ints_map, E.keeps, isN, isL, modR, modPath, appAt, l4, O.toDs, g1]
  rw [w_exs1]
  simp only [w_ret]
  refine run_draw (List.range n) (fun j => .int (j : Nat)) natsD (fun r => r.length ≤ 40 ∧ ∀ x ∈ r, x ≤ n) 82 (n0 + 2) ?_
  simp [-w_exs1, start, O.isD, O.flat, isInst, isTy, tyNames, tyN, tyNs, anyN, O.toD, eqOk, D.plain, D.depth, D.eqv, D.flat, E.place, E.quiet, E.quiet.go, E.quietO, stEs, stE, asgT, cxK_own, cxK_cel, cxK_call, cxK_callX, cxK_make, bindT.go, Tg.slots, Tg.slots.go, wipe, putBack, dOnly, ixN, bls_map, pures_map', pures_mapf, toDs_mapf, toDs_map', ints_map, E.keeps, isN, isL, modR, modPath, appAt, hr2, l0]
  refine ⟨g3, fun q hq n' sto' hn' d' => ?_, fun ys sto' hl hy d' => ?_⟩
  · obtain ⟨a, s3, f1, f2, f3⟩ := w_take d' (by omega) (a := z + 1) (by omega) (by omega) (m := k + 4) (by omega)
    obtain ⟨b, s4, p1, p2, p3⟩ := w_pickL f3 (by omega) (xs := [.int 0, .int 2, .int 2]) (by simp) (by simp) (m := k + 4) (by omega)
    have hb : ∃ b' : Nat, b = .int (b' : Nat) ∧ b' ≤ 2 := by
      simp at p2
      rcases p2 with rfl | rfl
      · exact ⟨0, rfl, by omega⟩
      · exact ⟨2, rfl, by omega⟩
    obtain ⟨b, rfl, hb⟩ := hb
    simp at f1
    have hr3 : itk .range [.int ((a : Int) + (b : Int))] = some ((List.range (a + b)).map fun (j : Nat) => .int (j : Int)) := q_range (n := a + b) (by omega)
    have l5 : lenOk (a + b) = true := lenOk_of (by omega)
    refine run_nums (List.range (a + b)) (fun j => .int (j : Nat)) n 2 (n' + 2) ?_
    simp [start, O.isD, O.flat, isInst, isTy, tyNames, tyN, tyNs, anyN, O.toD, eqOk, D.plain, D.depth, D.eqv, D.flat, E.place, E.quiet, E.quiet.go, E.quietO, stEs, stE, asgT, cxK_own, cxK_cel, cxK_call, cxK_callX, cxK_make, bindT.go, Tg.slots, Tg.slots.go, wipe, putBack, dOnly, ixN, bls_map, pures_map', pures_mapf, toDs_mapf, toDs_map', ints_map, E.keeps, isN, isL, modR, modPath, appAt, l3, O.toDs, f1, p1, hr3, l5]
    refine ⟨p3, fun u hu n2 sto2 hn2 d2 => ?_, fun ys sto2 hl hy d2 => ?_⟩
    · obtain ⟨v, s5, t1, t2, t3⟩ := w_take d2 (by omega) (a := n + 1) (by omega) (by omega) (m := k + 4) (by omega)
      obtain ⟨y, s6, u1, u2, u3⟩ := w_pickL t3 (by omega) (xs := (ms.map fun i => D.int (i : Nat)) ++ [.int (v : Nat)]) (by simp) (by simp; omega) (m := k + 4) (by omega)
      have hy : ∃ y' : Nat, y = .int (y' : Nat) ∧ y' ≤ n := by
        rcases List.mem_append.mp u2 with u2 | u2
        · obtain ⟨i, hi, rfl⟩ := List.mem_map.mp u2
          exact ⟨i, rfl, hms i hi⟩
        · simp at u2
          exact ⟨v, u2, by omega⟩
      obtain ⟨y, rfl, hy⟩ := hy
      have l6 : lenOk 1 = true := lenOk_of (by omega)
      have l7 : lenOk (ms.length + 1) = true := lenOk_of (by omega)
      simp at t1
      simp [start, O.isD, O.flat, isInst, isTy, tyNames, tyN, tyNs, anyN, O.toD, eqOk, D.plain, D.depth, D.eqv, D.flat, E.place, E.quiet, E.quiet.go, E.quietO, stEs, stE, asgT, cxK_own, cxK_cel, cxK_call, cxK_callX, cxK_make, bindT.go, Tg.slots, Tg.slots.go, wipe, putBack, dOnly, ixN, bls_map, pures_map', pures_mapf, toDs_mapf, toDs_map', ints_map, E.keeps, isN, isL, modR, modPath, appAt, l6, l7, O.toDs, t1, Function.comp_def, u1]
      exact ⟨⟨y, rfl, hy⟩, u3⟩
    · refine ⟨⟨ys, rfl, by omega, hy⟩, Dr_mono d2 (by omega)⟩
  · exact ⟨ys, rfl, hl, fun r hr => hy r hr, Dr_mono d' (by omega)⟩
end K34
end Py
end

section
set_option linter.all false
set_option Elab.async false
/-! PF: rounds that are drawn. -/
namespace Py
open Pop
@[simp high] theorem ones_ne {α : Type} (l : List α) : cop .ne (.lst (l.map fun _ => .int 1)) (.lst []) = some (!l.isEmpty) := by
  have := ints_ne (l.map fun _ => (1 : Int))
  rw [List.map_map] at this
  rw [show (l.map fun _ => D.int 1) = l.map (D.int ∘ fun _ => 1) from rfl, this]
  cases l <;> rfl
theorem any_nat (h : Nat) : ∀ l : List Nat, ((l.map fun i => D.int (i : Nat)).any fun y => D.eqv y (.int (h : Nat))) = decide (h ∈ l)
  | [] => rfl
  | x :: l => by
    rw [List.map_cons, List.any_cons, any_nat h l, eqv_nat, Bool.eq_iff_iff]
    simp
    constructor
    · rintro (rfl | e)
      · exact .inl rfl
      · exact .inr e
    · rintro (rfl | e)
      · exact .inl rfl
      · exact .inr e
theorem all_flat (l : List Nat) : (l.map fun i => D.int (i : Nat)).all D.flat = true := by
  rw [List.all_eq_true]
  intro x hx
  obtain ⟨i, _, rfl⟩ := List.mem_map.mp hx
  rfl
@[simp high] theorem notin_nats (h : Nat) (l : List Nat) : cop .notin (.int (h : Nat)) (.lst (l.map fun i => .int (i : Nat))) = some (!decide (h ∈ l)) := by
  rw [show cop .notin (.int (h : Nat)) (.lst (l.map fun i => .int (i : Nat))) = if (D.int (h : Nat)).flat && (l.map fun i => D.int (i : Nat)).all D.flat then some (!((l.map fun i => D.int (i : Nat)).any fun y => D.eqv y (.int (h : Nat)))) else none from rfl, all_flat, any_nat]
  rfl
@[simp high] theorem isin_nats (h : Nat) (l : List Nat) : cop .isin (.int (h : Nat)) (natsD l) = some (decide (h ∈ l)) := by
  rw [show cop .isin (.int (h : Nat)) (natsD l) = if (D.int (h : Nat)).flat && (l.map fun i => D.int (i : Nat)).all D.flat then some ((l.map fun i => D.int (i : Nat)).any fun y => D.eqv y (.int (h : Nat))) else none from rfl, all_flat, any_nat]
  rfl
theorem nats_plain (l : List Nat) : (natsD l).plain = true := K34.plains_mem fun x hx => by
  obtain ⟨i, _, rfl⟩ := List.mem_map.mp hx
  rfl
theorem nats_depth (l : List Nat) : (natsD l).depth ≤ 1 := by
  have : D.depths (l.map fun i => D.int (i : Nat)) ≤ 0 := K34.depths_mem fun x hx => by
    obtain ⟨i, _, rfl⟩ := List.mem_map.mp hx
    exact Nat.le_refl _
  simp only [natsD, D.depth]
  omega
@[simp high] theorem rows_eq (fs : List (List Nat)) : cop .eq (.lst (fs.map natsD)) (.lst []) = some fs.isEmpty := by
  have h1 : D.plains (fs.map natsD) = true := K34.plains_mem fun x hx => by
    obtain ⟨i, _, rfl⟩ := List.mem_map.mp hx
    exact nats_plain i
  have h2 : D.depths (fs.map natsD) ≤ 1 := K34.depths_mem fun x hx => by
    obtain ⟨i, _, rfl⟩ := List.mem_map.mp hx
    exact nats_depth i
  have e : eqOk (.lst (fs.map natsD)) (.lst []) = true := by
    simp [eqOk, D.plain, D.depth, h1, D.plains, D.depths]
    omega
  rw [show cop .eq (D.lst (fs.map natsD)) (.lst []) = if eqOk (D.lst (fs.map natsD)) (.lst []) then some (D.eqv (D.lst (fs.map natsD)) (.lst [])) else none from rfl, e, if_pos rfl]
  cases fs <;> simp [D.eqv, D.eqvs]
/-- what a drawn round may be -/
inductive RoundR (S : Nat → List Nat) (n : Nat) (t : Nat → Nat) : D → Prop
  | out (q : Nat) (h : q < n) (h2 : (S q).length ≤ t q) : RoundR S n t (.int 0)
  | done (h : Term S n t) (h2 : ∀ q, q < n → t q < (S q).length) : RoundR S n t .non
  | line (p : Nat) (l : List Nat) (h : Per S n t p) (h2 : ∀ q, q ∈ l ↔ Orb S n t p q) (h3 : ∀ q, q < n → t q < (S q).length) (h4 : l.length ≤ n) : RoundR S n t (natsD l)
/-- the tops -/
def topD (S : Nat → List Nat) (n : Nat) (t : Nat → Nat) : D := .lst ((List.range n).map fun q => .int (nx S n t q : Nat))
@[simp] theorem topD_cell {S : Nat → List Nat} {n : Nat} {t : Nat → Nat} : noCell (.d (topD S n t)) = true := by rfl
theorem topD_item {S : Nat → List Nat} {n : Nat} {t : Nat → Nat} {i : Nat} (h : i < n) : item (.d (topD S n t)) (.int (i : Nat)) = some (.d (.int (nx S n t i : Nat))) := rng_item (w := false) (fun q => .int (nx S n t q : Nat)) h
namespace K34
variable {sto : List O}
section
variable {S : Nat → List Nat} {n : Nat} (hS : ∀ q, n ≤ q → S q = []) (hI : ∀ q x, x ∈ S q → x ≤ n) {t : Nat → Nat}
include hI in
theorem run_line {c : Cx} (hl : c.lp = loop) (ho : c.own = [6, 7]) (hc : c.cel = []) (hn : n ≤ 900) {x0 x2 x3 x4 x6 : Option O} {p : Nat} (hp : p ≤ n) {K : Out × St → Prop}
    (hK : ∀ j, Line S n t p j → (itr (nx S n t) j p = n ∨ itr (nx S n t) j p ∈ lineL S n t p j) → K (.nx, ⟨[x0, some (.d (.int (n : Nat))), x2, x3, x4, some (.d (topD S n t)), x6, some (.lst ((lineL S n t p j).map fun i => .d (.int (i : Nat)))), some (.d (.int (itr (nx S n t) j p : Nat)))], sto⟩)) :
    Ends (ex c (.whl (.and (.cmp .ne (.var 8) (.var 1)) (.cmp .notin (.var 8) (.var 7))) [.app (.var 7) (.var 8), .asg (.nm 8) (.idx (.var 5) (.var 8))]) ⟨[x0, some (.d (.int (n : Nat))), x2, x3, x4, some (.d (topD S n t)), x6, some (.lst []), some (.d (.int (p : Nat)))], sto⟩) K := by
  refine run_whl (fun M s => ∃ j, Line S n t p j ∧ M = n - j ∧ s = ⟨[x0, some (.d (.int (n : Nat))), x2, x3, x4, some (.d (topD S n t)), x6, some (.lst ((lineL S n t p j).map fun i => .d (.int (i : Nat)))), some (.d (.int (itr (nx S n t) j p : Nat)))], sto⟩) hl (n := n) ⟨0, .nil hp, rfl, rfl⟩ ?_
  rintro M s ⟨j, ln, rfl, rfl⟩
  by_cases h1 : itr (nx S n t) j p = n
  · simp [-w_exs1, start, O.isD, O.flat, isInst, isTy, tyNames, tyN, tyNs, anyN, O.toD, eqOk, D.plain, D.depth, D.eqv, D.flat, E.place, E.quiet, E.quiet.go, E.quietO, stEs, stE, asgT, cxK_own, cxK_cel, cxK_call, cxK_callX, cxK_make, bindT.go, Tg.slots, Tg.slots.go, wipe, putBack, dOnly, ixN, bls_map, pures_map', pures_mapf, toDs_mapf, toDs_map', ints_map, E.keeps, isN, isL, modR, modPath, appAt, h1]
    have := hK j ln (.inl h1)
    rw [h1] at this
    exact this
  · have h1' : ¬ ((itr (nx S n t) j p : Nat) : Int) = (n : Int) := by omega
    by_cases h2 : itr (nx S n t) j p ∈ lineL S n t p j
    · simp [-w_exs1, start, O.isD, O.flat, isInst, isTy, tyNames, tyN, tyNs, anyN, O.toD, eqOk, D.plain, D.depth, D.eqv, D.flat, E.place, E.quiet, E.quiet.go, E.quietO, stEs, stE, asgT, cxK_own, cxK_cel, cxK_call, cxK_callX, cxK_make, bindT.go, Tg.slots, Tg.slots.go, wipe, putBack, dOnly, ixN, bls_map, pures_map', pures_mapf, toDs_mapf, toDs_map', ints_map, E.keeps, isN, isL, modR, modPath, appAt, h1', h2]
      exact hK j ln (.inr h2)
    · obtain ⟨h3, h4, h5⟩ := ln.step hI h1 h2
      have hle := h4.le
      have q1 : lenOk ((lineL S n t p j).length + 1) = true := lenOk_of (by simp [lineL]; omega)
      have i1 := topD_item (S := S) (t := t) h3
      have e1 : (lineL S n t p j).map (fun i => O.d (.int (i : Nat))) ++ [.d (.int (itr (nx S n t) j p : Nat))] = (lineL S n t p (j + 1)).map fun i => .d (.int (i : Nat)) := by
        unfold lineL
        rw [List.range_succ, List.map_append, List.map_append]
        rfl
      simp [-w_exs1, start, O.isD, O.flat, isInst, isTy, tyNames, tyN, tyNs, anyN, O.toD, eqOk, D.plain, D.depth, D.eqv, D.flat, E.place, E.quiet, E.quiet.go, E.quietO, stEs, stE, asgT, cxK_own, cxK_cel, cxK_call, cxK_callX, cxK_make, bindT.go, Tg.slots, Tg.slots.go, wipe, putBack, dOnly, ixN, bls_map, pures_map', pures_mapf, toDs_mapf, toDs_map', ints_map, E.keeps, isN, isL, modR, modPath, appAt, h1', h2]
      rw [w_exs1]
      simp [-w_exs1, start, O.isD, O.flat, isInst, isTy, tyNames, tyN, tyNs, anyN, O.toD, eqOk, D.plain, D.depth, D.eqv, D.flat, E.place, E.quiet, E.quiet.go, E.quietO, stEs, stE, asgT, cxK_own, cxK_cel, cxK_call, cxK_callX, cxK_make, bindT.go, Tg.slots, Tg.slots.go, wipe, putBack, dOnly, ixN, bls_map, pures_map', pures_mapf, toDs_mapf, toDs_map', ints_map, E.keeps, isN, isL, modR, modPath, appAt, q1]
      rw [w_exs1]
      simp [-w_exs1, start, O.isD, O.flat, isInst, isTy, tyNames, tyN, tyNs, anyN, O.toD, eqOk, D.plain, D.depth, D.eqv, D.flat, E.place, E.quiet, E.quiet.go, E.quietO, stEs, stE, asgT, cxK_own, cxK_cel, cxK_call, cxK_callX, cxK_make, bindT.go, Tg.slots, Tg.slots.go, wipe, putBack, dOnly, ixN, bls_map, pures_map', pures_mapf, toDs_mapf, toDs_map', ints_map, E.keeps, isN, isL, modR, modPath, appAt, ho, hc, i1]
      refine ⟨n - (j + 1), by omega, j + 1, h4, rfl, ?_, ?_⟩
      · exact e1
      · rw [h5]
/-- between two places -/
inductive RInv (S : Nat → List Nat) (n : Nat) (t : Nat → Nat) (sto : List O) (done : List Nat) : St → Prop
  | mk (fs : List (List Nat)) (x4 x7 x8 : Option O) (h1 : ∀ l ∈ fs, ∃ p j, Line S n t p j ∧ p < n ∧ 0 < j ∧ itr (nx S n t) j p = p ∧ l = lineL S n t p j) (h2 : ∀ p ∈ done, Per S n t p → fs ≠ []) (h3 : fs.length ≤ done.length) :
      RInv S n t sto done ⟨[some (.d (.cell 1)), some (.d (.int (n : Nat))), some (.d (stD false n S)), some (.d (.lst (trD n t))), x4, some (.d (topD S n t)), some (.lst (fs.map fun l => .d (natsD l))), x7, x8], sto⟩
include hS hI in
theorem w_round {n0 : Nat} (d : Dr n0 sto) (hn0 : n0 ≤ 10 ^ 7) (hn : n ≤ 900) (hlen : ∀ q, (S q).length ≤ 1000) {m : Nat} (hm : 5 ≤ m) : ∃ (x : D) (sto' : List O), callD loop prog m 21 [.cell 1, .int (n : Nat), stD false n S, .lst (trD n t)] sto = some (.d x, sto') ∧ RoundR S n t x ∧ Dr (n0 + 1) sto' := by
  obtain ⟨k, rfl⟩ : ∃ k, m = k + 5 := ⟨m - 5, by omega⟩
  suffices hE : Ends (callD loop prog (k + 5) 21 [.cell 1, .int (n : Nat), stD false n S, .lst (trD n t)] sto) fun b => ∃ x, b.1 = .d x ∧ RoundR S n t x ∧ Dr (n0 + 1) b.2 by
    obtain ⟨⟨b1, b2⟩, h1, x, rfl, h2, h3⟩ := hE
    exact ⟨x, b2, h1, h2, h3⟩
  refine run_def (d := d_law_a_round) rfl rfl ?_
  have hr := q_range (n := n) (by omega)
  have l0 : lenOk n = true := lenOk_of (by omega)
  have it : ∀ q, q < n → item (.d (.lst (trD n t))) (.int (q : Nat)) = some (.d (.int (t q : Nat))) := fun q hq => rng_item (w := false) (fun q => .int (t q : Nat)) hq
  simp [-w_exs1, d_law_a_round, start, O.isD, O.flat, isInst, isTy, tyNames, tyN, tyNs, anyN, O.toD, eqOk, D.plain, D.depth, D.eqv, D.flat, E.place, E.quiet, E.quiet.go, E.quietO, stEs, stE, asgT, cxK_own, cxK_cel, cxK_call, cxK_callX, cxK_make, bindT.go, Tg.slots, Tg.slots.go, wipe, putBack, dOnly, ixN, bls_map, pures_map', pures_mapf, toDs_mapf, toDs_map', ints_map, E.keeps, isN, isL, modR, modPath, appAt]
  rw [w_exs1, w_if]
  simp [-w_exs1]
  refine run_filt (List.range n) (fun j => .int (j : Nat)) (fun _ => .int 1) (fun q => decide ((S q).length ≤ t q)) ?_
  simp [-w_exs1, start, O.isD, O.flat, isInst, isTy, tyNames, tyN, tyNs, anyN, O.toD, eqOk, D.plain, D.depth, D.eqv, D.flat, E.place, E.quiet, E.quiet.go, E.quietO, stEs, stE, asgT, cxK_own, cxK_cel, cxK_call, cxK_callX, cxK_make, bindT.go, Tg.slots, Tg.slots.go, wipe, putBack, dOnly, ixN, bls_map, pures_map', pures_mapf, toDs_mapf, toDs_map', ints_map, E.keeps, isN, isL, modR, modPath, appAt, hr, l0]
  refine ⟨fun q hq => ?_, ?_⟩
  · have := stD_item (w := false) (S := S) hq
    simp [start, O.isD, O.flat, isInst, isTy, tyNames, tyN, tyNs, anyN, O.toD, eqOk, D.plain, D.depth, D.eqv, D.flat, E.place, E.quiet, E.quiet.go, E.quietO, stEs, stE, asgT, cxK_own, cxK_cel, cxK_call, cxK_callX, cxK_make, bindT.go, Tg.slots, Tg.slots.go, wipe, putBack, dOnly, ixN, bls_map, pures_map', pures_mapf, toDs_mapf, toDs_map', ints_map, E.keeps, isN, isL, modR, modPath, appAt, it q hq, this]
  · refine ⟨fun q h1 h2 => ?_, fun h => ?_⟩
    · rw [w_exs1]
      simp
      exact ⟨.out q h1 h2, Dr_mono d (by omega)⟩
    · rw [w_exs1]
      simp [-w_exs1, start, O.isD, O.flat, isInst, isTy, tyNames, tyN, tyNs, anyN, O.toD, eqOk, D.plain, D.depth, D.eqv, D.flat, E.place, E.quiet, E.quiet.go, E.quietO, stEs, stE, asgT, cxK_own, cxK_cel, cxK_call, cxK_callX, cxK_make, bindT.go, Tg.slots, Tg.slots.go, wipe, putBack, dOnly, ixN, bls_map, pures_map', pures_mapf, toDs_mapf, toDs_map', ints_map, E.keeps, isN, isL, modR, modPath, appAt]
      refine run_map (List.range n) (fun j => .int (j : Nat)) (fun q => .int (nx S n t q : Nat)) ?_
      simp [-w_exs1, start, O.isD, O.flat, isInst, isTy, tyNames, tyN, tyNs, anyN, O.toD, eqOk, D.plain, D.depth, D.eqv, D.flat, E.place, E.quiet, E.quiet.go, E.quietO, stEs, stE, asgT, cxK_own, cxK_cel, cxK_call, cxK_callX, cxK_make, bindT.go, Tg.slots, Tg.slots.go, wipe, putBack, dOnly, ixN, bls_map, pures_map', pures_mapf, toDs_mapf, toDs_map', ints_map, E.keeps, isN, isL, modR, modPath, appAt, hr, l0]
      refine ⟨fun q hq => ?_, ?_⟩
      · have i1 := stD_item (w := false) (S := S) hq
        have i2 := st_item (w := false) (nx_at (n := n) (h q hq))
        simp [start, O.isD, O.flat, isInst, isTy, tyNames, tyN, tyNs, anyN, O.toD, eqOk, D.plain, D.depth, D.eqv, D.flat, E.place, E.quiet, E.quiet.go, E.quietO, stEs, stE, asgT, cxK_own, cxK_cel, cxK_call, cxK_callX, cxK_make, bindT.go, Tg.slots, Tg.slots.go, wipe, putBack, dOnly, ixN, bls_map, pures_map', pures_mapf, toDs_mapf, toDs_map', ints_map, E.keeps, isN, isL, modR, modPath, appAt, it q hq, i1, i2]
      · rw [w_exs1]
        refine run_for (List.range n) (fun j => .int (j : Nat)) (fun done s => RInv S n t sto done s) ?_ ?_ ?_
        · simp [start, O.isD, O.flat, isInst, isTy, tyNames, tyN, tyNs, anyN, O.toD, eqOk, D.plain, D.depth, D.eqv, D.flat, E.place, E.quiet, E.quiet.go, E.quietO, stEs, stE, asgT, cxK_own, cxK_cel, cxK_call, cxK_callX, cxK_make, bindT.go, Tg.slots, Tg.slots.go, wipe, putBack, dOnly, ixN, bls_map, pures_map', pures_mapf, toDs_mapf, toDs_map', ints_map, E.keeps, isN, isL, modR, modPath, appAt, hr]
          exact .mk [] none none none (fun l h => by cases h) (fun p h => by cases h) (Nat.le_refl _)
        · rintro done q rest e s ⟨fs, x4, x7, x8, h1, h2, h3⟩
          have hq : q < n := List.mem_range.mp (by rw [e]; simp)
          have hdl : done.length < n := by
            have := congrArg List.length e
            simp at this
            omega
          simp [-w_exs1, start, O.isD, O.flat, isInst, isTy, tyNames, tyN, tyNs, anyN, O.toD, eqOk, D.plain, D.depth, D.eqv, D.flat, E.place, E.quiet, E.quiet.go, E.quietO, stEs, stE, asgT, cxK_own, cxK_cel, cxK_call, cxK_callX, cxK_make, bindT.go, Tg.slots, Tg.slots.go, wipe, putBack, dOnly, ixN, bls_map, pures_map', pures_mapf, toDs_mapf, toDs_map', ints_map, E.keeps, isN, isL, modR, modPath, appAt]
          rw [w_exs1]
          simp [-w_exs1, start, O.isD, O.flat, isInst, isTy, tyNames, tyN, tyNs, anyN, O.toD, eqOk, D.plain, D.depth, D.eqv, D.flat, E.place, E.quiet, E.quiet.go, E.quietO, stEs, stE, asgT, cxK_own, cxK_cel, cxK_call, cxK_callX, cxK_make, bindT.go, Tg.slots, Tg.slots.go, wipe, putBack, dOnly, ixN, bls_map, pures_map', pures_mapf, toDs_mapf, toDs_map', ints_map, E.keeps, isN, isL, modR, modPath, appAt]
          rw [w_exs1]
          refine run_line hI rfl rfl rfl hn (Nat.le_of_lt hq) fun j ln ho => ?_
          simp only
          rw [w_exs1]
          have q1 : lenOk (fs.length + 1) = true := lenOk_of (by omega)
          by_cases hh : itr (nx S n t) j q = q
          · have hj : 0 < j := by
              by_cases z : j = 0
              · subst z
                rcases ho with ho | ho
                · have : q = n := ho
                  omega
                · obtain ⟨i, hi, _⟩ := mem_line.mp ho
                  omega
              · omega
            simp [start, O.isD, O.flat, isInst, isTy, tyNames, tyN, tyNs, anyN, O.toD, eqOk, D.plain, D.depth, D.eqv, D.flat, E.place, E.quiet, E.quiet.go, E.quietO, stEs, stE, asgT, cxK_own, cxK_cel, cxK_call, cxK_callX, cxK_make, bindT.go, Tg.slots, Tg.slots.go, wipe, putBack, dOnly, ixN, bls_map, pures_map', pures_mapf, toDs_mapf, toDs_map', ints_map, E.keeps, isN, isL, modR, modPath, appAt, hh, q1, toDs_mapf]
            have := RInv.mk (S := S) (n := n) (t := t) (sto := sto) (done := done ++ [q]) (fs ++ [lineL S n t q j]) (some (.d (.int (q : Nat)))) (some (.d (natsD (lineL S n t q j)))) (some (.d (.int (itr (nx S n t) j q : Nat)))) (fun l hl => by
              rcases List.mem_append.mp hl with hl | hl
              · exact h1 l hl
              · rw [List.mem_singleton.mp hl]
                exact ⟨q, j, ln, hq, hj, hh, rfl⟩) (fun p hp hper => by simp) (by simp; omega)
            rw [hh, List.map_append] at this
            exact this
          · have hh' : ¬ ((itr (nx S n t) j q : Nat) : Int) = (q : Int) := by omega
            simp [start, O.isD, O.flat, isInst, isTy, tyNames, tyN, tyNs, anyN, O.toD, eqOk, D.plain, D.depth, D.eqv, D.flat, E.place, E.quiet, E.quiet.go, E.quietO, stEs, stE, asgT, cxK_own, cxK_cel, cxK_call, cxK_callX, cxK_make, bindT.go, Tg.slots, Tg.slots.go, wipe, putBack, dOnly, ixN, bls_map, pures_map', pures_mapf, toDs_mapf, toDs_map', ints_map, E.keeps, isN, isL, modR, modPath, appAt, hh']
            refine .mk fs _ _ _ h1 (fun p hp hper => ?_) (by simp; omega)
            rcases List.mem_append.mp hp with hp | hp
            · exact h2 p hp hper
            · rw [List.mem_singleton.mp hp] at hper
              exact (ln.noround hS ho hh hper).elim
        · rintro s ⟨fs, x4, x7, x8, h1, h2, h3⟩
          simp only
          rw [w_exs1]
          simp [-w_exs1, start, O.isD, O.flat, isInst, isTy, tyNames, tyN, tyNs, anyN, O.toD, eqOk, D.plain, D.depth, D.eqv, D.flat, E.place, E.quiet, E.quiet.go, E.quietO, stEs, stE, asgT, cxK_own, cxK_cel, cxK_call, cxK_callX, cxK_make, bindT.go, Tg.slots, Tg.slots.go, wipe, putBack, dOnly, ixN, bls_map, pures_map', pures_mapf, toDs_mapf, toDs_map', ints_map, E.keeps, isN, isL, modR, modPath, appAt, pures_mapf, toDs_mapf]
          refine ⟨fun e => ⟨.done (fun p hp => ?_) h, Dr_mono d (by omega)⟩, fun e => ?_⟩
          · exact h2 p (List.mem_range.mpr hp.1) hp e
          · have h3' : fs.length ≤ n := by simpa using h3
            obtain ⟨x, s2, e1, e2, e3⟩ := w_pickL d (by omega) (xs := fs.map natsD) (by
              rw [List.length_map]
              exact List.length_pos_iff.mpr e) (by rw [List.length_map]; omega) (m := k + 4) (by omega)
            obtain ⟨l, hl, rfl⟩ := List.mem_map.mp e2
            obtain ⟨p, j, ln, hp, hj, hh, rfl⟩ := h1 l hl
            obtain ⟨r1, r2⟩ := ln.round hp hj hh
            simp [e1]
            exact ⟨.line p _ r1 r2 h (by simpa [lineL] using ln.le), e3⟩
end
end K34
end Py
end

section
set_option linter.all false
set_option Elab.async false
/-! PG: what is due. -/
namespace Py
open Pop
theorem zipIdx_rng {α : Type} (f : Nat → α) (n : Nat) : ((List.range n).map f).zipIdx = (List.range n).map fun q => (f q, q) := by
  apply List.ext_getElem?
  intro j
  rw [List.getElem?_zipIdx]
  by_cases hj : j < n
  · rw [rng_get _ hj, rng_get _ hj]
    simp
  · rw [List.getElem?_eq_none (by simpa using hj), List.getElem?_eq_none (by simpa using hj)]
    rfl
@[simp high] theorem nats_is0 (l : List Nat) : cop .eq (natsD l) (.int 0) = some false := by
  have h1 := nats_plain l
  have h2 := nats_depth l
  have e : eqOk (natsD l) (.int 0) = true := by
    simp [eqOk, D.plain, D.depth, h1]
    omega
  rw [show cop .eq (natsD l) (.int 0) = if eqOk (natsD l) (.int 0) then some (D.eqv (natsD l) (.int 0)) else none from rfl, e, if_pos rfl]
  rfl
@[simp high] theorem nats_isnot (l : List Nat) : cop .isnot (natsD l) .non = some true := by rfl
theorem left_le {S : Nat → List Nat} {n : Nat} {τ : Nat → Nat} (hlen : ∀ q, (S q).length ≤ 40) : K34.left S n τ ≤ n * 40 := by
  unfold K34.left
  induction n with
  | zero => simp
  | succ n ih =>
    rw [List.range_succ, List.map_append, List.sum_append]
    have := hlen n
    simp
    omega
theorem left_bump {S : Nat → List Nat} {n : Nat} {t : Nat → Nat} {p : Nat} (hp : Per S n t p) (h : ∀ q, q < n → t q < (S q).length) : K34.left S n (bump S n t p) < K34.left S n t := by
  refine sum_lt (fun q _ => ?_) (List.mem_range.mpr hp.1) ?_
  · have := bump_le (S := S) (n := n) (t := t) (p := p) q
    show (S q).length - bump S n t p q ≤ (S q).length - t q
    omega
  · have h1 := bump_in (S := S) (n := n) (t := t) (p := p) (q := p) ⟨0, rfl⟩
    have h2 := h p hp.1
    show (S p).length - bump S n t p p < (S p).length - t p
    omega
namespace K34
variable {sto : List O}
section
variable {S : Nat → List Nat} {n : Nat} (hS : ∀ q, n ≤ q → S q = []) (hI : ∀ q x, x ∈ S q → x ≤ n)
/-- between two rounds -/
inductive DInv (S : Nat → List Nat) (n n0 : Nat) (M : Nat) : St → Prop
  | mk (t : Nat → Nat) (x : D) (x5 x6 : Option O) (sto : List O) (re : Reach S n (fun _ => 0) t) (rr : RoundR S n t x) (d : Dr (n0 + 1 + (n * 40 - left S n t)) sto) (hM : M = left S n t) :
      DInv S n n0 M ⟨[some (.d (.cell 1)), some (.d (.int (n : Nat))), some (.d (stD false n S)), some (.d (.lst (trD n t))), some (.d x), x5, x6], sto⟩
include hS hI in
theorem w_due {n0 : Nat} (d : Dr n0 sto) (hn0 : n0 ≤ 10 ^ 6) (hn : n ≤ 900) (hlen : ∀ q, (S q).length ≤ 40) {m : Nat} (hm : 6 ≤ m) : ∃ (x : D) (sto' : List O), callD loop prog m 22 [.cell 1, .int (n : Nat), stD false n S] sto = some (.d x, sto') ∧ PopSpec S n x ∧ Dr (n0 + 1 + n * 40) sto' := by
  obtain ⟨k, rfl⟩ : ∃ k, m = k + 6 := ⟨m - 6, by omega⟩
  suffices hE : Ends (callD loop prog (k + 6) 22 [.cell 1, .int (n : Nat), stD false n S] sto) fun b => ∃ x, b.1 = .d x ∧ PopSpec S n x ∧ Dr (n0 + 1 + n * 40) b.2 by
    obtain ⟨⟨b1, b2⟩, h1, x, rfl, h2, h3⟩ := hE
    exact ⟨x, b2, h1, h2, h3⟩
  refine run_def (d := d_law_due) rfl rfl ?_
  have hr := q_range (n := n) (by omega)
  have l0 : lenOk n = true := lenOk_of (by omega)
  have h0 : (0 : Int) ≤ (n : Int) := by omega
  have t0 : D.lst (List.replicate n (.int 0)) = .lst (trD n (fun _ => 0)) := by
    refine congrArg D.lst ?_
    unfold trD
    apply List.ext_getElem?
    intro j
    by_cases hj : j < n
    · rw [List.getElem?_replicate, if_pos hj, rng_get _ hj]
      rfl
    · rw [List.getElem?_eq_none (by simpa using hj), List.getElem?_eq_none (by simpa using hj)]
  have t0' : O.toDs (List.replicate n (O.d (.int 0))) = trD n (fun _ => 0) := by
    have := toDs_map' (List.replicate n (D.int 0))
    rw [List.map_replicate] at this
    rw [this]
    exact D.lst.inj t0
  obtain ⟨x, s1, e1, e2, e3⟩ := w_round (t := fun _ => 0) hS hI d (by omega) hn (fun q => by have := hlen q; omega) (m := k + 5) (by omega)
  have hlen' : ∀ q, (S q).length ≤ 1000 := fun q => by have := hlen q; omega
  simp [-w_exs1, d_law_due, start, O.isD, O.flat, isInst, isTy, tyNames, tyN, tyNs, anyN, O.toD, eqOk, D.plain, D.depth, D.eqv, D.flat, E.place, E.quiet, E.quiet.go, E.quietO, stEs, stE, asgT, cxK_own, cxK_cel, cxK_call, cxK_callX, cxK_make, bindT.go, Tg.slots, Tg.slots.go, wipe, putBack, dOnly, ixN, bls_map, pures_map', pures_mapf, toDs_mapf, toDs_map', ints_map, E.keeps, isN, isL, modR, modPath, appAt]
  rw [w_exs1]
  simp [-w_exs1, start, O.isD, O.flat, isInst, isTy, tyNames, tyN, tyNs, anyN, O.toD, eqOk, D.plain, D.depth, D.eqv, D.flat, E.place, E.quiet, E.quiet.go, E.quietO, stEs, stE, asgT, cxK_own, cxK_cel, cxK_call, cxK_callX, cxK_make, bindT.go, Tg.slots, Tg.slots.go, wipe, putBack, dOnly, ixN, bls_map, pures_map', pures_mapf, toDs_mapf, toDs_map', ints_map, E.keeps, isN, isL, modR, modPath, appAt, l0, h0, t0']
  rw [w_exs1]
  simp [-w_exs1, start, O.isD, O.flat, isInst, isTy, tyNames, tyN, tyNs, anyN, O.toD, eqOk, D.plain, D.depth, D.eqv, D.flat, E.place, E.quiet, E.quiet.go, E.quietO, stEs, stE, asgT, cxK_own, cxK_cel, cxK_call, cxK_callX, cxK_make, bindT.go, Tg.slots, Tg.slots.go, wipe, putBack, dOnly, ixN, bls_map, pures_map', pures_mapf, toDs_mapf, toDs_map', ints_map, E.keeps, isN, isL, modR, modPath, appAt, e1]
  rw [w_exs1]
  refine run_whl (fun M s => DInv S n n0 M s) rfl (n := left S n (fun _ => 0)) (.mk (fun _ => 0) x none none s1 .refl e2 (Dr_mono e3 (by omega)) rfl) ?_
  rintro M s ⟨t, x, x5, x6, s2, re, rr, d2, rfl⟩
  have hll := left_le (S := S) (n := n) (τ := t) hlen
  have it : ∀ q, q < n → item (.d (.lst (trD n t))) (.int (q : Nat)) = some (.d (.int (t q : Nat))) := fun q hq => rng_item (w := false) (fun q => .int (t q : Nat)) hq
  cases rr with
  | out q h1 h2 =>
    simp [-w_exs1, start, O.isD, O.flat, isInst, isTy, tyNames, tyN, tyNs, anyN, O.toD, eqOk, D.plain, D.depth, D.eqv, D.flat, E.place, E.quiet, E.quiet.go, E.quietO, stEs, stE, asgT, cxK_own, cxK_cel, cxK_call, cxK_callX, cxK_make, bindT.go, Tg.slots, Tg.slots.go, wipe, putBack, dOnly, ixN, bls_map, pures_map', pures_mapf, toDs_mapf, toDs_map', ints_map, E.keeps, isN, isL, modR, modPath, appAt]
    rw [w_exs1]
    simp [start, O.isD, O.flat, isInst, isTy, tyNames, tyN, tyNs, anyN, O.toD, eqOk, D.plain, D.depth, D.eqv, D.flat, E.place, E.quiet, E.quiet.go, E.quietO, stEs, stE, asgT, cxK_own, cxK_cel, cxK_call, cxK_callX, cxK_make, bindT.go, Tg.slots, Tg.slots.go, wipe, putBack, dOnly, ixN, bls_map, pures_map', pures_mapf, toDs_mapf, toDs_map', ints_map, E.keeps, isN, isL, modR, modPath, appAt]
    exact ⟨.inl ⟨rfl, t, re, q, h1, h2⟩, Dr_mono d2 (by omega)⟩
  | done h1 h2 =>
    simp [-w_exs1, start, O.isD, O.flat, isInst, isTy, tyNames, tyN, tyNs, anyN, O.toD, eqOk, D.plain, D.depth, D.eqv, D.flat, E.place, E.quiet, E.quiet.go, E.quietO, stEs, stE, asgT, cxK_own, cxK_cel, cxK_call, cxK_callX, cxK_make, bindT.go, Tg.slots, Tg.slots.go, wipe, putBack, dOnly, ixN, bls_map, pures_map', pures_mapf, toDs_mapf, toDs_map', ints_map, E.keeps, isN, isL, modR, modPath, appAt]
    rw [w_exs1]
    simp [-w_exs1, start, O.isD, O.flat, isInst, isTy, tyNames, tyN, tyNs, anyN, O.toD, eqOk, D.plain, D.depth, D.eqv, D.flat, E.place, E.quiet, E.quiet.go, E.quietO, stEs, stE, asgT, cxK_own, cxK_cel, cxK_call, cxK_callX, cxK_make, bindT.go, Tg.slots, Tg.slots.go, wipe, putBack, dOnly, ixN, bls_map, pures_map', pures_mapf, toDs_mapf, toDs_map', ints_map, E.keeps, isN, isL, modR, modPath, appAt]
    refine run_map (List.range n) (fun j => .int (j : Nat)) (fun q => .int (nx S n t q : Nat)) ?_
    simp [-w_exs1, start, O.isD, O.flat, isInst, isTy, tyNames, tyN, tyNs, anyN, O.toD, eqOk, D.plain, D.depth, D.eqv, D.flat, E.place, E.quiet, E.quiet.go, E.quietO, stEs, stE, asgT, cxK_own, cxK_cel, cxK_call, cxK_callX, cxK_make, bindT.go, Tg.slots, Tg.slots.go, wipe, putBack, dOnly, ixN, bls_map, pures_map', pures_mapf, toDs_mapf, toDs_map', ints_map, E.keeps, isN, isL, modR, modPath, appAt, hr, l0]
    refine ⟨fun q hq => ?_, ?_⟩
    · have i1 := stD_item (w := false) (S := S) hq
      have i2 := st_item (w := false) (nx_at (n := n) (h2 q hq))
      simp [start, O.isD, O.flat, isInst, isTy, tyNames, tyN, tyNs, anyN, O.toD, eqOk, D.plain, D.depth, D.eqv, D.flat, E.place, E.quiet, E.quiet.go, E.quietO, stEs, stE, asgT, cxK_own, cxK_cel, cxK_call, cxK_callX, cxK_make, bindT.go, Tg.slots, Tg.slots.go, wipe, putBack, dOnly, ixN, bls_map, pures_map', pures_mapf, toDs_mapf, toDs_map', ints_map, E.keeps, isN, isL, modR, modPath, appAt, it q hq, i1, i2]
    · exact ⟨.inr ⟨t, re, h1, h2, rfl⟩, Dr_mono d2 (by omega)⟩
  | line p l h1 h2 h3 h4 =>
    obtain ⟨x, s3, f1, f2, f3⟩ := w_round (t := bump S n t p) hS hI d2 (by omega) hn hlen' (m := k + 5) (by omega)
    have hlt := left_bump h1 h3
    simp [-w_exs1, start, O.isD, O.flat, isInst, isTy, tyNames, tyN, tyNs, anyN, O.toD, eqOk, D.plain, D.depth, D.eqv, D.flat, E.place, E.quiet, E.quiet.go, E.quietO, stEs, stE, asgT, cxK_own, cxK_cel, cxK_call, cxK_callX, cxK_make, bindT.go, Tg.slots, Tg.slots.go, wipe, putBack, dOnly, ixN, bls_map, pures_map', pures_mapf, toDs_mapf, toDs_map', ints_map, E.keeps, isN, isL, modR, modPath, appAt]
    rw [w_exs1]
    simp [-w_exs1, start, O.isD, O.flat, isInst, isTy, tyNames, tyN, tyNs, anyN, O.toD, eqOk, D.plain, D.depth, D.eqv, D.flat, E.place, E.quiet, E.quiet.go, E.quietO, stEs, stE, asgT, cxK_own, cxK_cel, cxK_call, cxK_callX, cxK_make, bindT.go, Tg.slots, Tg.slots.go, wipe, putBack, dOnly, ixN, bls_map, pures_map', pures_mapf, toDs_mapf, toDs_map', ints_map, E.keeps, isN, isL, modR, modPath, appAt]
    rw [w_exs1]
    simp only [w_asg]
    refine run_map (List.range n) (fun q => .tup [.int (q : Nat), .int (t q : Nat)]) (fun q => .int (bump S n t p q : Nat)) ?_
    have ez : (trD n t).zipIdx = (List.range n).map fun q => (D.int (t q : Nat), q) := zipIdx_rng _ _
    simp [-w_exs1, start, O.isD, O.flat, isInst, isTy, tyNames, tyN, tyNs, anyN, O.toD, eqOk, D.plain, D.depth, D.eqv, D.flat, E.place, E.quiet, E.quiet.go, E.quietO, stEs, stE, asgT, cxK_own, cxK_cel, cxK_call, cxK_callX, cxK_make, bindT.go, Tg.slots, Tg.slots.go, wipe, putBack, dOnly, ixN, bls_map, pures_map', pures_mapf, toDs_mapf, toDs_map', ints_map, E.keeps, isN, isL, modR, modPath, appAt, l0, ez, Function.comp_def]
    refine ⟨fun q hq => ?_, ?_⟩
    · by_cases hm : q ∈ l
      · rw [if_pos hm, bump_in ((h2 q).mp hm)]
        push_cast
        rfl
      · rw [if_neg hm, bump_out (fun z => hm ((h2 q).mpr z))]
        omega
    · have eb : D.lst ((List.range n).map fun x => D.int (bump S n t p x : Nat)) = .lst (trD n (bump S n t p)) := rfl
      rw [eb, w_exs1]
      simp [-w_exs1, start, O.isD, O.flat, isInst, isTy, tyNames, tyN, tyNs, anyN, O.toD, eqOk, D.plain, D.depth, D.eqv, D.flat, E.place, E.quiet, E.quiet.go, E.quietO, stEs, stE, asgT, cxK_own, cxK_cel, cxK_call, cxK_callX, cxK_make, bindT.go, Tg.slots, Tg.slots.go, wipe, putBack, dOnly, ixN, bls_map, pures_map', pures_mapf, toDs_mapf, toDs_map', ints_map, E.keeps, isN, isL, modR, modPath, appAt, f1]
      refine ⟨_, hlt, .mk (bump S n t p) x _ _ s3 (.step re h1) f2 (Dr_mono f3 (by omega)) rfl⟩
end
end K34
end Py
end

section
set_option linter.all false
set_option Elab.async false
/-! PH: the law's own judges. -/
namespace Py
open Pop
mutual
def D.sz : D → Nat
  | .tup l | .lst l => D.szs l + 1
  | _ => 1
def D.szs : List D → Nat
  | [] => 0
  | x :: xs => D.sz x + D.szs xs
end
theorem szs_append : ∀ a b : List D, D.szs (a ++ b) = D.szs a + D.szs b
  | [], b => by simp [D.szs]
  | x :: a, b => by
    rw [List.cons_append, D.szs, D.szs, szs_append a b]
    omega
theorem sz_pos (x : D) : 1 ≤ x.sz := by cases x <;> simp [D.sz]
theorem szs_len : ∀ l : List D, l.length ≤ D.szs l
  | [] => by simp [D.szs]
  | x :: l => by
    have := szs_len l
    have := sz_pos x
    rw [D.szs, List.length_cons]
    omega
mutual
theorem eqv_refl : ∀ x : D, x.plain = true → D.eqv x x = true
  | .non, _ => by rw [D.eqv]
  | .bl b, _ => by rw [D.eqv]; simp
  | .int i, _ => by rw [D.eqv]; simp
  | .str s, _ => by rw [D.eqv]; simp
  | .tup l, h => by
    rw [D.eqv]
    exact eqvs_refl l (by simpa [D.plain] using h)
  | .lst l, h => by
    rw [D.eqv]
    exact eqvs_refl l (by simpa [D.plain] using h)
  | .ty _, h => by simp [D.plain] at h
  | .dic _, h => by simp [D.plain] at h
  | .ins _ _, h => by simp [D.plain] at h
  | .fn _, h => by simp [D.plain] at h
  | .cls _, h => by simp [D.plain] at h
  | .cell _, h => by simp [D.plain] at h
  | .scr _, h => by simp [D.plain] at h
  | .exn _, h => by simp [D.plain] at h
  | .tab _, h => by simp [D.plain] at h
theorem eqvs_refl : ∀ l : List D, D.plains l = true → D.eqvs l l = true
  | [], _ => by rw [D.eqvs]
  | x :: l, h => by
    rw [D.plains, Bool.and_eq_true] at h
    rw [D.eqvs, eqv_refl x h.1, eqvs_refl l h.2]
    rfl
end
theorem plains_in {l : List D} (h : D.plains l = true) : ∀ x ∈ l, x.plain = true := by
  induction l with
  | nil => intro x hx; cases hx
  | cons y l ih =>
    rw [D.plains, Bool.and_eq_true] at h
    intro x hx
    rcases List.mem_cons.mp hx with rfl | hx
    · exact h.1
    · exact ih h.2 x hx
theorem depths_in {k : Nat} {l : List D} (h : D.depths l ≤ k) : ∀ x ∈ l, x.depth ≤ k := by
  induction l with
  | nil => intro x hx; cases hx
  | cons y l ih =>
    rw [D.depths] at h
    intro x hx
    rcases List.mem_cons.mp hx with rfl | hx
    · exact Nat.le_trans (Nat.le_max_left _ _) h
    · exact ih (Nat.le_trans (Nat.le_max_right _ _) h) x hx
/-- pairs of equal things -/
def prs (xs : List D) : List D := xs.map fun x => .tup [x, x]
theorem prs_ne {xs : List D} (h : ∀ x ∈ xs, x.plain = true ∧ x.depth ≤ 30) : cop .ne (.lst (prs xs)) (.lst []) = some (!xs.isEmpty) := by
  have h1 : D.plains (prs xs) = true := K34.plains_mem fun y hy => by
    obtain ⟨x, hx, rfl⟩ := List.mem_map.mp hy
    have := (h x hx).1
    simp [D.plain, D.plains, this]
  have h2 : D.depths (prs xs) ≤ 31 := K34.depths_mem fun y hy => by
    obtain ⟨x, hx, rfl⟩ := List.mem_map.mp hy
    have := (h x hx).2
    simp only [D.depth, D.depths]
    omega
  have e : eqOk (.lst (prs xs)) (.lst []) = true := by
    simp [eqOk, D.plain, D.depth, h1, D.plains, D.depths]
    omega
  rw [show cop .ne (D.lst (prs xs)) (.lst []) = if eqOk (D.lst (prs xs)) (.lst []) then some (!D.eqv (D.lst (prs xs)) (.lst [])) else none from rfl, e, if_pos rfl]
  cases xs <;> simp [D.eqv, D.eqvs, prs]
theorem prs_flat (xs : List D) : O.pures ((prs xs).map .d) = some (prs xs) := pures_map' _
theorem zip_self (l : List D) : (l.zip l).map (fun p => D.tup [p.1, p.2]) = prs l := by
  induction l with
  | nil => rfl
  | cons x l ih => rw [List.zip_cons_cons, List.map_cons, ih]; rfl
theorem ne_self {x : D} (h : x.plain = true) (hd : x.depth ≤ 30) : cop .ne x x = some false := by
  have e : eqOk x x = true := by
    simp only [eqOk, h, Bool.and_eq_true, decide_eq_true_eq, Bool.true_and]
    exact ⟨by omega, by omega⟩
  rw [show cop .ne x x = if eqOk x x then some (!D.eqv x x) else none from rfl, e, if_pos rfl, eqv_refl x h]
  rfl
theorem ne_bl (b : Bool) : cop .ne (.bl b) (.bl b) = some false := ne_self rfl (Nat.zero_le _)
theorem ne_in (b : Int) : cop .ne (.int b) (.int b) = some false := ne_self rfl (Nat.zero_le _)
namespace K34
variable {sto : List O}
theorem v_law_is_number {i : Int} {m : Nat} (hm : 1 ≤ m) : callD loop prog m 16 [.int i] sto = some (.d (.bl true), sto) := by
  obtain ⟨k, rfl⟩ : ∃ k, m = k + 1 := ⟨m - 1, by omega⟩
  refine ends_eq (run_def (d := d_law_is_number) rfl rfl ?_)
  simp [d_law_is_number, start, O.isD, O.flat, isInst, isTy, tyNames, tyN, tyNs, anyN, O.toD, eqOk, D.plain, D.depth, D.eqv, D.flat, E.place, E.quiet, E.quiet.go, E.quietO, stEs, stE, asgT, cxK_own, cxK_cel, cxK_call, cxK_callX, cxK_make, bindT.go, Tg.slots, Tg.slots.go, wipe, putBack, dOnly, ixN, bls_map, pures_map', pures_mapf, toDs_mapf, toDs_map', ints_map, E.keeps, isN, isL, modR, modPath, appAt]
inductive SInv (a b : D) (sto : List O) (M : Nat) : St → Prop
  | mk (xs : List D) (x3 x4 : Option O) (e : M = D.szs xs) (hs : D.szs xs ≤ 1000) (hx : ∀ y ∈ xs, y.plain = true ∧ y.depth ≤ 30) : SInv a b sto M ⟨[some (.d a), some (.d b), some (.lst ((prs xs).map .d)), x3, x4], sto⟩
theorem v_same {x : D} (h : x.plain = true) (hd : x.depth ≤ 30) (hz : x.sz ≤ 1000) {m : Nat} (hm : 3 ≤ m) : callD loop prog m 17 [x, x] sto = some (.d (.bl true), sto) := by
  obtain ⟨k, rfl⟩ : ∃ k, m = k + 3 := ⟨m - 3, by omega⟩
  refine ends_eq (run_def (d := d_law_same) rfl rfl ?_)
  have l1 : lenOk 1 = true := lenOk_of (by omega)
  have l2 : lenOk 2 = true := lenOk_of (by omega)
  simp [-w_exs1, d_law_same, start, O.isD, O.flat, isInst, isTy, tyNames, tyN, tyNs, anyN, O.toD, eqOk, D.plain, D.depth, D.eqv, D.flat, E.place, E.quiet, E.quiet.go, E.quietO, stEs, stE, asgT, cxK_own, cxK_cel, cxK_call, cxK_callX, cxK_make, bindT.go, Tg.slots, Tg.slots.go, wipe, putBack, dOnly, ixN, bls_map, pures_map', pures_mapf, toDs_mapf, toDs_map', ints_map, E.keeps, isN, isL, modR, modPath, appAt]
  rw [w_exs1]
  simp [-w_exs1, start, O.isD, O.flat, isInst, isTy, tyNames, tyN, tyNs, anyN, O.toD, eqOk, D.plain, D.depth, D.eqv, D.flat, E.place, E.quiet, E.quiet.go, E.quietO, stEs, stE, asgT, cxK_own, cxK_cel, cxK_call, cxK_callX, cxK_make, bindT.go, Tg.slots, Tg.slots.go, wipe, putBack, dOnly, ixN, bls_map, pures_map', pures_mapf, toDs_mapf, toDs_map', ints_map, E.keeps, isN, isL, modR, modPath, appAt, l1, l2, O.toDs]
  rw [w_exs1]
  refine run_whl (fun M s => SInv x x sto M s) rfl (n := x.sz) (.mk [x] none none (by simp [D.szs]) (by simpa [D.szs] using hz) (by simp [h, hd])) ?_
  rintro M s ⟨xs, x3, x4, rfl, hs, hx⟩
  have en := prs_ne hx
  rcases List.eq_nil_or_concat xs with rfl | ⟨ys, y, rfl⟩
  · simp [-w_exs1, -q_cop12, start, O.isD, O.flat, isInst, isTy, tyNames, tyN, tyNs, anyN, O.toD, eqOk, D.plain, D.depth, D.eqv, D.flat, E.place, E.quiet, E.quiet.go, E.quietO, stEs, stE, asgT, cxK_own, cxK_cel, cxK_call, cxK_callX, cxK_make, bindT.go, Tg.slots, Tg.slots.go, wipe, putBack, dOnly, ixN, bls_map, pures_map', pures_mapf, toDs_mapf, toDs_map', ints_map, E.keeps, isN, isL, modR, modPath, appAt, prs_flat, en]
    rw [w_exs1]
    simp
  · rw [List.concat_eq_append] at *
    obtain ⟨hy, hyd⟩ := hx y (by simp)
    have hys : ∀ z ∈ ys, z.plain = true ∧ z.depth ≤ 30 := fun z hz => hx z (by simp [hz])
    rw [szs_append] at hs ⊢
    have hsy : D.szs [y] = y.sz := by simp [D.szs]
    rw [hsy] at hs ⊢
    have e3 : prs (ys ++ [y]) = prs ys ++ [D.tup [y, y]] := by simp [prs]
    have pp := pop1 (l := prs ys) (x := D.tup [y, y])
    have cy : noCell (.d y) = true := by cases y <;> first | rfl | (simp [D.plain] at hy)
    have ny := ne_self hy hyd
    rw [e3] at en ⊢
    have en' : cop .ne (D.lst (prs ys ++ [D.tup [y, y]])) (.lst []) = some true := by rw [en]; simp
    have ep : O.pures ((prs ys ++ [D.tup [y, y]]).map .d) = some (prs ys ++ [D.tup [y, y]]) := pures_map' _
    simp [-w_exs1, -q_cop12, -List.map_append, start, O.isD, O.flat, isInst, isTy, tyNames, tyN, tyNs, anyN, O.toD, eqOk, D.plain, D.depth, D.eqv, D.flat, E.place, E.quiet, E.quiet.go, E.quietO, stEs, stE, asgT, cxK_own, cxK_cel, cxK_call, cxK_callX, cxK_make, bindT.go, Tg.slots, Tg.slots.go, wipe, putBack, dOnly, ixN, bls_map, pures_map', pures_mapf, toDs_mapf, toDs_map', ints_map, E.keeps, isN, isL, modR, modPath, appAt, ep, en']
    rw [w_exs1]
    simp [-w_exs1, -q_cop12, -List.map_append, start, O.isD, O.flat, isInst, isTy, tyNames, tyN, tyNs, anyN, O.toD, eqOk, D.plain, D.depth, D.eqv, D.flat, E.place, E.quiet, E.quiet.go, E.quietO, stEs, stE, asgT, cxK_own, cxK_cel, cxK_call, cxK_callX, cxK_make, bindT.go, Tg.slots, Tg.slots.go, wipe, putBack, dOnly, ixN, bls_map, pures_map', pures_mapf, toDs_mapf, toDs_map', ints_map, E.keeps, isN, isL, modR, modPath, appAt, pp]
    have sp := sz_pos y
    have lp := szs_len ys
    have fin : ∀ x3 x4 : Option O, ∃ n', n' < D.szs ys + y.sz ∧ SInv x x sto n' ⟨[some (.d x), some (.d x), some (.lst ((prs ys).map .d)), x3, x4], sto⟩ := fun x3 x4 => ⟨_, by omega, .mk ys x3 x4 rfl (by omega) hys⟩
    have seq : ∀ l : List D, y.sz = D.szs l + 1 → (∀ z ∈ l, z.plain = true ∧ z.depth ≤ 30) → ∀ x3 x4 : Option O, ∃ n', n' < D.szs ys + y.sz ∧ SInv x x sto n' ⟨[some (.d x), some (.d x), some (.lst ((prs ys ++ prs l).map .d)), x3, x4], sto⟩ := fun l hl hz x3 x4 => by
      have e4 : prs ys ++ prs l = prs (ys ++ l) := by simp [prs]
      rw [e4]
      refine ⟨D.szs (ys ++ l), by rw [szs_append]; omega, .mk (ys ++ l) x3 x4 rfl (by rw [szs_append]; omega) fun z hz' => ?_⟩
      rcases List.mem_append.mp hz' with hz' | hz'
      · exact hys z hz'
      · exact hz z hz'
    rw [w_exs1]
    cases y with
    | non => simp [-q_cop12, -List.map_append, start, O.isD, O.flat, isInst, isTy, tyNames, tyN, tyNs, anyN, O.toD, eqOk, D.plain, D.depth, D.eqv, D.flat, E.place, E.quiet, E.quiet.go, E.quietO, stEs, stE, asgT, cxK_own, cxK_cel, cxK_call, cxK_callX, cxK_make, bindT.go, Tg.slots, Tg.slots.go, wipe, putBack, dOnly, ixN, bls_map, pures_map', pures_mapf, toDs_mapf, toDs_map', ints_map, E.keeps, isN, isL, modR, modPath, appAt, ne_bl, ny, fin]
    | int i => simp [-q_cop12, -List.map_append, start, O.isD, O.flat, isInst, isTy, tyNames, tyN, tyNs, anyN, O.toD, eqOk, D.plain, D.depth, D.eqv, D.flat, E.place, E.quiet, E.quiet.go, E.quietO, stEs, stE, asgT, cxK_own, cxK_cel, cxK_call, cxK_callX, cxK_make, bindT.go, Tg.slots, Tg.slots.go, wipe, putBack, dOnly, ixN, bls_map, pures_map', pures_mapf, toDs_mapf, toDs_map', ints_map, E.keeps, isN, isL, modR, modPath, appAt, ne_bl, ny, fin, v_law_is_number]
    | bl b => simp [-q_cop12, -List.map_append, start, O.isD, O.flat, isInst, isTy, tyNames, tyN, tyNs, anyN, O.toD, eqOk, D.plain, D.depth, D.eqv, D.flat, E.place, E.quiet, E.quiet.go, E.quietO, stEs, stE, asgT, cxK_own, cxK_cel, cxK_call, cxK_callX, cxK_make, bindT.go, Tg.slots, Tg.slots.go, wipe, putBack, dOnly, ixN, bls_map, pures_map', pures_mapf, toDs_mapf, toDs_map', ints_map, E.keeps, isN, isL, modR, modPath, appAt, ne_bl, ny, fin]
    | str l => simp [-q_cop12, -List.map_append, start, O.isD, O.flat, isInst, isTy, tyNames, tyN, tyNs, anyN, O.toD, eqOk, D.plain, D.depth, D.eqv, D.flat, E.place, E.quiet, E.quiet.go, E.quietO, stEs, stE, asgT, cxK_own, cxK_cel, cxK_call, cxK_callX, cxK_make, bindT.go, Tg.slots, Tg.slots.go, wipe, putBack, dOnly, ixN, bls_map, pures_map', pures_mapf, toDs_mapf, toDs_map', ints_map, E.keeps, isN, isL, modR, modPath, appAt, ne_bl, ny, fin]
    | tup l =>
      have hz2 : (D.tup l).sz = D.szs l + 1 := by rw [D.sz]
      have hll := szs_len l
      have l3 : lenOk l.length = true := lenOk_of (by omega)
      have l4 : lenOk ((prs ys).length + (prs l).length) = true := lenOk_of (by simp [prs]; omega)
      have hp : D.plains l = true := by simpa [D.plain] using hy
      have hd' : D.depths l ≤ 30 := by
        simp only [D.depth] at hyd
        omega
      have hb : bit .list ((l.zip l).map fun p => D.tup [p.1, p.2]) = some (.lst ((prs l).map .d)) := by
        rw [zip_self]
        simp only [bit, prs, List.length_map, l3, if_true]
      have hbo : bop .add (.lst (prs ys)) (.lst (prs l)) = some (.lst ((prs ys ++ prs l).map .d)) := by rw [q_bop7, if_pos l4]
      have := seq l hz2 (fun z hz => ⟨plains_in hp z hz, depths_in hd' z hz⟩)
      simp [-w_exs1, -q_cop12, -List.map_append, start, O.isD, O.flat, isInst, isTy, tyNames, tyN, tyNs, anyN, O.toD, eqOk, D.plain, D.depth, D.eqv, D.flat, E.place, E.quiet, E.quiet.go, E.quietO, stEs, stE, asgT, cxK_own, cxK_cel, cxK_call, cxK_callX, cxK_make, bindT.go, Tg.slots, Tg.slots.go, wipe, putBack, dOnly, ixN, bls_map, pures_map', pures_mapf, toDs_mapf, toDs_map', ints_map, E.keeps, isN, isL, modR, modPath, appAt, ne_bl, ne_in, ny]
      rw [w_exs1]
      simp [-w_exs1, -q_cop12, -List.map_append, start, O.isD, O.flat, isInst, isTy, tyNames, tyN, tyNs, anyN, O.toD, eqOk, D.plain, D.depth, D.eqv, D.flat, E.place, E.quiet, E.quiet.go, E.quietO, stEs, stE, asgT, cxK_own, cxK_cel, cxK_call, cxK_callX, cxK_make, bindT.go, Tg.slots, Tg.slots.go, wipe, putBack, dOnly, ixN, bls_map, pures_map', pures_mapf, toDs_mapf, toDs_map', ints_map, E.keeps, isN, isL, modR, modPath, appAt, ne_bl, ne_in, ny]
      rw [w_exs1]
      simp only [w_asg]
      simp [-w_exs1, -q_cop12, -List.map_append, -q_bop7, start, O.isD, O.flat, isInst, isTy, tyNames, tyN, tyNs, anyN, O.toD, eqOk, D.plain, D.depth, D.eqv, D.flat, E.place, E.quiet, E.quiet.go, E.quietO, stEs, stE, asgT, cxK_own, cxK_cel, cxK_call, cxK_callX, cxK_make, bindT.go, Tg.slots, Tg.slots.go, wipe, putBack, dOnly, ixN, bls_map, pures_map', pures_mapf, toDs_mapf, toDs_map', ints_map, E.keeps, isN, isL, modR, modPath, appAt, ne_bl, ne_in, ny, hb, prs_flat, hbo]
      exact this _ _
    | lst l =>
      have hz2 : (D.lst l).sz = D.szs l + 1 := by rw [D.sz]
      have hll := szs_len l
      have l3 : lenOk l.length = true := lenOk_of (by omega)
      have l4 : lenOk ((prs ys).length + (prs l).length) = true := lenOk_of (by simp [prs]; omega)
      have hp : D.plains l = true := by simpa [D.plain] using hy
      have hd' : D.depths l ≤ 30 := by
        simp only [D.depth] at hyd
        omega
      have hb : bit .list ((l.zip l).map fun p => D.tup [p.1, p.2]) = some (.lst ((prs l).map .d)) := by
        rw [zip_self]
        simp only [bit, prs, List.length_map, l3, if_true]
      have hbo : bop .add (.lst (prs ys)) (.lst (prs l)) = some (.lst ((prs ys ++ prs l).map .d)) := by rw [q_bop7, if_pos l4]
      have := seq l hz2 (fun z hz => ⟨plains_in hp z hz, depths_in hd' z hz⟩)
      simp [-w_exs1, -q_cop12, -List.map_append, start, O.isD, O.flat, isInst, isTy, tyNames, tyN, tyNs, anyN, O.toD, eqOk, D.plain, D.depth, D.eqv, D.flat, E.place, E.quiet, E.quiet.go, E.quietO, stEs, stE, asgT, cxK_own, cxK_cel, cxK_call, cxK_callX, cxK_make, bindT.go, Tg.slots, Tg.slots.go, wipe, putBack, dOnly, ixN, bls_map, pures_map', pures_mapf, toDs_mapf, toDs_map', ints_map, E.keeps, isN, isL, modR, modPath, appAt, ne_bl, ne_in, ny]
      rw [w_exs1]
      simp [-w_exs1, -q_cop12, -List.map_append, start, O.isD, O.flat, isInst, isTy, tyNames, tyN, tyNs, anyN, O.toD, eqOk, D.plain, D.depth, D.eqv, D.flat, E.place, E.quiet, E.quiet.go, E.quietO, stEs, stE, asgT, cxK_own, cxK_cel, cxK_call, cxK_callX, cxK_make, bindT.go, Tg.slots, Tg.slots.go, wipe, putBack, dOnly, ixN, bls_map, pures_map', pures_mapf, toDs_mapf, toDs_map', ints_map, E.keeps, isN, isL, modR, modPath, appAt, ne_bl, ne_in, ny]
      rw [w_exs1]
      simp only [w_asg]
      simp [-w_exs1, -q_cop12, -List.map_append, -q_bop7, start, O.isD, O.flat, isInst, isTy, tyNames, tyN, tyNs, anyN, O.toD, eqOk, D.plain, D.depth, D.eqv, D.flat, E.place, E.quiet, E.quiet.go, E.quietO, stEs, stE, asgT, cxK_own, cxK_cel, cxK_call, cxK_callX, cxK_make, bindT.go, Tg.slots, Tg.slots.go, wipe, putBack, dOnly, ixN, bls_map, pures_map', pures_mapf, toDs_mapf, toDs_map', ints_map, E.keeps, isN, isL, modR, modPath, appAt, ne_bl, ne_in, ny, hb, prs_flat, hbo]
      exact this _ _
    | _ => simp [D.plain] at hy
end K34
end Py
end

section
set_option linter.all false
set_option Elab.async false
/-! PI: trees judged, words for errors. -/
namespace Py
open Pop
def topT (S : Nat → List Nat) (n : Nat) (t : Nat → Nat) : List D := (List.range n).map fun q => .int (nx S n t q : Nat)
theorem topT_item {S : Nat → List Nat} {n : Nat} {t : Nat → Nat} {i : Nat} (h : i < n) : item (.d (.tup (topT S n t))) (.int (i : Nat)) = some (.d (.int (nx S n t i : Nat))) := rng_item (w := true) (fun q => .int (nx S n t q : Nat)) h
namespace K34
variable {sto : List O}
theorem v_kind {q : Nat} (h : q = 1 ∨ q = 3 ∨ q = 2) {m : Nat} (hm : 1 ≤ m) : callD loop prog m 19 [.exn q] sto = some (.d (.str (if q = 1 then [99, 111, 117, 110, 116] else if q = 3 then [115, 116, 97, 99, 107, 115] else [111, 114, 100, 101, 114])), sto) := by
  obtain ⟨k, rfl⟩ : ∃ k, m = k + 1 := ⟨m - 1, by omega⟩
  refine ends_eq (run_def (d := d_law_kind) rfl rfl ?_)
  rcases h with rfl | rfl | rfl <;> simp [d_law_kind, start, O.isD, O.flat, isInst, isTy, tyNames, tyN, tyNs, anyN, O.toD, eqOk, D.plain, D.depth, D.eqv, D.flat, E.place, E.quiet, E.quiet.go, E.quietO, stEs, stE, asgT, cxK_own, cxK_cel, cxK_call, cxK_callX, cxK_make, bindT.go, Tg.slots, Tg.slots.go, wipe, putBack, dOnly, ixN, bls_map, pures_map', pures_mapf, toDs_mapf, toDs_map', ints_map, E.keeps, isN, isL, modR, modPath, appAt]
section
variable {S : Nat → List Nat} {n : Nat} (hS : ∀ q, n ≤ q → S q = []) (hI : ∀ q x, x ∈ S q → x ≤ n) {t : Nat → Nat}
include hI in
theorem run_lineT {c : Cx} (hl : c.lp = loop) (ho : c.own = [5]) (hc : c.cel = []) (hn : n ≤ 900) {x2 x3 : Option O} {p : Nat} (hp : p ≤ n) {K : Out × St → Prop}
    (hK : ∀ j, Line S n t p j → (itr (nx S n t) j p = n ∨ itr (nx S n t) j p ∈ lineL S n t p j) → K (.nx, ⟨[some (.d (.int (n : Nat))), some (.d (.tup (topT S n t))), x2, x3, some (.d (.int (itr (nx S n t) j p : Nat))), some (.lst ((lineL S n t p j).map fun i => .d (.int (i : Nat))))], sto⟩)) :
    Ends (ex c (.whl (.and (.cmp .ne (.var 4) (.var 0)) (.cmp .notin (.var 4) (.var 5))) [.app (.var 5) (.var 4), .asg (.nm 4) (.idx (.var 1) (.var 4))]) ⟨[some (.d (.int (n : Nat))), some (.d (.tup (topT S n t))), x2, x3, some (.d (.int (p : Nat))), some (.lst [])], sto⟩) K := by
  refine run_whl (fun M s => ∃ j, Line S n t p j ∧ M = n - j ∧ s = ⟨[some (.d (.int (n : Nat))), some (.d (.tup (topT S n t))), x2, x3, some (.d (.int (itr (nx S n t) j p : Nat))), some (.lst ((lineL S n t p j).map fun i => .d (.int (i : Nat))))], sto⟩) hl (n := n) ⟨0, .nil hp, rfl, rfl⟩ ?_
  rintro M s ⟨j, ln, rfl, rfl⟩
  by_cases h1 : itr (nx S n t) j p = n
  · simp [-w_exs1, start, O.isD, O.flat, isInst, isTy, tyNames, tyN, tyNs, anyN, O.toD, eqOk, D.plain, D.depth, D.eqv, D.flat, E.place, E.quiet, E.quiet.go, E.quietO, stEs, stE, asgT, cxK_own, cxK_cel, cxK_call, cxK_callX, cxK_make, bindT.go, Tg.slots, Tg.slots.go, wipe, putBack, dOnly, ixN, bls_map, pures_map', pures_mapf, toDs_mapf, toDs_map', ints_map, E.keeps, isN, isL, modR, modPath, appAt, h1]
    have := hK j ln (.inl h1)
    rw [h1] at this
    exact this
  · have h1' : ¬ ((itr (nx S n t) j p : Nat) : Int) = (n : Int) := by omega
    by_cases h2 : itr (nx S n t) j p ∈ lineL S n t p j
    · simp [-w_exs1, start, O.isD, O.flat, isInst, isTy, tyNames, tyN, tyNs, anyN, O.toD, eqOk, D.plain, D.depth, D.eqv, D.flat, E.place, E.quiet, E.quiet.go, E.quietO, stEs, stE, asgT, cxK_own, cxK_cel, cxK_call, cxK_callX, cxK_make, bindT.go, Tg.slots, Tg.slots.go, wipe, putBack, dOnly, ixN, bls_map, pures_map', pures_mapf, toDs_mapf, toDs_map', ints_map, E.keeps, isN, isL, modR, modPath, appAt, h1', h2]
      exact hK j ln (.inr h2)
    · obtain ⟨h3, h4, h5⟩ := ln.step hI h1 h2
      have hle := h4.le
      have q1 : lenOk ((lineL S n t p j).length + 1) = true := lenOk_of (by simp [lineL]; omega)
      have i1 := topT_item (S := S) (t := t) h3
      have e1 : (lineL S n t p j).map (fun i => O.d (.int (i : Nat))) ++ [.d (.int (itr (nx S n t) j p : Nat))] = (lineL S n t p (j + 1)).map fun i => .d (.int (i : Nat)) := by
        unfold lineL
        rw [List.range_succ, List.map_append, List.map_append]
        rfl
      simp [-w_exs1, start, O.isD, O.flat, isInst, isTy, tyNames, tyN, tyNs, anyN, O.toD, eqOk, D.plain, D.depth, D.eqv, D.flat, E.place, E.quiet, E.quiet.go, E.quietO, stEs, stE, asgT, cxK_own, cxK_cel, cxK_call, cxK_callX, cxK_make, bindT.go, Tg.slots, Tg.slots.go, wipe, putBack, dOnly, ixN, bls_map, pures_map', pures_mapf, toDs_mapf, toDs_map', ints_map, E.keeps, isN, isL, modR, modPath, appAt, h1', h2]
      rw [w_exs1]
      simp [-w_exs1, start, O.isD, O.flat, isInst, isTy, tyNames, tyN, tyNs, anyN, O.toD, eqOk, D.plain, D.depth, D.eqv, D.flat, E.place, E.quiet, E.quiet.go, E.quietO, stEs, stE, asgT, cxK_own, cxK_cel, cxK_call, cxK_callX, cxK_make, bindT.go, Tg.slots, Tg.slots.go, wipe, putBack, dOnly, ixN, bls_map, pures_map', pures_mapf, toDs_mapf, toDs_map', ints_map, E.keeps, isN, isL, modR, modPath, appAt, q1]
      rw [w_exs1]
      simp [-w_exs1, start, O.isD, O.flat, isInst, isTy, tyNames, tyN, tyNs, anyN, O.toD, eqOk, D.plain, D.depth, D.eqv, D.flat, E.place, E.quiet, E.quiet.go, E.quietO, stEs, stE, asgT, cxK_own, cxK_cel, cxK_call, cxK_callX, cxK_make, bindT.go, Tg.slots, Tg.slots.go, wipe, putBack, dOnly, ixN, bls_map, pures_map', pures_mapf, toDs_mapf, toDs_map', ints_map, E.keeps, isN, isL, modR, modPath, appAt, ho, hc, i1]
      refine ⟨n - (j + 1), by omega, j + 1, h4, rfl, ?_, ?_⟩
      · rw [h5]
      · exact e1
include hI in
theorem v_is_tree (ht : Term S n t) (hn : n ≤ 900) {m : Nat} (hm : 3 ≤ m) : callD loop prog m 18 [.int (n : Nat), .tup (topT S n t)] sto = some (.d (.bl true), sto) := by
  obtain ⟨k, rfl⟩ : ∃ k, m = k + 3 := ⟨m - 3, by omega⟩
  refine ends_eq (run_def (d := d_law_is_tree) rfl rfl ?_)
  have hr := q_range (n := n) (by omega)
  have l0 : lenOk n = true := lenOk_of (by omega)
  have hlen : (topT S n t).length = n := by simp [topT]
  simp [-w_exs1, d_law_is_tree, start, O.isD, O.flat, isInst, isTy, tyNames, tyN, tyNs, anyN, O.toD, eqOk, D.plain, D.depth, D.eqv, D.flat, E.place, E.quiet, E.quiet.go, E.quietO, stEs, stE, asgT, cxK_own, cxK_cel, cxK_call, cxK_callX, cxK_make, bindT.go, Tg.slots, Tg.slots.go, wipe, putBack, dOnly, ixN, bls_map, pures_map', pures_mapf, toDs_mapf, toDs_map', ints_map, E.keeps, isN, isL, modR, modPath, appAt]
  rw [w_exs1, w_if]
  simp [-w_exs1, start, O.isD, O.flat, isInst, isTy, tyNames, tyN, tyNs, anyN, O.toD, eqOk, D.plain, D.depth, D.eqv, D.flat, E.place, E.quiet, E.quiet.go, E.quietO, stEs, stE, asgT, cxK_own, cxK_cel, cxK_call, cxK_callX, cxK_make, bindT.go, Tg.slots, Tg.slots.go, wipe, putBack, dOnly, ixN, bls_map, pures_map', pures_mapf, toDs_mapf, toDs_map', ints_map, E.keeps, isN, isL, modR, modPath, appAt, hlen]
  refine run_filt (List.range n) (fun q => .int (nx S n t q : Nat)) (fun _ => .int 1) (fun _ => false) ?_
  have et : topT S n t = (List.range n).map fun q => D.int (nx S n t q : Nat) := rfl
  simp [-w_exs1, start, O.isD, O.flat, isInst, isTy, tyNames, tyN, tyNs, anyN, O.toD, eqOk, D.plain, D.depth, D.eqv, D.flat, E.place, E.quiet, E.quiet.go, E.quietO, stEs, stE, asgT, cxK_own, cxK_cel, cxK_call, cxK_callX, cxK_make, bindT.go, Tg.slots, Tg.slots.go, wipe, putBack, dOnly, ixN, bls_map, pures_map', pures_mapf, toDs_mapf, toDs_map', ints_map, E.keeps, isN, isL, modR, modPath, appAt, l0, ← et]
  refine ⟨fun q hq => ?_, ?_⟩
  · have h1 := nx_le hI t q
    simp [start, O.isD, O.flat, isInst, isTy, tyNames, tyN, tyNs, anyN, O.toD, eqOk, D.plain, D.depth, D.eqv, D.flat, E.place, E.quiet, E.quiet.go, E.quietO, stEs, stE, asgT, cxK_own, cxK_cel, cxK_call, cxK_callX, cxK_make, bindT.go, Tg.slots, Tg.slots.go, wipe, putBack, dOnly, ixN, bls_map, pures_map', pures_mapf, toDs_mapf, toDs_map', ints_map, E.keeps, isN, isL, modR, modPath, appAt, v_law_is_number, h1]
  · rw [w_exs1]
    refine run_for (List.range n) (fun j => .int (j : Nat)) (fun done s => ∃ x3 x4 x5, s = ⟨[some (.d (.int (n : Nat))), some (.d (.tup (topT S n t))), none, x3, x4, x5], sto⟩) ?_ ?_ ?_
    · simp [start, O.isD, O.flat, isInst, isTy, tyNames, tyN, tyNs, anyN, O.toD, eqOk, D.plain, D.depth, D.eqv, D.flat, E.place, E.quiet, E.quiet.go, E.quietO, stEs, stE, asgT, cxK_own, cxK_cel, cxK_call, cxK_callX, cxK_make, bindT.go, Tg.slots, Tg.slots.go, wipe, putBack, dOnly, ixN, bls_map, pures_map', pures_mapf, toDs_mapf, toDs_map', ints_map, E.keeps, isN, isL, modR, modPath, appAt, hr]
    · rintro done q rest e s ⟨x3, x4, x5, rfl⟩
      have hq : q < n := List.mem_range.mp (by rw [e]; simp)
      simp [-w_exs1, start, O.isD, O.flat, isInst, isTy, tyNames, tyN, tyNs, anyN, O.toD, eqOk, D.plain, D.depth, D.eqv, D.flat, E.place, E.quiet, E.quiet.go, E.quietO, stEs, stE, asgT, cxK_own, cxK_cel, cxK_call, cxK_callX, cxK_make, bindT.go, Tg.slots, Tg.slots.go, wipe, putBack, dOnly, ixN, bls_map, pures_map', pures_mapf, toDs_mapf, toDs_map', ints_map, E.keeps, isN, isL, modR, modPath, appAt]
      rw [w_exs1]
      simp [-w_exs1, start, O.isD, O.flat, isInst, isTy, tyNames, tyN, tyNs, anyN, O.toD, eqOk, D.plain, D.depth, D.eqv, D.flat, E.place, E.quiet, E.quiet.go, E.quietO, stEs, stE, asgT, cxK_own, cxK_cel, cxK_call, cxK_callX, cxK_make, bindT.go, Tg.slots, Tg.slots.go, wipe, putBack, dOnly, ixN, bls_map, pures_map', pures_mapf, toDs_mapf, toDs_map', ints_map, E.keeps, isN, isL, modR, modPath, appAt]
      rw [w_exs1]
      refine run_lineT hI rfl rfl rfl hn (Nat.le_of_lt hq) fun j ln ho => ?_
      rcases ho with ho | ho
      · simp only
        rw [w_exs1]
        simp [start, O.isD, O.flat, isInst, isTy, tyNames, tyN, tyNs, anyN, O.toD, eqOk, D.plain, D.depth, D.eqv, D.flat, E.place, E.quiet, E.quiet.go, E.quietO, stEs, stE, asgT, cxK_own, cxK_cel, cxK_call, cxK_callX, cxK_make, bindT.go, Tg.slots, Tg.slots.go, wipe, putBack, dOnly, ixN, bls_map, pures_map', pures_mapf, toDs_mapf, toDs_map', ints_map, E.keeps, isN, isL, modR, modPath, appAt, ho]
      · exact (ln.tree ht ho).elim
    · rintro s ⟨x3, x4, x5, rfl⟩
      simp only
      rw [w_exs1]
      simp [start, O.isD, O.flat, isInst, isTy, tyNames, tyN, tyNs, anyN, O.toD, eqOk, D.plain, D.depth, D.eqv, D.flat, E.place, E.quiet, E.quiet.go, E.quietO, stEs, stE, asgT, cxK_own, cxK_cel, cxK_call, cxK_callX, cxK_make, bindT.go, Tg.slots, Tg.slots.go, wipe, putBack, dOnly, ixN, bls_map, pures_map', pures_mapf, toDs_mapf, toDs_map', ints_map, E.keeps, isN, isL, modR, modPath, appAt]
end
end K34
end Py
end

section
set_option linter.all false
set_option Elab.async false
/-! PJ: what is wrong is told so. -/
namespace Py
open Pop
theorem stacksB_len {n : Nat} {l : List D} (h : l.length ≠ n) : stacksB n (.lst l) = false := by
  simp only [stacksB, Bool.and_eq_false_iff]
  exact .inl (decide_eq_false h)
theorem stacksB_mem {n : Nat} {l : List D} {x : D} (hx : x ∈ l) (h : stackB n x = false) : stacksB n (.lst l) = false := by
  simp only [stacksB, Bool.and_eq_false_iff]
  exact .inr (List.all_eq_false.mpr ⟨x, hx, by simp [h]⟩)
theorem allB_len {n : Nat} {l : List D} (h : l.length ≠ n) : allB n (.tup l) = false := by
  simp only [allB, Bool.and_eq_false_iff]
  refine .inr (decide_eq_false fun e => h ?_)
  have := congrArg List.length e
  rw [(isort_perm' _).length_eq, List.length_map, rngI_len] at this
  exact this
theorem allB_mem {n : Nat} {l : List D} {x : D} (hx : x ∈ l) (h : betB 0 ((n : Int) - 1) x = false) : allB n (.tup l) = false := by
  simp only [allB, Bool.and_eq_false_iff]
  exact .inl (List.all_eq_false.mpr ⟨x, hx, by simp [h]⟩)
theorem okD_nats (l : List Nat) (h : l.length ≤ 1000) : okD (natsD l) = true := okD_sq (w := false) (by simp; omega) (okD_ints l)
/-- what is no sequence -/
def badO (n : Nat) : List D := [.non, .tup [], natsD (List.range n), .tup (List.replicate (n + 1) (.int 0)), .tup (List.replicate n (.bl true)), .int 5]
theorem badO_ok {n : Nat} (hn : n ≤ 8) (hn1 : 1 ≤ n) {x : D} (hx : x ∈ badO n) : okD x = true ∧ (∀ xs, x = .tup xs → xs.length < 64) ∧ allB n x = false := by
  simp [badO] at hx
  rcases hx with rfl | rfl | rfl | rfl | rfl | rfl
  · exact ⟨rfl, fun xs e => (by cases e), rfl⟩
  · exact ⟨by simp [okD, okDs], fun xs e => (by cases e; simp), allB_len (by simp; omega)⟩
  · exact ⟨okD_nats _ (by simp; omega), fun xs e => (by cases e), rfl⟩
  · refine ⟨?_, fun xs e => (by cases e; simp; omega), allB_len (by simp)⟩
    exact okD_sq (w := true) (by simp; omega) fun x hx => by
      rw [(List.mem_replicate.mp hx).2]
      rfl
  · refine ⟨?_, fun xs e => (by cases e; simp; omega), allB_mem (x := .bl true) (by simp; omega) rfl⟩
    exact okD_sq (w := true) (by simp; omega) fun x hx => by
      rw [(List.mem_replicate.mp hx).2]
      rfl
  · exact ⟨rfl, fun xs e => (by cases e), rfl⟩
def badX : List D := [.non, .int 0, .int 9, .bl true, .str [50], .int (-1), .lst [.int 2]]
theorem badX_ok {x : D} (hx : x ∈ badX) : okD x = true ∧ betB 1 8 x = false := by
  simp [badX] at hx
  rcases hx with rfl | rfl | rfl | rfl | rfl | rfl | rfl
  · exact ⟨rfl, rfl⟩
  · exact ⟨rfl, by decide⟩
  · exact ⟨rfl, by decide⟩
  · exact ⟨rfl, rfl⟩
  · exact ⟨rfl, rfl⟩
  · exact ⟨rfl, by decide⟩
  · exact ⟨by simp [okD, okDs], rfl⟩
/-- what is no stacks -/
def badS (n : Nat) (rows : List (List Nat)) (i : Nat) : List D :=
  [.non, .int 5, .lst (rows.map natsD ++ [natsD [n]]), .lst ((rows.map natsD).drop 1), .str [115, 116, 97, 99, 107, 115],
    .lst ((rows.map natsD).take i ++ [.non] ++ (rows.map natsD).drop (i + 1)), .lst ((rows.map natsD).take i ++ [.lst [.int ((n : Int) + 1)]] ++ (rows.map natsD).drop (i + 1)),
    .lst ((rows.map natsD).take i ++ [.lst [.bl true]] ++ (rows.map natsD).drop (i + 1)), .lst ((rows.map natsD).take i ++ [.lst [.int (-1), .int 0]] ++ (rows.map natsD).drop (i + 1))]
theorem badS_ok {n : Nat} {rows : List (List Nat)} {i : Nat} (hn : n ≤ 8) (hn1 : 1 ≤ n) (hl : rows.length = n) (hr : ∀ r ∈ rows, r.length ≤ 40) {x : D} (hx : x ∈ badS n rows i) : okD x = true ∧ stacksB n x = false := by
  have okR : ∀ y ∈ rows.map natsD, okD y = true := fun y hy => by
    obtain ⟨r, h, rfl⟩ := List.mem_map.mp hy
    exact okD_nats r (by have := hr r h; omega)
  have ok3 : ∀ z : D, okD z = true → okD (.lst ((rows.map natsD).take i ++ [z] ++ (rows.map natsD).drop (i + 1))) = true := fun z hz =>
    okD_sq (w := false) (by simp; omega) fun y hy => by
      simp only [List.mem_append, List.mem_singleton] at hy
      rcases hy with (h | rfl) | h
      · exact okR y (List.mem_of_mem_take h)
      · exact hz
      · exact okR y (List.mem_of_mem_drop h)
  simp only [badS, List.mem_cons, List.not_mem_nil, or_false] at hx
  rcases hx with rfl | rfl | rfl | rfl | rfl | rfl | rfl | rfl | rfl
  · exact ⟨rfl, rfl⟩
  · exact ⟨rfl, rfl⟩
  · refine ⟨okD_sq (w := false) (by simp; omega) fun y hy => ?_, stacksB_len (by simp; omega)⟩
    rcases List.mem_append.mp hy with h | h
    · exact okR y h
    · rw [List.mem_singleton.mp h]
      exact okD_nats _ (by simp)
  · exact ⟨okD_sq (w := false) (by simp; omega) fun y hy => okR y (List.mem_of_mem_drop hy), stacksB_len (by simp; omega)⟩
  · exact ⟨rfl, rfl⟩
  · exact ⟨ok3 _ rfl, stacksB_mem (x := .non) (by simp) rfl⟩
  · refine ⟨ok3 _ (by simp [okD, okDs]), stacksB_mem (x := .lst [.int ((n : Int) + 1)]) (by simp) ?_⟩
    simp [stackB, betB]
    omega
  · exact ⟨ok3 _ (by simp [okD, okDs]), stacksB_mem (x := .lst [.bl true]) (by simp) (by simp [stackB, betB])⟩
  · exact ⟨ok3 _ (by simp [okD, okDs]), stacksB_mem (x := .lst [.int (-1), .int 0]) (by simp) (by simp [stackB, betB])⟩
/-- what is left of stacks is plain -/
theorem popSpec_plain {S : Nat → List Nat} {n : Nat} {r : D} (h : PopSpec S n r) (hn : n ≤ 8) : r.plain = true ∧ r.depth ≤ 2 ∧ r.sz ≤ 30 := by
  rcases h with ⟨rfl, _⟩ | ⟨t, _, _, _, rfl⟩
  · exact ⟨rfl, Nat.zero_le _, by simp [D.sz]⟩
  · have p1 : ∀ f : Nat → Int, D.plains ((List.range n).map fun q => .int (f q)) = true := fun f => K34.plains_mem fun x hx => by
      obtain ⟨q, _, rfl⟩ := List.mem_map.mp hx
      rfl
    have d1 : ∀ f : Nat → Int, D.depths ((List.range n).map fun q => .int (f q)) ≤ 0 := fun f => K34.depths_mem fun x hx => by
      obtain ⟨q, _, rfl⟩ := List.mem_map.mp hx
      exact Nat.le_refl _
    have s1 : ∀ (f : Nat → Int) (l : List Nat), D.szs (l.map fun q => .int (f q)) = l.length := by
      intro f l
      induction l with
      | nil => simp [D.szs]
      | cons x l ih =>
        have e1 : (D.int (f x)).sz = 1 := by simp [D.sz]
        rw [List.map_cons, D.szs, ih, List.length_cons, e1]
        omega
    have a1 := p1 fun q => (nx S n t q : Nat)
    have a2 := p1 fun q => (t q : Nat)
    have b1 := d1 fun q => (nx S n t q : Nat)
    have b2 := d1 fun q => (t q : Nat)
    have c1 := s1 (fun q => (nx S n t q : Nat)) (List.range n)
    have c2 := s1 (fun q => (t q : Nat)) (List.range n)
    refine ⟨?_, ?_, ?_⟩
    · simp [D.plain, D.plains, a1, trD, a2]
    · simp only [D.depth, D.depths, trD]
      omega
    · simp only [D.sz, D.szs, trD, c1, c2, List.length_range]
      omega
end Py
end

section
set_option linter.all false
set_option Elab.async false
/-! PK: one lap of the law. -/
namespace Py
open Pop
namespace K34
variable {sto : List O}
theorem w_drawn (n : Nat) {rows : List (List Nat)} (hl : rows.length = n) : D.lst (rows.map natsD) = stD false n (stF rows) := by rw [stF_D, hl]
theorem w_drawnT (n : Nat) {rows : List (List Nat)} (hl : rows.length = n) : D.tup (rows.map fun r => .tup (r.map fun i => .int (i : Nat))) = stD true n (stF rows) := by
  subst hl
  show D.tup (rows.map fun r => .tup (r.map fun i => .int (i : Nat))) = D.tup ((List.range rows.length).map fun q => .tup ((stF rows q).map fun i => .int (i : Nat)))
  refine congrArg D.tup ?_
  apply List.ext_getElem?
  intro j
  by_cases hj : j < rows.length
  · rw [rng_get _ hj, List.getElem?_map, List.getElem?_eq_getElem hj]
    simp [stF, hj]
  · rw [List.getElem?_eq_none (by simpa using hj), List.getElem?_eq_none (by simpa using hj)]
theorem stF_out {n : Nat} {rows : List (List Nat)} (hl : rows.length = n) : ∀ q, n ≤ q → stF rows q = [] := fun q hq => by
  simp [stF, List.getD_eq_getElem?_getD, List.getElem?_eq_none (show rows.length ≤ q by omega)]
theorem stF_in {n : Nat} {rows : List (List Nat)} (h : ∀ r ∈ rows, r.length ≤ 40 ∧ ∀ x ∈ r, x ≤ n) : (∀ q x, x ∈ stF rows q → x ≤ n) ∧ ∀ q, (stF rows q).length ≤ 40 := by
  have key : ∀ q, stF rows q = [] ∨ stF rows q ∈ rows := fun q => by
    unfold stF
    rw [List.getD_eq_getElem?_getD]
    cases e : rows[q]? with
    | none => exact .inl rfl
    | some r => exact .inr (List.mem_of_getElem? e)
  refine ⟨fun q x hx => ?_, fun q => ?_⟩
  · rcases key q with e | e
    · rw [e] at hx; cases hx
    · exact (h _ e).2 x hx
  · rcases key q with e | e
    · rw [e]; exact Nat.zero_le _
    · exact (h _ e).1
def turnB : List Py.S :=
  [.asg (.nm 7) (.bi .tuple [.call 14 [.var 1, .bit .list .range [.var 3]]]),
  .asg (.nm 8) (.lst [.call 9 [.var 3, .var 4, .var 7], .calk 9 [2, 1, 0] [.var 7, .bi .tuple [.lc (.nm 9) none [.var 4] [] (.bi .tuple [.var 9])], .var 3]]),
  .ite (.or (.not (.call 17 [.var 8, .lst [.var 5, .var 5]])) (.and (.cmp .isnot (.var 5) (.con .non)) (.not (.call 18 [.var 3, .idx (.var 5) (.con (.int 0))]))))
  [.ret (.con (.bl false))]
  []]
theorem run_turn {k n0 n : Nat} (hk : 12 ≤ k) (d : Dr n0 sto) (hn0 : n0 ≤ 10 ^ 6) (hn : n ≤ 8) (hn1 : 1 ≤ n) {rows : List (List Nat)} (hl : rows.length = n) (hr : ∀ r ∈ rows, r.length ≤ 40 ∧ ∀ x ∈ r, x ≤ n) {r : D} (sp : PopSpec (stF rows) n r) {x0 x2 x6 x7 x8 x9 x10 x11 x12 x13 x14 x15 : Option O} {K : Out × St → Prop}
    (hK : ∀ (x7 x8 x9 : Option O) sto', Dr (n0 + 10) sto' → K (.nx, ⟨[x0, some (.d (.cell 1)), x2, some (.d (.int (n : Nat))), some (.d (.lst (rows.map natsD))), some (.d r), x6, x7, x8, x9, x10, x11, x12, x13, x14, x15], sto'⟩)) :
    Ends (exs (cxK loop prog k [14] [1]) turnB ⟨[x0, some (.d (.cell 1)), x2, some (.d (.int (n : Nat))), some (.d (.lst (rows.map natsD))), some (.d r), x6, x7, x8, x9, x10, x11, x12, x13, x14, x15], sto⟩) K := by
  obtain ⟨hI, hlen⟩ := stF_in hr
  have hS := stF_out hl
  have hlen' : ∀ q, (stF rows q).length ≤ 1000 := fun q => by have := hlen q; omega
  have hri := q_rangeI (n := n) (by omega)
  have li : lenOk n = true := lenOk_of (by omega)
  have l2 : lenOk 2 = true := lenOk_of (by omega)
  have hb : bit .list ((rngI n).map .int) = some (.lst (((rngI n).map .int).map .d)) := by
    simp only [bit, List.length_map, rngI_len, li, if_true]
  obtain ⟨ys, s1, e1, e2, e3⟩ := w_shuffled d (xs := rngI n) (by rw [rngI_len]; omega) (by omega) (m := k) (by omega)
  obtain ⟨r1, f1, f2⟩ := v_popped (sto := s1) hS hI (w := false) e2 hn hn1 hlen' (m := k) (by omega)
  obtain ⟨r2, g1, g2⟩ := v_popped (sto := s1) hS hI (w := true) e2 hn hn1 hlen' (m := k) (by omega)
  have er1 := popSpec_one f2 sp
  have er2 := popSpec_one g2 sp
  subst er1
  subst er2
  rw [← w_drawn n hl] at f1
  rw [← w_drawnT n hl] at g1
  obtain ⟨p1, p2, p3⟩ := popSpec_plain sp hn
  have sm := v_same (sto := s1) (x := .lst [r2, r2]) (by simp [D.plain, D.plains, p1]) (by simp only [D.depth, D.depths]; omega) (by simp only [D.sz, D.szs]; omega) (m := k) (by omega)
  have cr : noCell (.d r2) = true := by cases r2 <;> first | rfl | (simp [D.plain] at p1)
  unfold turnB
  rw [w_exs1]
  simp [-w_exs1, -List.map_map, start, O.isD, O.flat, isInst, isTy, tyNames, tyN, tyNs, anyN, O.toD, eqOk, D.plain, D.depth, D.eqv, D.flat, E.place, E.quiet, E.quiet.go, E.quietO, stEs, stE, asgT, cxK_own, cxK_cel, cxK_call, cxK_callX, cxK_make, bindT.go, Tg.slots, Tg.slots.go, wipe, putBack, dOnly, ixN, bls_map, pures_map', pures_mapf, toDs_mapf, toDs_map', ints_map, E.keeps, isN, isL, modR, modPath, appAt, hri, hb, toDs_map', pures_map', e1]
  rw [w_exs1]
  simp [-w_exs1, -List.map_map, start, O.isD, O.flat, isInst, isTy, tyNames, tyN, tyNs, anyN, O.toD, eqOk, D.plain, D.depth, D.eqv, D.flat, E.place, E.quiet, E.quiet.go, E.quietO, stEs, stE, asgT, cxK_own, cxK_cel, cxK_call, cxK_callX, cxK_make, bindT.go, Tg.slots, Tg.slots.go, wipe, putBack, dOnly, ixN, bls_map, pures_map', pures_mapf, toDs_mapf, toDs_map', ints_map, E.keeps, isN, isL, modR, modPath, appAt, hri, hb, toDs_map', pures_map', f1]
  refine run_map rows natsD (fun r => .tup (r.map fun i => .int (i : Nat))) ?_
  simp [-w_exs1, -List.map_map, start, O.isD, O.flat, isInst, isTy, tyNames, tyN, tyNs, anyN, O.toD, eqOk, D.plain, D.depth, D.eqv, D.flat, E.place, E.quiet, E.quiet.go, E.quietO, stEs, stE, asgT, cxK_own, cxK_cel, cxK_call, cxK_callX, cxK_make, bindT.go, Tg.slots, Tg.slots.go, wipe, putBack, dOnly, ixN, bls_map, pures_map', pures_mapf, toDs_mapf, toDs_map', ints_map, E.keeps, isN, isL, modR, modPath, appAt, hl, li]
  refine ⟨fun r hr => by simp [start, O.isD, O.flat, isInst, isTy, tyNames, tyN, tyNs, anyN, O.toD, eqOk, D.plain, D.depth, D.eqv, D.flat, E.place, E.quiet, E.quiet.go, E.quietO, stEs, stE, asgT, cxK_own, cxK_cel, cxK_call, cxK_callX, cxK_make, bindT.go, Tg.slots, Tg.slots.go, wipe, putBack, dOnly, ixN, bls_map, pures_map', pures_mapf, toDs_mapf, toDs_map', ints_map, E.keeps, isN, isL, modR, modPath, appAt, natsD], ?_⟩
  simp [-w_exs1, -List.map_map, start, O.isD, O.flat, isInst, isTy, tyNames, tyN, tyNs, anyN, O.toD, eqOk, D.plain, D.depth, D.eqv, D.flat, E.place, E.quiet, E.quiet.go, E.quietO, stEs, stE, asgT, cxK_own, cxK_cel, cxK_call, cxK_callX, cxK_make, bindT.go, Tg.slots, Tg.slots.go, wipe, putBack, dOnly, ixN, bls_map, pures_map', pures_mapf, toDs_mapf, toDs_map', ints_map, E.keeps, isN, isL, modR, modPath, appAt, g1, l2, O.toDs]
  have d3 : Dr (n0 + 10) s1 := Dr_mono e3 (by rw [rngI_len]; omega)
  rw [w_exs1]
  rcases sp with ⟨rfl, _⟩ | ⟨t, q1, q2, q3, rfl⟩
  · simp [-List.map_map, start, O.isD, O.flat, isInst, isTy, tyNames, tyN, tyNs, anyN, O.toD, eqOk, D.plain, D.depth, D.eqv, D.flat, E.place, E.quiet, E.quiet.go, E.quietO, stEs, stE, asgT, cxK_own, cxK_cel, cxK_call, cxK_callX, cxK_make, bindT.go, Tg.slots, Tg.slots.go, wipe, putBack, dOnly, ixN, bls_map, pures_map', pures_mapf, toDs_mapf, toDs_map', ints_map, E.keeps, isN, isL, modR, modPath, appAt, l2, O.toDs, sm]
    exact hK _ _ _ s1 d3
  · have ti : callD loop prog k 18 [.int (n : Nat), .tup ((List.range n).map fun q => .int (nx (stF rows) n t q : Nat))] s1 = some (.d (.bl true), s1) := v_is_tree (sto := s1) (t := t) hI q2 (by omega) (m := k) (by omega)
    simp [-List.map_map, start, O.isD, O.flat, isInst, isTy, tyNames, tyN, tyNs, anyN, O.toD, eqOk, D.plain, D.depth, D.eqv, D.flat, E.place, E.quiet, E.quiet.go, E.quietO, stEs, stE, asgT, cxK_own, cxK_cel, cxK_call, cxK_callX, cxK_make, bindT.go, Tg.slots, Tg.slots.go, wipe, putBack, dOnly, ixN, bls_map, pures_map', pures_mapf, toDs_mapf, toDs_map', ints_map, E.keeps, isN, isL, modR, modPath, appAt, l2, O.toDs, sm, ti]
    exact hK _ _ _ s1 d3
end K34
end Py
end

section
set_option linter.all false
set_option Elab.async false
/-! PL: the errors of a lap. -/
namespace Py
open Pop
theorem cut_to {l : List D} {i : Nat} (h : i ≤ l.length) : cut l none (some (i : Int)) = l.take i := by
  unfold cut
  have e1 : sIx l.length 0 none = 0 := rfl
  have e2 : sIx l.length l.length (some (i : Int)) = i := by
    simp only [sIx]
    rw [if_neg (by omega)]
    omega
  rw [e1, e2]; simp
theorem cut_from {l : List D} {i : Nat} (h : i ≤ l.length) : cut l (some (i : Int)) none = l.drop i := by
  unfold cut
  have e1 : sIx l.length l.length none = l.length := rfl
  have e2 : sIx l.length 0 (some (i : Int)) = i := by
    simp only [sIx]
    rw [if_neg (by omega)]
    omega
  rw [e1, e2]
  exact List.take_of_length_le (by simp)
theorem flat_rep (n : Nat) (x : D) : (List.replicate n [x]).flatten = List.replicate n x := by
  induction n with
  | zero => rfl
  | succ n ih => rw [List.replicate_succ, List.flatten_cons, ih]; rfl
namespace K34
variable {sto : List O}
def errB : List Py.S :=
  [.par [10, 11] [.call 13 [.var 1, .lst [.con .non, .con (.int 0), .con (.int 9), .con (.bl true), .con (.str [50]), .neg (.con (.int 1)), .lst [.con (.int 2)]]], .call 13 [.var 1, .lst [.con .non, .tup [], .bit .list .range [.var 3], .bin .mul (.tup [.con (.int 0)]) (.bin .add (.var 3) (.con (.int 1))), .bin .mul (.tup [.con (.bl true)]) (.var 3), .con (.int 5)]]],
  .asg (.nm 12) (.call 12 [.var 1, .var 3]),
  .asg (.nm 13) (.call 13 [.var 1, .lst [.con .non, .con (.int 5), .bin .add (.var 4) (.lst [.lst [.var 3]]), .slc (.var 4) (some (.con (.int 1))) none, .con (.str [115, 116, 97, 99, 107, 115]), .bin .add (.bin .add (.slc (.var 4) none (some (.var 12))) (.lst [.con .non])) (.slc (.var 4) (some (.bin .add (.var 12) (.con (.int 1)))) none), .bin .add (.bin .add (.slc (.var 4) none (some (.var 12))) (.lst [.lst [.bin .add (.var 3) (.con (.int 1))]])) (.slc (.var 4) (some (.bin .add (.var 12) (.con (.int 1)))) none), .bin .add (.bin .add (.slc (.var 4) none (some (.var 12))) (.lst [.lst [.con (.bl true)]])) (.slc (.var 4) (some (.bin .add (.var 12) (.con (.int 1)))) none), .bin .add (.bin .add (.slc (.var 4) none (some (.var 12))) (.lst [.lst [.neg (.con (.int 1)), .con (.int 0)]])) (.slc (.var 4) (some (.bin .add (.var 12) (.con (.int 1)))) none)]]),
  .asg (.nm 14) (.lst [.caught 0 23 (.call 9 [.var 10, .var 13, .var 11])]),
  .app (.var 14) (.caught 0 23 (.call 9 [.var 3, .var 13, .var 11])),
  .app (.var 14) (.caught 0 23 (.call 9 [.var 3, .var 4, .var 11])),
  .ite (.cmp .ne (.lc (.nm 15) none [.var 14] [] (.call 19 [.var 15])) (.lst [.con (.str [99, 111, 117, 110, 116]), .con (.str [115, 116, 97, 99, 107, 115]), .con (.str [111, 114, 100, 101, 114])]))
  [.ret (.con (.bl false))]
  []]
theorem run_errs {k n0 n : Nat} (hk : 12 ≤ k) (d : Dr n0 sto) (hn0 : n0 ≤ 10 ^ 6) (hn : n ≤ 8) (hn1 : 1 ≤ n) {rows : List (List Nat)} (hl : rows.length = n) (hr : ∀ r ∈ rows, r.length ≤ 40 ∧ ∀ x ∈ r, x ≤ n) {x0 x2 x5 x6 x7 x8 x9 x10 x11 x12 x13 x14 x15 : Option O} {K : Out × St → Prop}
    (hK : ∀ (x10 x11 x12 x13 x14 x15 : Option O) sto', Dr (n0 + 4) sto' → K (.nx, ⟨[x0, some (.d (.cell 1)), x2, some (.d (.int (n : Nat))), some (.d (.lst (rows.map natsD))), x5, x6, x7, x8, x9, x10, x11, x12, x13, x14, x15], sto'⟩)) :
    Ends (exs (cxK loop prog k [14] [1]) errB ⟨[x0, some (.d (.cell 1)), x2, some (.d (.int (n : Nat))), some (.d (.lst (rows.map natsD))), x5, x6, x7, x8, x9, x10, x11, x12, x13, x14, x15], sto⟩) K := by
  have hri := q_range (n := n) (by omega)
  have li : ∀ j, j ≤ 100 → lenOk j = true := fun j hj => lenOk_of (by omega)
  have hb : bit .list ((List.range n).map fun j => D.int (j : Nat)) = some (.lst (((List.range n).map fun j => D.int (j : Nat)).map .d)) := by
    simp only [bit, List.length_map, List.length_range, li n (by omega), if_true]
  obtain ⟨bad, s1, e1, e2, e3⟩ := w_pickL d (by omega) (xs := badX) (by simp [badX]) (by simp [badX]) (m := k) (by omega)
  obtain ⟨non, s2, f1, f2, f3⟩ := w_pickL e3 (by omega) (xs := badO n) (by simp [badO]) (by simp [badO]) (m := k) (by omega)
  obtain ⟨at_, s3, g1, g2, g3⟩ := w_take f3 (by omega) (a := n) (by omega) (by omega) (m := k) (by omega)
  obtain ⟨odd, s4, h1, h2, h3⟩ := w_pickL g3 (by omega) (xs := badS n rows at_) (by simp [badS]) (by simp [badS]) (m := k) (by omega)
  have hm1 : bop .mul (.tup [.int 0]) (.int ((n : Int) + 1)) = some (.d (.tup (List.replicate (n + 1) (.int 0)))) := by
    rw [← flat_rep]
    have h1 : decide ((1 : Int) ≤ (n : Int) + 1) = true := decide_eq_true (by omega)
    have h2 : decide ((n : Int) + 1 ≤ 1000) = true := decide_eq_true (by omega)
    have h3 : ((n : Int) + 1).toNat = n + 1 := by omega
    simp [bop, h1, h2, h3]
  have hm2 : bop .mul (.tup [.bl true]) (.int (n : Int)) = some (.d (.tup (List.replicate n (.bl true)))) := by
    rw [← flat_rep]
    simp [bop]
    omega
  obtain ⟨b1, b2⟩ := badX_ok e2
  obtain ⟨o1, o2, o3⟩ := badO_ok hn hn1 f2
  obtain ⟨t1, t2⟩ := badS_ok hn hn1 hl (fun r h => (hr r h).1) h2
  have y1 := x_count (sto := s4) (d := odd) (o := non) b1 b2 o1 (m := k) (by omega) t1
  have y2 := x_stacks (sto := s4) (o := non) hn hn1 t1 t2 (m := k) (by omega)
  have st : D.lst (rows.map natsD) = stD false n (stF rows) := w_drawn n hl
  have y3 := x_order (sto := s4) (d := .lst (rows.map natsD)) (o := non) hn hn1 (by rw [st]; exact okD_st (by omega) fun q => by have := (stF_in hr).2 q; omega) (by rw [st]; exact stacksB_st (stF_in hr).1) o1 o2 o3 (m := k) (by omega)
  have hrl : (rows.map natsD).length = n := by simp [hl]
  have c1 := cut_to (l := rows.map natsD) (i := at_) (by omega)
  have c2 : cut (rows.map natsD) (some ((at_ : Int) + 1)) none = (rows.map natsD).drop (at_ + 1) := cut_from (l := rows.map natsD) (i := at_ + 1) (by omega)
  have c3 : cut (rows.map natsD) (some 1) none = (rows.map natsD).drop 1 := cut_from (l := rows.map natsD) (i := 1) (by omega)
  have ta := Dr_tab h3
  simp [badX] at e1
  simp [badO, natsD] at f1
  unfold errB
  rw [w_exs1]
  have cb := noCell_ok b1
  have cn := noCell_ok o1
  have co := noCell_ok t1
  have h1' := h1
  simp only [badS, natsD] at h1'
  generalize rows.map natsD = R at *
  have lt : (R.take at_).length = at_ := by simp; omega
  have ld : (R.drop (at_ + 1)).length = n - (at_ + 1) := by simp; omega
  generalize R.take at_ = R1 at *
  generalize R.drop (at_ + 1) = R2 at *
  simp at h1'
  simp [-w_exs1, -List.map_map, start, O.isD, O.flat, isInst, isTy, tyNames, tyN, tyNs, anyN, O.toD, eqOk, D.plain, D.depth, D.eqv, D.flat, E.place, E.quiet, E.quiet.go, E.quietO, stEs, stE, asgT, cxK_own, cxK_cel, cxK_call, cxK_callX, cxK_make, bindT.go, Tg.slots, Tg.slots.go, wipe, putBack, dOnly, ixN, bls_map, pures_map', pures_mapf, toDs_mapf, toDs_map', ints_map, E.keeps, isN, isL, modR, modPath, appAt, hri, hb, toDs_map', pures_map', e1, li, O.toDs, hm1, hm2, f1, cb, cn]
  rw [w_exs1]
  simp [-w_exs1, start, O.isD, O.flat, isInst, isTy, tyNames, tyN, tyNs, anyN, O.toD, eqOk, D.plain, D.depth, D.eqv, D.flat, E.place, E.quiet, E.quiet.go, E.quietO, stEs, stE, asgT, cxK_own, cxK_cel, cxK_call, cxK_callX, cxK_make, bindT.go, Tg.slots, Tg.slots.go, wipe, putBack, dOnly, ixN, bls_map, pures_map', pures_mapf, toDs_mapf, toDs_map', ints_map, E.keeps, isN, isL, modR, modPath, appAt, g1]
  rw [w_exs1]
  simp [-w_exs1, -List.map_append, -List.map_map, -List.map_cons, start, O.isD, O.flat, isInst, isTy, tyNames, tyN, tyNs, anyN, O.toD, eqOk, D.plain, D.depth, D.eqv, D.flat, E.place, E.quiet, E.quiet.go, E.quietO, stEs, stE, asgT, cxK_own, cxK_cel, cxK_call, cxK_callX, cxK_make, bindT.go, Tg.slots, Tg.slots.go, wipe, putBack, dOnly, ixN, bls_map, pures_map', pures_mapf, toDs_mapf, toDs_map', ints_map, E.keeps, isN, isL, modR, modPath, appAt, c1, c2, c3, li, toDs_map', pures_map']
  have k1 := li (R.length + 1) (by omega)
  have k2 := li (R1.length + 1) (by omega)
  have k3 := li (R1.length + 1 + R2.length) (by omega)
  refine ⟨k1, k2, k3, k2, k3, k2, k3, k2, k3, ?_⟩
  simp [-w_exs1, -w_caught, start, O.isD, O.flat, isInst, isTy, tyNames, tyN, tyNs, anyN, O.toD, eqOk, D.plain, D.depth, D.eqv, D.flat, E.place, E.quiet, E.quiet.go, E.quietO, stEs, stE, asgT, cxK_own, cxK_cel, cxK_call, cxK_callX, cxK_make, bindT.go, Tg.slots, Tg.slots.go, wipe, putBack, dOnly, ixN, bls_map, pures_map', pures_mapf, toDs_mapf, toDs_map', ints_map, E.keeps, isN, isL, modR, modPath, appAt, h1']
  rw [w_exs1, w_asg, w_lst, w_evs1 rfl, w_caught ta]
  simp [-w_exs1, -w_caught, start, O.isD, O.flat, isInst, isTy, tyNames, tyN, tyNs, anyN, O.toD, eqOk, D.plain, D.depth, D.eqv, D.flat, E.place, E.quiet, E.quiet.go, E.quietO, stEs, stE, asgT, cxK_own, cxK_cel, cxK_call, cxK_callX, cxK_make, bindT.go, Tg.slots, Tg.slots.go, wipe, putBack, dOnly, ixN, bls_map, pures_map', pures_mapf, toDs_mapf, toDs_map', ints_map, E.keeps, isN, isL, modR, modPath, appAt, y1, cb, cn, co, li]
  rw [w_exs1, w_app]
  simp [-w_exs1, -w_caught, start, O.isD, O.flat, isInst, isTy, tyNames, tyN, tyNs, anyN, O.toD, eqOk, D.plain, D.depth, D.eqv, D.flat, E.place, E.quiet, E.quiet.go, E.quietO, stEs, stE, asgT, cxK_own, cxK_cel, cxK_call, cxK_callX, cxK_make, bindT.go, Tg.slots, Tg.slots.go, wipe, putBack, dOnly, ixN, bls_map, pures_map', pures_mapf, toDs_mapf, toDs_map', ints_map, E.keeps, isN, isL, modR, modPath, appAt]
  rw [w_caught ta]
  simp [-w_exs1, -w_caught, start, O.isD, O.flat, isInst, isTy, tyNames, tyN, tyNs, anyN, O.toD, eqOk, D.plain, D.depth, D.eqv, D.flat, E.place, E.quiet, E.quiet.go, E.quietO, stEs, stE, asgT, cxK_own, cxK_cel, cxK_call, cxK_callX, cxK_make, bindT.go, Tg.slots, Tg.slots.go, wipe, putBack, dOnly, ixN, bls_map, pures_map', pures_mapf, toDs_mapf, toDs_map', ints_map, E.keeps, isN, isL, modR, modPath, appAt, y2, cb, cn, co, li]
  rw [w_exs1, w_app]
  simp [-w_exs1, -w_caught, start, O.isD, O.flat, isInst, isTy, tyNames, tyN, tyNs, anyN, O.toD, eqOk, D.plain, D.depth, D.eqv, D.flat, E.place, E.quiet, E.quiet.go, E.quietO, stEs, stE, asgT, cxK_own, cxK_cel, cxK_call, cxK_callX, cxK_make, bindT.go, Tg.slots, Tg.slots.go, wipe, putBack, dOnly, ixN, bls_map, pures_map', pures_mapf, toDs_mapf, toDs_map', ints_map, E.keeps, isN, isL, modR, modPath, appAt]
  rw [w_caught ta]
  simp [-w_exs1, -w_caught, start, O.isD, O.flat, isInst, isTy, tyNames, tyN, tyNs, anyN, O.toD, eqOk, D.plain, D.depth, D.eqv, D.flat, E.place, E.quiet, E.quiet.go, E.quietO, stEs, stE, asgT, cxK_own, cxK_cel, cxK_call, cxK_callX, cxK_make, bindT.go, Tg.slots, Tg.slots.go, wipe, putBack, dOnly, ixN, bls_map, pures_map', pures_mapf, toDs_mapf, toDs_map', ints_map, E.keeps, isN, isL, modR, modPath, appAt, y3, cb, cn, co, li]
  rw [w_exs1, w_if]
  rw [w_cmp]
  refine run_map [1, 3, 2] D.exn (fun q => .str (if q = 1 then [99, 111, 117, 110, 116] else if q = 3 then [115, 116, 97, 99, 107, 115] else [111, 114, 100, 101, 114])) ?_
  simp [-w_exs1, -w_caught, start, O.isD, O.flat, isInst, isTy, tyNames, tyN, tyNs, anyN, O.toD, eqOk, D.plain, D.depth, D.eqv, D.flat, E.place, E.quiet, E.quiet.go, E.quietO, stEs, stE, asgT, cxK_own, cxK_cel, cxK_call, cxK_callX, cxK_make, bindT.go, Tg.slots, Tg.slots.go, wipe, putBack, dOnly, ixN, bls_map, pures_map', pures_mapf, toDs_mapf, toDs_map', ints_map, E.keeps, isN, isL, modR, modPath, appAt, li, O.toDs]
  refine ⟨⟨?_, ?_, ?_⟩, ?_⟩
  · simp [start, O.isD, O.flat, isInst, isTy, tyNames, tyN, tyNs, anyN, O.toD, eqOk, D.plain, D.depth, D.eqv, D.flat, E.place, E.quiet, E.quiet.go, E.quietO, stEs, stE, asgT, cxK_own, cxK_cel, cxK_call, cxK_callX, cxK_make, bindT.go, Tg.slots, Tg.slots.go, wipe, putBack, dOnly, ixN, bls_map, pures_map', pures_mapf, toDs_mapf, toDs_map', ints_map, E.keeps, isN, isL, modR, modPath, appAt, v_kind (q := 1) (m := k) (sto := s4) (by simp) (by omega)]
  · simp [start, O.isD, O.flat, isInst, isTy, tyNames, tyN, tyNs, anyN, O.toD, eqOk, D.plain, D.depth, D.eqv, D.flat, E.place, E.quiet, E.quiet.go, E.quietO, stEs, stE, asgT, cxK_own, cxK_cel, cxK_call, cxK_callX, cxK_make, bindT.go, Tg.slots, Tg.slots.go, wipe, putBack, dOnly, ixN, bls_map, pures_map', pures_mapf, toDs_mapf, toDs_map', ints_map, E.keeps, isN, isL, modR, modPath, appAt, v_kind (q := 3) (m := k) (sto := s4) (by simp) (by omega)]
  · simp [start, O.isD, O.flat, isInst, isTy, tyNames, tyN, tyNs, anyN, O.toD, eqOk, D.plain, D.depth, D.eqv, D.flat, E.place, E.quiet, E.quiet.go, E.quietO, stEs, stE, asgT, cxK_own, cxK_cel, cxK_call, cxK_callX, cxK_make, bindT.go, Tg.slots, Tg.slots.go, wipe, putBack, dOnly, ixN, bls_map, pures_map', pures_mapf, toDs_mapf, toDs_map', ints_map, E.keeps, isN, isL, modR, modPath, appAt, v_kind (q := 2) (m := k) (sto := s4) (by simp) (by omega)]
  · have q1 : D.plains [.str [99, 111, 117, 110, 116], .str [115, 116, 97, 99, 107, 115], .str [111, 114, 100, 101, 114]] = true := by simp [D.plain, D.plains]
    have q2 : D.depths [.str [99, 111, 117, 110, 116], .str [115, 116, 97, 99, 107, 115], .str [111, 114, 100, 101, 114]] ≤ 63 := by simp [D.depth, D.depths]
    have q3 : D.eqvs [.str [99, 111, 117, 110, 116], .str [115, 116, 97, 99, 107, 115], .str [111, 114, 100, 101, 114]] [.str [99, 111, 117, 110, 116], .str [115, 116, 97, 99, 107, 115], .str [111, 114, 100, 101, 114]] = true := eqvs_refl _ q1
    exact ⟨⟨q1, q2⟩, (fun e => by rw [q3] at e; cases e), fun _ => hK _ _ _ _ _ _ s4 h3⟩
end K34
end Py
end

section
set_option linter.all false
set_option Elab.async false
/-! PM: the law. -/
namespace Py
open Pop
namespace K34
variable {sto : List O}
def lapB : List Py.S :=
  [.asg (.nm 3) (.call 13 [.var 1, .lst [.con (.int 1), .con (.int 2), .con (.int 3), .con (.int 4), .con (.int 5), .con (.int 8)]]),
  .asg (.nm 4) (.call 20 [.var 1, .var 3]),
  .asg (.nm 5) (.call 22 [.var 1, .var 3, .var 4]),
  .for_ (.nm 6) (some .range) [.con (.int 3)] turnB] ++ errB
/-- between two laps -/
inductive LInv (x0 : Option O) (n : Nat) : Py.St → Prop
  | mk (x2 x3 x4 x5 x6 x7 x8 x9 x10 x11 x12 x13 x14 x15 : Option O) (sto : List O) (d : Dr n sto) : LInv x0 n ⟨[x0, some (.d (.cell 1)), x2, x3, x4, x5, x6, x7, x8, x9, x10, x11, x12, x13, x14, x15], sto⟩
theorem run_lap {k n0 : Nat} (hk : 12 ≤ k) (hn0 : n0 ≤ 10 ^ 5) {x0 : Option O} {s : Py.St} (h : LInv x0 n0 s) {K : Out × Py.St → Prop} (hK : ∀ s', LInv x0 (n0 + 2000) s' → K (.nx, s')) : Ends (exs (cxK loop prog k [14] [1]) lapB s) K := by
  obtain ⟨x2, x3, x4, x5, x6, x7, x8, x9, x10, x11, x12, x13, x14, x15, sto, d⟩ := h
  have li : ∀ j, j ≤ 100 → lenOk j = true := fun j hj => lenOk_of (by omega)
  obtain ⟨z, s1, e1, e2, e3⟩ := w_pickL d (by omega) (xs := [.int 1, .int 2, .int 3, .int 4, .int 5, .int 8]) (by simp) (by simp) (m := k) (by omega)
  obtain ⟨n, rfl, hn1, hn⟩ : ∃ n : Nat, z = .int (n : Nat) ∧ 1 ≤ n ∧ n ≤ 8 := by
    simp at e2
    rcases e2 with rfl | rfl | rfl | rfl | rfl | rfl
    · exact ⟨1, rfl, by omega, by omega⟩
    · exact ⟨2, rfl, by omega, by omega⟩
    · exact ⟨3, rfl, by omega, by omega⟩
    · exact ⟨4, rfl, by omega, by omega⟩
    · exact ⟨5, rfl, by omega, by omega⟩
    · exact ⟨8, rfl, by omega, by omega⟩
  obtain ⟨rows, s2, f1, f2, f3, f4⟩ := w_stacks e3 (by omega) hn hn1 (m := k) (by omega)
  have hst := w_drawn n f2
  obtain ⟨x, s3, g1, g2, g3⟩ := w_due (S := stF rows) (n := n) (stF_out f2) (stF_in f3).1 f4 (by omega) (by omega) (stF_in f3).2 (m := k) (by omega)
  rw [← hst] at g1
  have hx : noCell (.d x) = true := by
    rcases g2 with ⟨rfl, _⟩ | ⟨t, _, _, _, rfl⟩ <;> rfl
  unfold lapB
  rw [List.cons_append, w_exs1]
  simp [-w_exs1, -List.map_map, start, O.isD, O.flat, isInst, isTy, tyNames, tyN, tyNs, anyN, O.toD, eqOk, D.plain, D.depth, D.eqv, D.flat, E.place, E.quiet, E.quiet.go, E.quietO, stEs, stE, asgT, cxK_own, cxK_cel, cxK_call, cxK_callX, cxK_make, bindT.go, Tg.slots, Tg.slots.go, wipe, putBack, dOnly, ixN, bls_map, pures_map', pures_mapf, toDs_mapf, toDs_map', ints_map, E.keeps, isN, isL, modR, modPath, appAt, li, O.toDs, e1]
  rw [w_exs1]
  simp [-w_exs1, -List.map_map, start, O.isD, O.flat, isInst, isTy, tyNames, tyN, tyNs, anyN, O.toD, eqOk, D.plain, D.depth, D.eqv, D.flat, E.place, E.quiet, E.quiet.go, E.quietO, stEs, stE, asgT, cxK_own, cxK_cel, cxK_call, cxK_callX, cxK_make, bindT.go, Tg.slots, Tg.slots.go, wipe, putBack, dOnly, ixN, bls_map, pures_map', pures_mapf, toDs_mapf, toDs_map', ints_map, E.keeps, isN, isL, modR, modPath, appAt, f1]
  rw [w_exs1]
  simp [-w_exs1, -List.map_map, start, O.isD, O.flat, isInst, isTy, tyNames, tyN, tyNs, anyN, O.toD, eqOk, D.plain, D.depth, D.eqv, D.flat, E.place, E.quiet, E.quiet.go, E.quietO, stEs, stE, asgT, cxK_own, cxK_cel, cxK_call, cxK_callX, cxK_make, bindT.go, Tg.slots, Tg.slots.go, wipe, putBack, dOnly, ixN, bls_map, pures_map', pures_mapf, toDs_mapf, toDs_map', ints_map, E.keeps, isN, isL, modR, modPath, appAt, g1]
  have h3 : itk .range [.int 3] = some ((List.range 3).map fun (j : Nat) => .int (j : Int)) := q_range (n := 3) (by omega)
  rw [w_exs1]
  refine run_for (List.range 3) (fun j => .int (j : Nat)) (fun done s => ∃ (x6 x7 x8 x9 : Option O) (sto' : List O), Dr (n0 + 1 + 1000 + 1 + n * 40 + done.length * 10) sto' ∧ s = ⟨[x0, some (.d (.cell 1)), x2, some (.d (.int (n : Nat))), some (.d (.lst (rows.map natsD))), some (.d x), x6, x7, x8, x9, x10, x11, x12, x13, x14, x15], sto'⟩) ?_ ?_ ?_
  · simp only [w_con, ends_some, w_evs1 (e := .con (.int 3)) rfl, w_evs0]
    exact ⟨_, h3, rfl, x6, x7, x8, x9, s3, g3, rfl⟩
  · rintro done j rest e s ⟨y6, y7, y8, y9, sto', d', rfl⟩
    have hd : done.length ≤ 3 := by
      have := congrArg List.length e
      simp at this; omega
    simp only [bindT, ends_some]
    refine run_turn hk d' (by omega) hn hn1 f2 f3 g2 fun z7 z8 z9 s4 d4 => ?_
    refine ⟨_, z7, z8, z9, s4, Dr_mono d4 ?_, rfl⟩
    simp only [List.length_append, List.length_singleton]; omega
  · rintro s ⟨y6, y7, y8, y9, sto', d', rfl⟩
    simp only [List.length_range] at d'
    refine run_errs hk d' (by omega) hn hn1 f2 f3 fun z10 z11 z12 z13 z14 z15 s4 d4 => ?_
    exact hK _ (.mk _ _ _ _ _ _ _ _ _ _ _ _ _ _ s4 (Dr_mono d4 (by omega)))
def rowsZ : List (List Nat) := [[1, 2], [0, 0, 2]]
def tZ : Nat → Nat := fun q => if q = 0 then 1 else if q = 1 then 1 else 0
theorem nx0 : nx (stF rowsZ) 2 (fun _ => 0) 0 = 1 := by rfl
theorem nx1 : nx (stF rowsZ) 2 (fun _ => 0) 1 = 0 := by rfl
theorem perZ : Per (stF rowsZ) 2 (fun _ => 0) 0 := ⟨by decide, 2, by decide, by rfl⟩
theorem specZ : PopSpec (stF rowsZ) 2 (.tup [.tup [.int 2, .int 0], .tup [.int 1, .int 1]]) := by
  have o0 : Orb (stF rowsZ) 2 (fun _ => 0) 0 0 := ⟨0, rfl⟩
  have o1 : Orb (stF rowsZ) 2 (fun _ => 0) 0 1 := ⟨1, rfl⟩
  have b0 := bump_in o0
  have b1 := bump_in o1
  generalize hT : bump (stF rowsZ) 2 (fun _ => 0) 0 = T at *
  have n0 : nx (stF rowsZ) 2 T 0 = 2 := by unfold nx; rw [b0]; rfl
  have n1 : nx (stF rowsZ) 2 T 1 = 0 := by unfold nx; rw [b1]; rfl
  have n2 : nx (stF rowsZ) 2 T 2 = 2 := by unfold nx; rfl
  have i2 : ∀ k, itr (nx (stF rowsZ) 2 T) k 2 = 2 := fun k => by
    induction k with
    | zero => rfl
    | succ k ih => rw [itr, n2, ih]
  refine .inr ⟨T, hT ▸ .step .refl perZ, fun p ⟨hp, k, hk, e⟩ => ?_, fun q hq => ?_, ?_⟩
  · obtain ⟨k, rfl⟩ : ∃ j, k = j + 1 := ⟨k - 1, by omega⟩
    rw [itr] at e
    have : p = 0 ∨ p = 1 := by omega
    rcases this with rfl | rfl
    · rw [n0, i2] at e; cases e
    · rw [n1] at e
      cases k with
      | zero => rw [itr] at e; cases e
      | succ k => rw [itr, n0, i2] at e; cases e
  · have : q = 0 ∨ q = 1 := by omega
    rcases this with rfl | rfl
    · rw [b0]; decide
    · rw [b1]; decide
  · have e2 : List.range 2 = [0, 1] := rfl
    simp [trD, e2, n0, n1, b0, b1]
theorem v_last {m : Nat} (hm : 10 ≤ m) : callD loop prog m 9 [.int 2, .lst [.lst [.int 1, .int 2], .lst [.int 0, .int 0, .int 2]], .tup [.int 0, .int 1]] sto = some (.d (.tup [.tup [.int 2, .int 0], .tup [.int 1, .int 1]]), sto) := by
  have hl : rowsZ.length = 2 := rfl
  have hr : ∀ r ∈ rowsZ, r.length ≤ 40 ∧ ∀ x ∈ r, x ≤ 2 := by decide
  obtain ⟨r, h1, h2⟩ := v_popped (sto := sto) (S := stF rowsZ) (n := 2) (stF_out hl) (stF_in hr).1 (w := false) (order := [0, 1]) (by rw [show rngI 2 = [0, 1] from rfl]) (by omega) (by omega) (fun q => by have := (stF_in hr).2 q; omega) (m := m) hm
  rw [popSpec_one h2 specZ, ← w_drawn 2 hl] at h1
  exact h1
theorem plain : ∀ ns : List Int, ns.length ≤ 63 → ∃ sto, callD loop prog 20 23 [.scr (ns.map .int)] [.tab 23] = some (.d (.bl true), sto) := by
  intro ns hns
  suffices hE : Ends (callD loop prog (19 + 1) 23 [.scr (ns.map .int)] [.tab 23]) fun b => b.1 = .d (.bl true) by
    obtain ⟨⟨o, s⟩, e, h1⟩ := hE
    simp only at h1
    subst h1
    exact ⟨s, e⟩
  obtain ⟨L, C, b1⟩ := w_begun (sto := [.tab 23]) (ns := ns) hns (m := 19) (by omega)
  refine run_def (d := d_law) rfl rfl ?_
  simp [-w_exs1, d_law, start, O.isD, O.flat, isInst, isTy, tyNames, tyN, tyNs, anyN, O.toD, eqOk, D.plain, D.depth, D.eqv, D.flat, E.place, E.quiet, E.quiet.go, E.quietO, stEs, stE, asgT, cxK_own, cxK_cel, cxK_call, cxK_callX, cxK_make, bindT.go, Tg.slots, Tg.slots.go, wipe, putBack, dOnly, ixN, bls_map, pures_map', pures_mapf, toDs_mapf, toDs_map', ints_map, E.keeps, isN, isL, modR, modPath, appAt]
  rw [w_exs1]
  have hd : (dr L 0 C 0).isD = false := rfl
  simp [-w_exs1, start, O.isD, O.flat, isInst, isTy, tyNames, tyN, tyNs, anyN, O.toD, eqOk, D.plain, D.depth, D.eqv, D.flat, E.place, E.quiet, E.quiet.go, E.quietO, stEs, stE, asgT, cxK_own, cxK_cel, cxK_call, cxK_callX, cxK_make, bindT.go, Tg.slots, Tg.slots.go, wipe, putBack, dOnly, ixN, bls_map, pures_map', pures_mapf, toDs_mapf, toDs_map', ints_map, E.keeps, isN, isL, modR, modPath, appAt, b1]
  refine ⟨rfl, ?_⟩
  rw [w_exs1]
  have hr : itk .range [.int (8 + if (12 : Int) < (ns.length : Nat) then 12 else ((ns.length : Nat) : Int))] = some ((List.range (8 + min ns.length 12)).map fun (j : Nat) => .int (j : Int)) := by
    have e : (8 + if (12 : Int) < (ns.length : Nat) then 12 else ((ns.length : Nat) : Int)) = ((8 + min ns.length 12 : Nat) : Int) := by
      by_cases h6 : (12 : Int) < (ns.length : Nat)
      · rw [if_pos h6]; omega
      · rw [if_neg h6]; omega
    rw [e]
    exact q_range (by omega)
  refine run_for (List.range (8 + min ns.length 12)) (fun j => .int (j : Nat)) (fun done s => LInv (some (.d (.scr (ns.map .int)))) (done.length * 2000) s) ?_ ?_ ?_
  · simp [start, O.isD, O.flat, isInst, isTy, tyNames, tyN, tyNs, anyN, O.toD, eqOk, D.plain, D.depth, D.eqv, D.flat, E.place, E.quiet, E.quiet.go, E.quietO, stEs, stE, asgT, cxK_own, cxK_cel, cxK_call, cxK_callX, cxK_make, bindT.go, Tg.slots, Tg.slots.go, wipe, putBack, dOnly, ixN, bls_map, pures_map', pures_mapf, toDs_mapf, toDs_map', ints_map, E.keeps, isN, isL, modR, modPath, appAt, hr]
    exact .mk _ _ _ _ _ _ _ _ _ _ _ _ _ _ _ ⟨L, 0, C, 0, rfl, Nat.le_refl _⟩
  · rintro done x rest e s h
    have hd : done.length < 20 := by
      have := congrArg List.length e
      simp at this; omega
    obtain ⟨x2, x3, x4, x5, x6, x7, x8, x9, x10, x11, x12, x13, x14, x15, sto, d⟩ := h
    simp only [bindT, ends_some]
    refine run_lap (n0 := done.length * 2000) (by omega) (by omega) (.mk _ _ _ _ _ _ _ _ _ _ _ _ _ _ sto d) fun s' h' => ?_
    simp only [List.length_append, List.length_singleton, Nat.add_mul, Nat.one_mul]
    exact h'
  · rintro s ⟨x2, x3, x4, x5, x6, x7, x8, x9, x10, x11, x12, x13, x14, x15, sto, d⟩
    have l1 := v_last (sto := sto) (m := 19) (by omega)
    have l2 : lenOk 2 = true := lenOk_of (by omega)
    have l3 : lenOk 3 = true := lenOk_of (by omega)
    have sm := v_same (sto := sto) (x := .tup [.tup [.int 2, .int 0], .tup [.int 1, .int 1]]) (by simp [D.plain, D.plains]) (by simp [D.depth, D.depths]) (by simp [D.sz, D.szs]) (m := 19) (by omega)
    simp only
    rw [w_exs1]
    simp [start, O.isD, O.flat, isInst, isTy, tyNames, tyN, tyNs, anyN, O.toD, eqOk, D.plain, D.depth, D.eqv, D.flat, E.place, E.quiet, E.quiet.go, E.quietO, stEs, stE, asgT, cxK_own, cxK_cel, cxK_call, cxK_callX, cxK_make, bindT.go, Tg.slots, Tg.slots.go, wipe, putBack, dOnly, ixN, bls_map, pures_map', pures_mapf, toDs_mapf, toDs_map', ints_map, E.keeps, isN, isL, modR, modPath, appAt, l2, l3, O.toDs, l1, sm]
end K34
end Py
end

section
set_option Elab.async false
set_option linter.all false
set_option maxRecDepth 100000
set_option maxHeartbeats 0
namespace PyS.K34
open PySem L2
theorem allC : pk.allC = true := by decide +kernel
theorem defs : ∀ f, f < pk.fn.length → pk.defC f = true := by decide +kernel
theorem bnd : BndAll pk := fun f => match f with
  | 0 => fun d e kV doc pm an cdv ct us hl => by cases e; exact match us, hl with | [_], _ => rfl
  | 1 => fun d e kV doc pm an cdv ct us hl => by cases e; exact match us, hl with | [_, _, _], _ => rfl
  | 2 => fun d e kV doc pm an cdv ct us hl => by cases e; exact match us, hl with | [_], _ => rfl
  | 3 => fun d e kV doc pm an cdv ct us hl => by cases e; exact match us, hl with | [_], _ => rfl
  | 4 => fun d e kV doc pm an cdv ct us hl => by cases e; exact match us, hl with | [_, _], _ => rfl
  | 5 => fun d e kV doc pm an cdv ct us hl => by cases e; exact match us, hl with | [_, _], _ => rfl
  | 6 => fun d e kV doc pm an cdv ct us hl => by cases e; exact match us, hl with | [_, _], _ => rfl
  | 7 => fun d e kV doc pm an cdv ct us hl => by cases e; exact match us, hl with | [_, _], _ => rfl
  | 8 => fun d e kV doc pm an cdv ct us hl => by cases e; exact match us, hl with | [_, _, _], _ => rfl
  | 9 => fun d e kV doc pm an cdv ct us hl => by cases e; exact match us, hl with | [_, _, _], _ => rfl
  | 10 => fun d e kV doc pm an cdv ct us hl => by cases e; exact match us, hl with | [_], _ => rfl
  | 11 => fun d e kV doc pm an cdv ct us hl => by cases e; exact match us, hl with | [_], _ => rfl
  | 12 => fun d e kV doc pm an cdv ct us hl => by cases e; exact match us, hl with | [_, _], _ => rfl
  | 13 => fun d e kV doc pm an cdv ct us hl => by cases e; exact match us, hl with | [_, _], _ => rfl
  | 14 => fun d e kV doc pm an cdv ct us hl => by cases e; exact match us, hl with | [_, _], _ => rfl
  | 15 => fun d e kV doc pm an cdv ct us hl => by cases e; exact match us, hl with | [_], _ => rfl
  | 16 => fun d e kV doc pm an cdv ct us hl => by cases e; exact match us, hl with | [_], _ => rfl
  | 17 => fun d e kV doc pm an cdv ct us hl => by cases e; exact match us, hl with | [_, _], _ => rfl
  | 18 => fun d e kV doc pm an cdv ct us hl => by cases e; exact match us, hl with | [_, _], _ => rfl
  | 19 => fun d e kV doc pm an cdv ct us hl => by cases e; exact match us, hl with | [_], _ => rfl
  | 20 => fun d e kV doc pm an cdv ct us hl => by cases e; exact match us, hl with | [_, _], _ => rfl
  | 21 => fun d e kV doc pm an cdv ct us hl => by cases e; exact match us, hl with | [_, _, _, _], _ => rfl
  | 22 => fun d e kV doc pm an cdv ct us hl => by cases e; exact match us, hl with | [_, _, _], _ => rfl
  | 23 => fun d e kV doc pm an cdv ct us hl => by cases e; exact match us, hl with | [_], _ => rfl
  | _ + 24 => fun d e => by cases e
theorem kwb : KwAll pk := by
  intro p hp d e
  simp only [pk, G, kws, List.mem_cons, List.not_mem_nil, or_false] at hp
  rcases hp with rfl
  · cases e
    exact ⟨rfl, fun kV doc pm an cdv ct us ws h1 h2 => match us, ws, h1, h2 with | [], [_, _, _], _, _ => rfl⟩
end PyS.K34
end

set_option Elab.async false
set_option linter.all false
set_option maxRecDepth 100000
set_option maxHeartbeats 0
open PySem PySem.W PySem.Calls PyProof.Rows
theorem PySem.Challenge.cw_bestatall_k34_whole_stacks_popped_in_any_holds : PySem.Challenge.rw_bestatall_k34_whole_stacks_popped_in_any.Holds := by
  w_on; o_law
  refine HandSHeadRun.head_any (r := OpenLaw.row PySem.Challenge.rw_bestatall_k34_whole_stacks_popped_in_any) (q := view PyS.K34.R.prog [31]) (H := PyS.K34.hk) (ob := PyS.K34.ob) (M := 20000) (loose := PyS.K34.loose) (d := HandSHeadRun.topDef PyS.K34.R.prog 31) (kwd := []) PyS.K34.ob_eq
    (by kernel_rfl) (fun s => by kernel_rfl) PyS.K34.run (by kernel_rfl) (by kernel_rfl) (by kernel_rfl) (by rfl) (by first | assumption | decide +kernel) (by decide +kernel) ⟨rfl, rfl, rfl, rfl, rfl, by decide +kernel⟩ ?hw ?hc
  case hw => w_witness2
  case hc =>
    exact PyS.law_walk (l := PySem.Challenge.rw_bestatall_k34_whole_stacks_popped_in_any) (k := PyS.K34.pk) (n := 63) (f := 23) (m := 20) rfl (by decide) (by kernel_rfl) (by decide) ⟨rfl, by decide, by decide⟩ (by kernel_rfl) (fun g h => by cases h; decide +kernel) PyS.K34.allC rfl PyS.K34.defs PyS.K34.bnd PyS.K34.kwb rfl rfl (by decide +kernel) rfl rfl (by decide +kernel) Py.K34.plain
