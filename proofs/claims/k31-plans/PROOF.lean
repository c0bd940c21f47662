import PyProof.Rows.All
import Wide.All
import OpenK.AllK
import Wide.FinOn
import HandS.ForMost
import HandS.ForExc
import HandS.Walk
import HandS.Zip
import HandS.TryMany
import HandS.TupAny
import HandS.TupMul
import HandS.IsInst
import HandS.Deep
import HandS.Strs
import HandS.ForDict
import HandS.More
import HandS.Small
import KE.SortData
import KE.DataMinMax
import KE.KDictKeyed
import HandS.TupLen
import HandS.ExcIs
import HandS.Conv
import KE.GoesEnum
import KE.GoesMore
import KE.KDictItemsList
import HandS.ListItems
import HandS.Style
import PyProof.Rows.SetFrom
import PyProof.Rows.SetObj
import HandS.SetKeys
import HandS.DictComp
import PySem.Challenge.RW_grammarforge_k31_plans_of_rules
set_option Elab.async false
set_option linter.all false
set_option maxRecDepth 100000
set_option maxHeartbeats 4000000
/-! A small language of plain data, its meaning as a function, and that the model's run of a def keeps to it. -/
namespace GF
open PySem

/-! ## data -/
/-- o: the object is one frame's own (it may change there); c: a class by its number; ns: the fields, by number -/
inductive D where
  | non
  | bl (b : Bool)
  | int (i : Int)
  | str (s : Str)
  | tup (ds : List D)
  | lst (o : Bool) (ds : List D)
  | dct (o : Bool) (ks vs : List D)
  | ins (o : Bool) (c : Nat) (ns : List Nat) (ds : List D)
  deriving Inhabited

/-- from now on nobody changes it -/
def D.frz : D → D
  | .lst _ ds => .lst false ds
  | .dct _ ks vs => .dct false ks vs
  | .ins _ c ns ds => .ins false c ns ds
  | d => d
def D.own : D → Bool
  | .lst o _ => o
  | .dct o _ _ => o
  | .ins o _ _ _ => o
  | _ => false
/-- a dict that is owned -/
def odD : D → Bool
  | .dct true _ _ => true
  | _ => false
theorem D.frz_of {d : D} (h : d.own = false) : d.frz = d := by
  cases d <;> simp_all [D.frz, D.own]
theorem D.own_frz (d : D) : d.frz.own = false := by
  cases d <;> simp [D.frz, D.own]

mutual
/-- plain data as the library says it -/
def D.py : D → Option PyData
  | .non => some .none
  | .bl b => some (.bool b)
  | .int i => some (.int i)
  | .str s => some (.str s)
  | .tup ds => match pysD ds with
    | some xs => some (.tuple xs)
    | none => none
  | .lst _ ds => match pysD ds with
    | some xs => some (.list xs)
    | none => none
  | .dct .. => none
  | .ins .. => none
def pysD : List D → Option (List PyData)
  | [] => some []
  | d :: ds => match d.py, pysD ds with
    | some x, some xs => some (x :: xs)
    | _, _ => none
end

/-! ## what the operators say -/
/-- a dict's keys: ints and texts -/
def keyD : D → Option L2.Key
  | .int i => some (.inl i)
  | .str s => some (.inr s)
  | _ => none
def keysD : List D → Option (List L2.Key)
  | [] => some []
  | d :: ds => match keyD d, keysD ds with
    | some k, some ks => some (k :: ks)
    | _, _ => none
/-- the first place of a key -/
def keyAt (k : L2.Key) : List L2.Key → Option Nat
  | [] => none
  | j :: js => if j = k then some 0 else (keyAt k js).map (· + 1)
/-- what stands at a key -/
def dctAt (ks vs : List D) (k : D) : Option (Option D) := match keysD ks, keyD k with
  | some js, some j => match keyAt j js with
    | some i => match vs[i]? with
      | some v => some (some v)
      | none => none
    | none => some none
  | _, _ => none
def putV (j : L2.Key) (x : D) : List L2.Key → List D → List D
  | k :: ks, v :: vs => (if k = j then x else v) :: putV j x ks vs
  | _, vs => vs
/-- stored at a key -/
def dctPut (ks vs : List D) (k v : D) : Option (List D × List D) := match keysD ks, keyD k with
  | some js, some j => if js.any (fun i => decide (i = j)) then some (ks, putV j v js vs) else some (ks ++ [k], vs ++ [v])
  | _, _ => none
/-- o[k] = v -/
def putD : D → D → D → Option D
  | .dct true ks vs, k, v => if ks.length < sizeLine then match dctPut ks vs k v with
      | some p => some (.dct true p.1 p.2)
      | none => none
    else none
  | .lst true ds, .int j, v => match L2.ixN ds.length j with
    | some n => some (.lst true (ds.set n v))
    | none => none
  | _, _, _ => none
inductive Op where
  | add | sub | mul | fdiv | mod | pow | eq | ne | lt | le | gt | ge | isin | notin | is_ | isnot
  deriving DecidableEq

def eqD (a b : D) : Option Bool :=
  match a.py, b.py with
  | some x, some y => if SeqAt.shaped x && SeqAt.shaped y then some (PyData.eqv x y) else none
  | _, _ => none
/-- is x among the items -/
def inD (x : D) (ys : List D) : Option Bool :=
  match x.py, pysD ys with
  | some p, some ps => if SeqAt.shaped p && SeqAt.shaped (.list ps) then some (ps.any fun z => PyData.eqv z p) else none
  | _, _ => none
inductive Cmp where
  | lt | le | gt | ge
  deriving DecidableEq
def cmpI : Cmp → Int → Int → Bool
  | .lt, i, j => decide (i < j)
  | .le, i, j => decide (i ≤ j)
  | .gt, i, j => decide (j < i)
  | .ge, i, j => decide (j ≤ i)
def cmpS : Cmp → Str → Str → Bool
  | .lt, i, j => decide (i.cps.toList < j.cps.toList)
  | .le, i, j => !decide (j.cps.toList < i.cps.toList)
  | .gt, i, j => decide (j.cps.toList < i.cps.toList)
  | .ge, i, j => !decide (i.cps.toList < j.cps.toList)
def cmpD (o : Cmp) : D → D → Option Bool
  | .int i, .int j => some (cmpI o i j)
  | .str i, .str j => some (cmpS o i j)
  | _, _ => none
def addD : D → D → Option D
  | .int i, .int j => some (.int (i + j))
  | .str a, .str b => if a.length + b.length ≤ sizeLine then some (.str (a ++ b)) else none
  | .tup a, .tup b => if a.length + b.length ≤ sizeLine then some (.tup (a ++ b)) else none
  | .lst _ a, .lst _ b => if a.length + b.length ≤ sizeLine then some (.lst true (a ++ b)) else none
  | _, _ => none
def subD : D → D → Option D
  | .int i, .int j => some (.int (i - j))
  | _, _ => none
@[irreducible] def smallM (i : Int) : Bool := decide (-(2 ^ 64) < i) && decide (i < 2 ^ 64)
def mulD : D → D → Option D
  | .int i, .int j => if smallM i || smallM j then some (.int (i * j)) else none
  | .tup a, .int k => if a.length ≤ 1000 ∧ 1 ≤ k ∧ k ≤ 1000 ∧ a.isEmpty = false then some (.tup (List.replicate k.toNat a).flatten) else none
  | _, _ => none
def fdivD : D → D → Option D
  | .int i, .int j => if 0 < j ∧ j < 1073741824 then some (.int (i / j)) else none
  | _, _ => none
def modD : D → D → Option D
  | .int i, .int j => if 0 < j then some (.int (i % j)) else none
  | _, _ => none
def powD : D → D → Option D
  | .int i, .int j => if i.natAbs ≤ 10 ∧ 0 ≤ j ∧ j ≤ 18 then some (.int (i ^ j.toNat)) else none
  | _, _ => none
def subStr (a b : Str) : Bool := !(Builtin.Str.occurrences b a 0 b.length 1).isEmpty
def isinD : D → D → Option Bool
  | .str a, .str b => some (subStr a b)
  | x, .tup ys => inD x ys
  | x, .lst _ ys => inD x ys
  | x, .dct _ ks vs => match dctAt ks vs x with
    | some o => some o.isSome
    | none => none
  | _, _ => none
def isNoneD : D → D → Option Bool
  | .non, .non => some true
  | _, .non => some false
  | _, _ => none
def opD : Op → D → D → Option D
  | .add => addD
  | .sub => subD
  | .mul => mulD
  | .fdiv => fdivD
  | .mod => modD
  | .pow => powD
  | .eq => fun a b => (eqD a b).map .bl
  | .ne => fun a b => (eqD a b).map fun r => .bl (!r)
  | .lt => fun a b => (cmpD .lt a b).map .bl
  | .le => fun a b => (cmpD .le a b).map .bl
  | .gt => fun a b => (cmpD .gt a b).map .bl
  | .ge => fun a b => (cmpD .ge a b).map .bl
  | .isin => fun a b => (isinD a b).map .bl
  | .notin => fun a b => (isinD a b).map fun r => .bl (!r)
  | .is_ => fun a b => (isNoneD a b).map .bl
  | .isnot => fun a b => (isNoneD a b).map fun r => .bl (!r)

/-- an item by its place, from behind too -/
abbrev atD (xs : List D) (i : Int) : Option D := L2.atI xs i
def ixD : D → D → Option D
  | .tup xs, .int i => atD xs i
  | .lst _ xs, .int i => atD xs i
  | .str s, .int i => if s.length ≤ sizeLine then (L2.atI s.cps.toList i).map fun c => .str ⟨#[c]⟩ else none
  | .dct _ ks vs, k => match dctAt ks vs k with
    | some (some v) => some v
    | _ => none
  | _, _ => none
/-- a slice's bounds -/
def cutD (xs : List D) (lo hi : Option Int) : List D :=
  (xs.drop (HT.sIx xs.length 0 lo)).take (HT.sIx xs.length xs.length hi - HT.sIx xs.length 0 lo)
def slD : D → Option Int → Option Int → Option D
  | .tup xs, lo, hi => some (.tup (cutD xs lo hi))
  | .lst _ xs, lo, hi => some (.lst true (cutD xs lo hi))
  | .str s, lo, hi => if s.length ≤ sizeLine then some (.str (L2.cutS s lo hi)) else none
  | _, _, _ => none

/-! ## built-ins -/
inductive Ty where
  | int | str | bool | tuple | list | dict
  deriving DecidableEq
def isTy : D → Ty → Option Bool
  | .non, _ => some false
  | .bl _, .bool => some true
  | .bl _, .int => some true
  | .bl _, _ => some false
  | .int _, .int => some true
  | .int _, _ => some false
  | .str _, .str => some true
  | .str _, _ => some false
  | .tup _, .tuple => some true
  | .tup _, _ => some false
  | .lst _ _, .list => some true
  | .lst _ _, _ => some false
  | .dct .., _ => none
  | .ins .., _ => none
inductive BI where
  | len | int | abs | tuple | list | all | any | sum | min | max | sorted
  deriving DecidableEq
def boolsD : List D → Option (List Bool)
  | [] => some []
  | .bl b :: r => (boolsD r).map (b :: ·)
  | _ :: _ => none
def intsD : List D → Option (List Int)
  | [] => some []
  | .int b :: r => (intsD r).map (b :: ·)
  | _ :: _ => none
def lenB : List D → Option D
  | [.str s] => if s.length ≤ sizeLine then some (.int s.length) else none
  | [.tup xs] => some (.int xs.length)
  | [.lst _ xs] => some (.int xs.length)
  | [.dct _ ks vs] => if ks.length = vs.length then some (.int ks.length) else none
  | _ => none
def intB : List D → Option D
  | [.int i] => some (.int i)
  | [.bl b] => some (.int (if b then 1 else 0))
  | _ => none
def absB : List D → Option D
  | [.int i] => some (.int (if i < 0 then -i else i))
  | _ => none
def tupleB : List D → Option D
  | [.lst _ xs] => some (.tup xs)
  | [.tup xs] => some (.tup xs)
  | _ => none
def listB : List D → Option D
  | [.lst _ xs] => some (.lst true xs)
  | [.tup xs] => some (.lst true xs)
  | [.dct _ ks _] => some (.lst true ks)
  | _ => none
def allB : List D → Option D
  | [.lst _ xs] => match boolsD xs with
    | some l => some (.bl (l.all id))
    | none => none
  | _ => none
def anyB : List D → Option D
  | [.lst _ xs] => match boolsD xs with
    | some l => some (.bl (l.any id))
    | none => none
  | _ => none
def sumB : List D → Option D
  | [.lst _ xs] => match intsD xs with
    | some l => some (.int l.sum)
    | none => none
  | _ => none
/-! keys that are tuples of texts and numbers, nested -/
mutual
def nkD : D → Option NestedKey
  | .int i => some (.num i)
  | .str s => some (.text s)
  | .tup ds => match nkDs ds with
    | some ks => some (.tup ks)
    | none => none
  | _ => none
def nkDs : List D → Option (List NestedKey)
  | [] => some []
  | d :: ds => match nkD d, nkDs ds with
    | some k, some ks => some (k :: ks)
    | _, _ => none
end
def nkT (d : D) : Option NestedKey := match d with
  | .tup ds => match nkD (.tup ds) with
    | some k => if k.depth ≤ 8 then some k else none
    | none => none
  | _ => none
/-! order -/
def pyOr (d : D) : PyData := d.py.getD .none
def alikeL (ps : List PyData) : Bool := ps.all fun p => ps.all fun q => W.alike p q
def tup1 : PyData → Bool
  | .tuple (_ :: _) => true
  | _ => false
def othP : PyData → Bool
  | .none => false
  | .tuple _ => false
  | _ => true
def sortableL (ps : List PyData) : Bool := ps.all tup1 || ps.all othP
def leD : D → D → Bool := W.dataLe false pyOr
def ltD (a b : D) : Bool := W.dataLt (pyOr a) (pyOr b)
def sortOk (xs : List D) : Bool := match pysD xs with
  | some ps => alikeL ps && sortableL ps && decide (PyData.depthAll ps ≤ 60) && decide (xs.length ≤ sizeLine)
  | none => false
def sortedB : List D → Option D
  | [.lst _ xs] => if sortOk xs then some (.lst true (xs.mergeSort leD)) else none
  | [.dct _ ks _] => if sortOk ks then some (.lst true (ks.mergeSort leD)) else none
  | _ => none
/-! things of one form: sorted(d.items()), len(set(xs)), xs[::-1] -/
inductive Un where
  | sitems | lset | rev
  deriving DecidableEq
def pairsD : List D → List D → List D
  | k :: ks, v :: vs => .tup [k, v] :: pairsD ks vs
  | _, _ => []
/-- each key once, where it comes first -/
def nubK {α : Type} [DecidableEq α] (l : List α) : List α := l.foldl (fun acc k => if acc.any (fun j => decide (j = k)) then acc else acc ++ [k]) []
def lsetU (xs : List D) : Option D := match keysD xs with
  | some js => if xs.length < 4000 then some (.int ((nubK js).length : Nat)) else none
  | none => none
def sitemsU (ks vs : List D) : Option D := if ks.length = vs.length ∧ sortOk (pairsD ks vs) = true then some (.lst true ((pairsD ks vs).mergeSort leD)) else none
def unD : Un → D → Option D
  | .sitems, .dct _ ks vs => sitemsU ks vs
  | .lset, .lst _ xs => lsetU xs
  | .lset, .tup xs => lsetU xs
  | .rev, .lst _ xs => some (.lst true xs.reverse)
  | .rev, .tup xs => some (.tup xs.reverse)
  | _, _ => none
def minOf (x : D) (xs : List D) : D := xs.foldl (fun a y => if ltD y a then y else a) x
def minB : List D → Option D
  | [.lst _ (x :: xs)] => if sortOk (x :: xs) then some (minOf x xs) else none
  | [.int i, .int j] => some (.int (if j < i then j else i))
  | _ => none
def maxB : List D → Option D
  | [.int i, .int j] => some (.int (if j > i then j else i))
  | _ => none
def biD : BI → List D → Option D
  | .len => lenB
  | .int => intB
  | .abs => absB
  | .tuple => tupleB
  | .list => listB
  | .all => allB
  | .any => anyB
  | .sum => sumB
  | .min => minB
  | .max => maxB
  | .sorted => sortedB
/-- methods of built-in types that change nothing -/
inductive BM where
  | join | index | count
  deriving DecidableEq
def strsD : List D → Option (List Str)
  | [] => some []
  | .str b :: r => (strsD r).map (b :: ·)
  | _ :: _ => none
/-- the first place -/
def idxD (x : D) (ys : List D) : Option Nat :=
  match x.py, pysD ys with
  | some p, some ps => if SeqAt.shaped p && SeqAt.shaped (.list ps) then ps.findIdx? fun z => PyData.eqv z p else none
  | _, _ => none
def joinM : D → List D → Option D
  | .str a, [.lst _ xs] => match strsD xs with
    | some ys => if (ys.map (·.length)).sum + ys.length * a.length ≤ 16777216 then some (.str (Txt.join a ys)) else none
    | none => none
  | _, _ => none
def indexM : D → List D → Option D
  | .tup xs, [x] => match idxD x xs with
    | some k => some (.int (k : Int))
    | none => none
  | .lst _ xs, [x] => match idxD x xs with
    | some k => some (.int (k : Int))
    | none => none
  | _, _ => none
def bmD : BM → D → List D → Option D
  | .join => joinM
  | .index => indexM
  | .count => fun _ _ => none
end GF
namespace GF
open PySem

/-! ## the language -/
mutual
inductive Tg where
  | n (i : Nat)
  | t (l : Tgs)
inductive Tgs where
  | nil
  | cons (x : Tg) (r : Tgs)
end
mutual
inductive IE where
  | c (d : D)
  | v (i : Nat)
  | b (i : Nat)
  | mv (i : Nat)
  | tup (es : IEs)
  | lst (es : IEs)
  | dnew
  | op (o : Op) (x y : IE)
  | ch (o p : Op) (x y z : IE)
  | neg (x : IE)
  | not_ (x : IE)
  | and_ (x y : IE)
  | or_ (x y : IE)
  | ite (t x y : IE)
  | ix (x y : IE)
  | sl (x : IE) (lo hi : IEs)
  | call (f : Nat) (es : IEs)
  | new (k : Nat) (es : IEs)
  | fld (x : IE) (f : Nat)
  | meth (x : IE) (m : Nat) (es : IEs)
  | bi (b : BI) (es : IEs)
  | isi (x : IE) (t : Ty)
  | bm (x : IE) (m : BM) (es : IEs)
  | lc (own : List Nat) (tg : Tg) (it : II) (ifs : IEs) (x : IE)
  | dc (own : List Nat) (tg : Tg) (it : II) (ifs : IEs) (k x : IE)
  | nd (own : List Nat) (tg : Tg) (it : II) (k x : IE)
  | un (u : Un) (x : IE)
  | rgl (tup : Bool) (es : IEs)
  | dc2 (own vs1 : List Nat) (tg : Tg) (it : II) (tg1 : Tg) (it1 : II) (k x : IE)
inductive IEs where
  | nil
  | cons (x : IE) (r : IEs)
inductive II where
  | seq (x : IE)
  | rng (es : IEs)
  | zip (es : IEs)
  | enum (es : IEs)
end
mutual
inductive IS where
  | asg (k : Bool) (tg : Tg) (x : IE)
  | setf (i f : Nat) (x : IE)
  | ex (x : IE)
  | app (i : Nat) (x : IE)
  | put (i : Nat) (k x : IE)
  | par (k1 k2 : Bool) (i j : Nat) (xs : IEs)
  | put2 (i j : Nat) (k1 k2 x : IE)
  | if_ (t : IE) (a b : ISs)
  | for_ (tg : Tg) (it : II) (b : ISs)
  | whl (t : IE) (b : ISs)
  | ret (x : IE)
  | raise (k : Nat)
  | tryA (b : ISs) (k j i : Nat) (d1 d2 : D)
  | try_ (b : ISs) (hs : IHs)
  | brk
  | cnt
inductive ISs where
  | nil
  | cons (x : IS) (r : ISs)
inductive IHs where
  | nil
  | cons (k : Nat) (b : ISs) (r : IHs)
end

/-! ## its meaning -/
abbrev Rho := List (Option D)
def getS (r : Rho) (i : Nat) : Option D := match r[i]? with
  | some x => x
  | none => none
/-- a value, or the object of a slot, just looked at -/
inductive Od where
  | val (d : D)
  | slot (i : Nat)
def Od.get (r : Rho) : Od → Option D
  | .val d => some d
  | .slot i => getS r i
inductive R where
  | ok (d : D)
  | err (k : Nat)
  | stuck
inductive RE where
  | ok (o : Od) (r : Rho)
  | err (k : Nat) (r : Rho)
  | stuck
/-- lists of values -/
inductive RL where
  | ok (ds : List D) (r : Rho)
  | err (k : Nat) (r : Rho)
  | stuck
/-- lists of operands -/
inductive RO where
  | ok (os : List Od) (r : Rho)
  | err (k : Nat) (r : Rho)
  | stuck
/-- a slice's bound -/
inductive RB where
  | ok (o : Option Int) (r : Rho)
  | err (k : Nat) (r : Rho)
  | stuck
inductive RS where
  | nx (r : Rho)
  | rt (d : D)
  | bk (r : Rho)
  | ct (r : Rho)
  | er (k : Nat) (r : Rho)
  | stuck
structure Phi where
  fn : Nat → List D → R
  mkI : Nat → List D → R
  mt : Nat → Nat → Option Nat
  sub : Nat → Nat → Bool
  fl : Nat → Nat → Bool
  ia : Bool := false

mutual
def bindT : Tg → D → Rho → Option Rho
  | .n i, d, r => if i < r.length then some (r.set i (some d)) else none
  | .t l, .tup ds, r => bindTs l ds r
  | .t _, _, _ => none
def bindTs : Tgs → List D → Rho → Option Rho
  | .nil, [], r => some r
  | .cons x l, d :: ds, r => match bindT x d r with
    | some r1 => bindTs l ds r1
    | none => none
  | _, _, _ => none
end
def wipeR (r : Rho) : List Nat → Rho
  | [] => r
  | v :: vs => (wipeR r vs).set v none
/-- the slots at own as they were in r0 -/
def backR (r0 r : Rho) : List Nat → Rho
  | [] => r
  | v :: vs => (backR r0 r vs).set v (getS r0 v)
def freeR (r : Rho) (own : List Nat) : Bool := own.all fun i => match getS r i with
  | some d => !d.own
  | none => true

def RE.od (x : RE) (k : Od → Rho → RE) : RE := match x with
  | .ok o r => k o r
  | .err c r => .err c r
  | .stuck => .stuck
/-- the value of an operand -/
def RE.get (x : RE) (k : D → Rho → RE) : RE := match x with
  | .ok o r => match o.get r with
    | some d => k d r
    | none => .stuck
  | .err c r => .err c r
  | .stuck => .stuck
def RE.val (x : RE) (k : D → Rho → RE) : RE := match x with
  | .ok (.val d) r => k d r
  | .ok (.slot _) _ => .stuck
  | .err c r => .err c r
  | .stuck => .stuck
def optE (d : Option D) (r : Rho) : RE := match d with
  | some d => .ok (.val d) r
  | none => .stuck
def resE (x : R) (r : Rho) : RE := match x with
  | .ok d => .ok (.val d) r
  | .err c => .err c r
  | .stuck => .stuck
def getAll (r : Rho) : List Od → Option (List D)
  | [] => some []
  | o :: os => match o.get r, getAll r os with
    | some d, some ds => some (d :: ds)
    | _, _ => none
def itemsD : D → Option (List D)
  | .tup ds => some ds
  | .lst _ ds => some ds
  | .dct false ks _ => some ks
  | .str s => some (s.cps.toList.map fun c => .str ⟨#[c]⟩)
  | _ => none
@[irreducible] def small62 (i : Int) : Bool := decide (-(2 ^ 62) ≤ i) && decide (i < 2 ^ 62)
def rangeD : List D → Option (List D)
  | [.int j] => if small62 j then some ((List.range j.toNat).map fun k => .int (0 + (k : Nat))) else none
  | [.int i, .int j] => if small62 i && small62 j then some ((List.range (j - i).toNat).map fun k => .int (i + (k : Nat))) else none
  | [.int i, .int j, .int c] => if small62 i && small62 j && decide (c = -1) then some ((List.range (i - j).toNat).map fun k => .int (i + (k : Nat) * -1)) else none
  | _ => none
def zipD : List D → List D → List D
  | x :: xs, y :: ys => .tup [x, y] :: zipD xs ys
  | _, _ => []
def enumD : List D → Nat → List D
  | [], _ => []
  | x :: xs, k => .tup [.int (k : Nat), x] :: enumD xs (k + 1)
def zipK : List D → Option (List D)
  | [.lst _ a, .lst _ b] => some (zipD a b)
  | [.tup a, .tup b] => some (zipD a b)
  | _ => none
def enumK : List D → Option (List D)
  | [.lst _ a] => some (enumD a 0)
  | [.tup a] => some (enumD a 0)
  | _ => none
/-! a target's slots -/
mutual
def tgS : Tg → List Nat
  | .n i => [i]
  | .t l => tgsS l
def tgsS : Tgs → List Nat
  | .nil => []
  | .cons x r => tgS x ++ tgsS r
end
/-! a target's slots are all among these -/
mutual
def tgIn (vs : List Nat) : Tg → Bool
  | .n i => vs.contains i
  | .t l => tgsIn vs l
def tgsIn (vs : List Nat) : Tgs → Bool
  | .nil => true
  | .cons x r => tgIn vs x && tgsIn vs r
end
/-- what yields new pairs wants a tuple of names -/
def okTg : Tg → II → Bool
  | .t _, _ => true
  | .n _, .zip _ => false
  | .n _, .enum _ => false
  | .n _, _ => true
def lookN (f : Nat) : List Nat → List D → Option D
  | n :: ns, d :: ds => if n = f then some d else lookN f ns ds
  | _, _ => none
/-- the turns of a list comprehension -/
def lcGo (own : List Nat) (bd : D → Rho → Option Rho) (tst elt : Rho → RE) : List D → Rho → List D → RE
  | [], r, acc => .ok (.val (.lst true acc)) r
  | d :: ds, r, acc => match bd d r with
    | none => .stuck
    | some r1 => match (tst r1).get fun x r2 => .ok (.val x) r2 with
      | .ok (.val (.bl true)) r2 => match elt r2 with
        | .ok (.val y) r3 => if odD y = false ∧ acc.length < sizeLine then lcGo own bd tst elt ds (wipeR r3 own) (acc ++ [y.frz]) else .stuck
        | _ => .stuck
      | .ok (.val (.bl false)) r2 => lcGo own bd tst elt ds (wipeR r2 own) acc
      | _ => .stuck

/-- the turns of a dict comprehension -/
def dcGo (own : List Nat) (bd : D → Rho → Option Rho) (tst key elt : Rho → RE) : List D → Rho → List D → List D → RE
  | [], r, ks, vs => .ok (.val (.dct true ks vs)) r
  | d :: ds, r, ks, vs => match bd d r with
    | none => .stuck
    | some r1 => match (tst r1).get fun x r2 => .ok (.val x) r2 with
      | .ok (.val (.bl true)) r2 => match (key r2).get fun x r3 => .ok (.val x) r3 with
        | .ok (.val k) r3 => match elt r3 with
          | .ok (.val y) r4 => if odD y = false ∧ ks.length < sizeLine then match dctPut ks vs k y.frz with
              | some p => dcGo own bd tst key elt ds (wipeR r4 own) p.1 p.2
              | none => .stuck
            else .stuck
          | _ => .stuck
        | _ => .stuck
      | .ok (.val (.bl false)) r2 => dcGo own bd tst key elt ds (wipeR r2 own) ks vs
      | _ => .stuck

/-- two fors: the second's turns -/
def dcIn (vs1 : List Nat) (bd : D → Rho → Option Rho) (key elt : Rho → RE) : List D → Rho → List D → List D → Option (Rho × List D × List D)
  | [], r, ks, vs => some (r, ks, vs)
  | d :: ds, r, ks, vs => match bd d r with
    | none => none
    | some r1 => match (key r1).get fun x r2 => .ok (.val x) r2 with
      | .ok (.val k) r2 => match elt r2 with
        | .ok (.val y) r3 => if odD y = false ∧ ks.length < sizeLine then match dctPut ks vs k y.frz with
            | some p => dcIn vs1 bd key elt ds (wipeR r3 vs1) p.1 p.2
            | none => none
          else none
        | _ => none
      | _ => none
/-- the first's -/
def dcOut (own vs1 : List Nat) (bd : D → Rho → Option Rho) (it1 : Rho → RL) (bd1 : D → Rho → Option Rho) (key elt : Rho → RE) : List D → Rho → List D → List D → RE
  | [], r, ks, vs => .ok (.val (.dct true ks vs)) r
  | d :: ds, r, ks, vs => match bd d r with
    | none => .stuck
    | some r1 => match it1 r1 with
      | .ok es r2 => match dcIn vs1 bd1 key elt es (wipeR r2 vs1) ks vs with
        | some q => dcOut own vs1 bd it1 bd1 key elt ds (wipeR q.1 own) q.2.1 q.2.2
        | none => .stuck
      | _ => .stuck
/-- len({k: True for ..}), the keys tuples: how many keys -/
def ndGo (own : List Nat) (bd : D → Rho → Option Rho) (key elt : Rho → RE) : List D → Rho → List NestedKey → RE
  | [], r, ks => .ok (.val (.int (ks.length : Nat))) r
  | d :: ds, r, ks => match bd d r with
    | none => .stuck
    | some r1 => match (key r1).get fun x r2 => .ok (.val x) r2 with
      | .ok (.val k) r2 => match elt r2 with
        | .ok (.val (.bl true)) r3 => match nkT k with
          | some nk => if ks.length < sizeLine then ndGo own bd key elt ds (wipeR r3 own) (if ks.any (fun j => decide (j = nk)) then ks else ks ++ [nk]) else .stuck
          | none => .stuck
        | _ => .stuck
      | _ => .stuck

def kindD : D → Option Ty
  | .str _ => some .str
  | .tup _ => some .tuple
  | .lst _ _ => some .list
  | _ => none
def okBm : BM → Ty → Bool
  | .join, .str => true
  | .index, .tuple => true
  | .index, .list => true
  | _, _ => false

section
variable (P : Phi)
mutual
def evalE : IE → Rho → RE
  | .c d, r => .ok (.val d) r
  | .v i, r => match getS r i with
    | some d => .ok (.val d.frz) (if d.own then r.set i (some d.frz) else r)
    | none => .stuck
  | .b i, r => match getS r i with
    | some _ => .ok (.slot i) r
    | none => .stuck
  | .mv i, r => match getS r i with
    | some d => .ok (.val d) (r.set i none)
    | none => .stuck
  | .tup es, r => match evalL es r with
    | .ok ds r1 => if ds.length ≤ sizeLine then .ok (.val (.tup ds)) r1 else .stuck
    | .err k r1 => .err k r1
    | .stuck => .stuck
  | .lst es, r => match evalL es r with
    | .ok ds r1 => if ds.length ≤ sizeLine then .ok (.val (.lst true ds)) r1 else .stuck
    | .err k r1 => .err k r1
    | .stuck => .stuck
  | .dnew, r => .ok (.val (.dct true [] [])) r
  | .op o x y, r => (evalE x r).od fun a r1 => (evalE y r1).od fun b r2 => match a.get r2, b.get r2 with
    | some u, some w => optE (opD o u w) r2
    | _, _ => .stuck
  | .ch o p x y z, r => (evalE x r).od fun a r1 => (evalE y r1).od fun b r2 => match a.get r2, b.get r2 with
    | some u, some w => match opD o u w with
      | some (.bl true) => (evalE z r2).od fun c r3 => match b.get r3, c.get r3 with
        | some w, some q => optE (opD p w q) r3
        | _, _ => .stuck
      | some (.bl false) => .ok (.val (.bl false)) r2
      | _ => .stuck
    | _, _ => .stuck
  | .neg x, r => (evalE x r).get fun d r1 => match d with
    | .int i => .ok (.val (.int (-i))) r1
    | _ => .stuck
  | .not_ x, r => (evalE x r).get fun d r1 => match d with
    | .bl b => .ok (.val (.bl (!b))) r1
    | _ => .stuck
  | .and_ x y, r => (evalE x r).get fun d r1 => match d with
    | .bl true => evalE y r1
    | .bl false => .ok (.val (.bl false)) r1
    | _ => .stuck
  | .or_ x y, r => (evalE x r).get fun d r1 => match d with
    | .bl true => .ok (.val (.bl true)) r1
    | .bl false => evalE y r1
    | _ => .stuck
  | .ite t x y, r => (evalE t r).get fun d r1 => match d with
    | .bl true => evalE x r1
    | .bl false => evalE y r1
    | _ => .stuck
  | .ix x y, r => (evalE x r).od fun a r1 => (evalE y r1).od fun b r2 => match a.get r2, b.get r2 with
    | some u, some w => optE (ixD u w) r2
    | _, _ => .stuck
  | .sl x lo hi, r => (evalE x r).od fun a r1 => match evalB lo r1 with
    | .ok lo r2 => match evalB hi r2 with
      | .ok hi r3 => match a.get r3 with
        | some u => optE (slD u lo hi) r3
        | none => .stuck
      | .err k r3 => .err k r3
      | .stuck => .stuck
    | .err k r2 => .err k r2
    | .stuck => .stuck
  | .call f es, r => match evalL es r with
    | .ok ds r1 => resE (P.fn f ds) r1
    | .err k r1 => .err k r1
    | .stuck => .stuck
  | .new k es, r => match evalL es r with
    | .ok ds r1 => resE (P.mkI k ds) r1
    | .err k r1 => .err k r1
    | .stuck => .stuck
  | .fld x f, r => (evalE x r).get fun d r1 => match d with
    | .ins _ _ ns ds => optE (lookN f ns ds) r1
    | _ => .stuck
  | .meth x m es, r => (evalE x r).val fun d r1 => match d with
    | .ins _ k ns vs => match P.mt k m with
      | some f => match evalL es r1 with
        | .ok ds r2 => resE (P.fn f (.ins false k ns vs :: ds)) r2
        | .err k r2 => .err k r2
        | .stuck => .stuck
      | none => .stuck
    | _ => .stuck
  | .bi b es, r => match evalO es r with
    | .ok os r1 => match getAll r1 os with
      | some ds => optE (biD b ds) r1
      | none => .stuck
    | .err k r1 => .err k r1
    | .stuck => .stuck
  | .isi x t, r => (evalE x r).get fun d r1 => match isTy d t with
    | some b => .ok (.val (.bl b)) r1
    | none => .stuck
  | .bm x m es, r => (evalE x r).od fun a r1 => match (a.get r1).bind kindD with
    | none => .stuck
    | some T => if okBm m T then match evalO es r1 with
        | .ok os r2 => match a.get r2, getAll r2 os with
          | some u, some ds => if kindD u = some T then optE (bmD m u ds) r2 else .stuck
          | _, _ => .stuck
        | .err k r2 => .err k r2
        | .stuck => .stuck
      else .stuck
  | .lc own tg it ifs x, r => match evalI it r with
    | .ok ds r1 => if freeR r1 own then
        match lcGo own (bindT tg) (fun r => evalT ifs r) (fun r => evalE x r) ds (wipeR r1 own) [] with
        | .ok o r2 => .ok o (backR r1 r2 own)
        | _ => .stuck
      else .stuck
    | .err k r1 => .err k r1
    | .stuck => .stuck
  | .dc own tg it ifs k x, r => match evalI it r with
    | .ok ds r1 => if freeR r1 own then
        match dcGo own (bindT tg) (fun r => evalT ifs r) (fun r => evalE k r) (fun r => evalE x r) ds (wipeR r1 own) [] [] with
        | .ok o r2 => .ok o (backR r1 r2 own)
        | _ => .stuck
      else .stuck
    | .err k r1 => .err k r1
    | .stuck => .stuck
  | .nd own tg it k x, r => match evalI it r with
    | .ok ds r1 => if freeR r1 own then
        match ndGo own (bindT tg) (fun r => evalE k r) (fun r => evalE x r) ds (wipeR r1 own) [] with
        | .ok o r2 => .ok o (backR r1 r2 own)
        | _ => .stuck
      else .stuck
    | .err k r1 => .err k r1
    | .stuck => .stuck
  | .un u x, r => (evalE x r).get fun d r1 => optE (unD u d) r1
  | .rgl tup es, r => match evalO es r with
    | .ok os r1 => match getAll r1 os with
      | some ds => match rangeD ds with
        | some l => if l.length ≤ sizeLine then .ok (.val (if tup then .tup l else .lst true l)) r1 else .stuck
        | none => .stuck
      | none => .stuck
    | .err k r1 => .err k r1
    | .stuck => .stuck
  | .dc2 own vs1 tg it tg1 it1 k x, r => match evalI it r with
    | .ok ds r1 => if freeR r1 own then
        match dcOut own vs1 (bindT tg) (fun r => evalI it1 r) (bindT tg1) (fun r => evalE k r) (fun r => evalE x r) ds (wipeR r1 own) [] [] with
        | .ok o r2 => .ok o (backR r1 r2 own)
        | _ => .stuck
      else .stuck
    | .err k r1 => .err k r1
    | .stuck => .stuck
/-- values, in order -/
def evalL : IEs → Rho → RL
  | .nil, r => .ok [] r
  | .cons x es, r => match evalE x r with
    | .ok (.val d) r1 => match evalL es r1 with
      | .ok ds r2 => .ok (d.frz :: ds) r2
      | .err k r2 => .err k r2
      | .stuck => .stuck
    | .ok (.slot _) _ => .stuck
    | .err k r1 => .err k r1
    | .stuck => .stuck
/-- a slice's bound -/
def evalB : IEs → Rho → RB
  | .nil, r => .ok none r
  | .cons x .nil, r => match evalE x r with
    | .ok o r1 => match o.get r1 with
      | some (.int i) => .ok (some i) r1
      | _ => .stuck
    | .err k r1 => .err k r1
    | .stuck => .stuck
  | .cons _ (.cons _ _), _ => .stuck
/-- operands, in order -/
def evalO : IEs → Rho → RO
  | .nil, r => .ok [] r
  | .cons x es, r => match evalE x r with
    | .ok o r1 => match evalO es r1 with
      | .ok os r2 => .ok (o :: os) r2
      | .err k r2 => .err k r2
      | .stuck => .stuck
    | .err k r1 => .err k r1
    | .stuck => .stuck
/-- a comprehension's test -/
def evalT : IEs → Rho → RE
  | .nil, r => .ok (.val (.bl true)) r
  | .cons x .nil, r => evalE x r
  | .cons _ (.cons _ _), _ => .stuck
def evalI : II → Rho → RL
  | .seq x, r => match evalE x r with
    | .ok (.val d) r1 => match itemsD d with
      | some ds => .ok ds r1
      | none => .stuck
    | .ok (.slot _) _ => .stuck
    | .err k r1 => .err k r1
    | .stuck => .stuck
  | .rng es, r => match evalO es r with
    | .ok os r1 => match getAll r1 os with
      | some ds => match rangeD ds with
        | some l => .ok l r1
        | none => .stuck
      | none => .stuck
    | .err k r1 => .err k r1
    | .stuck => .stuck
  | .zip es, r => match evalL es r with
    | .ok ds r1 => match zipK ds with
      | some l => .ok l r1
      | none => .stuck
    | .err k r1 => .err k r1
    | .stuck => .stuck
  | .enum es, r => match evalL es r with
    | .ok ds r1 => match enumK ds with
      | some l => .ok l r1
      | none => .stuck
    | .err k r1 => .err k r1
    | .stuck => .stuck
end

/-! ### statements -/
def putN (f : Nat) (x : D) : List Nat → List D → List Nat × List D
  | n :: ns, d :: ds => if n = f then (n :: ns, x :: ds) else let q := putN f x ns ds; (n :: q.1, d :: q.2)
  | _, _ => ([f], [x])
def isOwnL : Option D → Bool
  | some (.lst true _) => true
  | _ => false
def forGo (bd : D → Rho → Option Rho) (body : Rho → RS) : List D → Rho → RS
  | [], r => .nx r
  | d :: ds, r => match bd d r with
    | none => .stuck
    | some r1 => match body r1 with
      | .nx r2 => forGo bd body ds r2
      | .ct r2 => forGo bd body ds r2
      | .bk r2 => .nx r2
      | .rt d => .rt d
      | .er k r2 => .er k r2
      | .stuck => .stuck
def RE.tst (x : RE) (a b : Rho → RS) : RS := match x with
  | .ok o r => match o.get r with
    | some (.bl true) => a r
    | some (.bl false) => b r
    | _ => .stuck
  | .err k r => .er k r
  | .stuck => .stuck
def whlGo (tst : Rho → RE) (body : Rho → RS) : Nat → Rho → RS
  | 0, _ => .stuck
  | n + 1, r => (tst r).tst (fun r1 => match body r1 with
      | .nx r2 => whlGo tst body n r2
      | .ct r2 => whlGo tst body n r2
      | .bk r2 => .nx r2
      | .rt d => .rt d
      | .er k r2 => .er k r2
      | .stuck => .stuck) fun r1 => .nx r1
/-- slot i's list or dict gets d at a key -/
def putIx (i : Nat) (kev : Rho → RE) (d : D) (r : Rho) : RS := if (getS r i).isSome then match kev r with
    | .ok o r2 => match o.get r2, getS r2 i with
      | some kd, some c => match putD c kd d with
        | some c' => .nx (r2.set i (some c'))
        | none => .stuck
      | _, _ => .stuck
    | .err k r2 => .er k r2
    | .stuck => .stuck
  else .stuck
variable (fu : Nat)
mutual
def evalS : IS → Rho → RS
  | .asg k tg x, r => match evalE P x r with
    | .ok (.val d) r1 => match bindT tg (if k then d else d.frz) r1 with
      | some r2 => .nx r2
      | none => .stuck
    | .ok (.slot _) _ => .stuck
    | .err k r1 => .er k r1
    | .stuck => .stuck
  | .setf i f x, r => match evalE P x r with
    | .ok (.val d) r1 => match getS r1 i with
      | some (.ins true k ns ds) => if ns.length < 100 && P.fl k f && !odD d then .nx (r1.set i (some (.ins true k (putN f d.frz ns ds).1 (putN f d.frz ns ds).2))) else .stuck
      | _ => .stuck
    | .ok (.slot _) _ => .stuck
    | .err k r1 => .er k r1
    | .stuck => .stuck
  | .ex x, r => match evalE P x r with
    | .ok _ r1 => .nx r1
    | .err k r1 => .er k r1
    | .stuck => .stuck
  | .app i x, r => if isOwnL (getS r i) then match evalE P x r with
      | .ok (.val d) r1 => match getS r1 i with
        | some (.lst true ds) => if odD d = false ∧ ds.length < sizeLine then .nx (r1.set i (some (.lst true (ds ++ [d.frz])))) else .stuck
        | _ => .stuck
      | .ok (.slot _) _ => .stuck
      | .err k r1 => .er k r1
      | .stuck => .stuck
    else .stuck
  | .par k1 k2 i j xs, r => match evalO P xs r with
    | .ok [.val d1, .val d2] r1 => if i ≠ j ∧ i < r1.length ∧ j < r1.length ∧ (k1 = true ∨ odD d1 = false) ∧ (k2 = true ∨ odD d2 = false) then .nx ((r1.set i (some (if k1 then d1 else d1.frz))).set j (some (if k2 then d2 else d2.frz))) else .stuck
    | .ok _ _ => .stuck
    | .err k r1 => .er k r1
    | .stuck => .stuck
  | .put2 i j k1 k2 x, r => match evalE P x r with
    | .ok (.val d) r1 => match d with
      | .tup [d1, d2] => match putIx i (fun r => evalE P k1 r) d1 r1 with
        | .nx r2 => putIx j (fun r => evalE P k2 r) d2 r2
        | q => q
      | _ => .stuck
    | .ok (.slot _) _ => .stuck
    | .err k r1 => .er k r1
    | .stuck => .stuck
  | .put i k x, r => match evalE P x r with
    | .ok (.val d) r1 => if (getS r1 i).isSome && !odD d then match evalE P k r1 with
        | .ok o r2 => match o.get r2, getS r2 i with
          | some kd, some c => match putD c kd d.frz with
            | some c' => .nx (r2.set i (some c'))
            | none => .stuck
          | _, _ => .stuck
        | .err k r2 => .er k r2
        | .stuck => .stuck
      else .stuck
    | .ok (.slot _) _ => .stuck
    | .err k r1 => .er k r1
    | .stuck => .stuck
  | .if_ t a b, r => (evalE P t r).tst (fun r1 => evalSs a r1) fun r1 => evalSs b r1
  | .for_ tg it b, r => match evalI P it r with
    | .ok ds r1 => forGo (bindT tg) (fun r => evalSs b r) ds r1
    | .err k r1 => .er k r1
    | .stuck => .stuck
  | .whl t b, r => whlGo (fun r => evalE P t r) (fun r => evalSs b r) fu r
  | .ret x, r => match evalE P x r with
    | .ok (.val d) _ => .rt d
    | .ok (.slot _) _ => .stuck
    | .err k r1 => .er k r1
    | .stuck => .stuck
  | .raise k, r => .er k r
  | .tryA b k j i d1 d2, r => match evalSs b r with
    | .er e r1 => if P.ia && decide (i < r1.length) then (if P.sub e k then .rt (if P.sub e j then d1 else d2) else .er e r1) else .stuck
    | q => q
  | .try_ b hs, r => match evalSs b r with
    | .er k r1 => evalH hs k r1
    | q => q
  | .brk, r => .bk r
  | .cnt, r => .ct r
def evalSs : ISs → Rho → RS
  | .nil, r => .nx r
  | .cons s ss, r => match evalS s r with
    | .nx r1 => evalSs ss r1
    | q => q
def evalH : IHs → Nat → Rho → RS
  | .nil, k, r => .er k r
  | .cons k' b hs, k, r => if P.sub k k' then evalSs b r else evalH hs k r
end
/-- a def's call: its arguments, so many slots -/
def runF (n : Nat) (b : ISs) (ds : List D) : R :=
  match evalSs P fu b (ds.map some ++ List.replicate (n - ds.length) none) with
  | .nx _ => .ok .non
  | .rt d => .ok d
  | .er k _ => .err k
  | _ => .stuck
/-- an instance made: __init__ at its slot 0 -/
def runI (k n : Nat) (b : ISs) (ds : List D) : R :=
  match evalSs P fu b (some (.ins true k [] []) :: (ds.map some ++ List.replicate (n - 1 - ds.length) none)) with
  | .nx r => match getS r 0 with
    | some (.ins true k ns vs) => .ok (.ins true k ns vs)
    | _ => .stuck
  | .er k _ => .err k
  | _ => .stuck
end

/-! ## programs -/
structure FnI where
  params : Nat
  slots : Nat
  body : ISs
structure ClI where
  init : FnI
  meths : List (Nat × Nat)
structure Prg where
  fns : List FnI
  cls : List (Nat × ClI)
  sub : Nat → Nat → Bool
  fl : Nat → Nat → Bool
  fuel : Nat
  ia : Bool := false
def Prg.phi (p : Prg) : Nat → Phi
  | 0 =>
    { fn := fun _ _ => .stuck
      mkI := fun _ _ => .stuck
      mt := fun k m => (p.cls.lookup k).bind fun ci => ci.meths.lookup m
      sub := p.sub
      fl := p.fl
      ia := p.ia }
  | n + 1 =>
    { fn := fun f ds => match p.fns[f]? with
        | some fi => if ds.length = fi.params then runF (p.phi n) p.fuel fi.slots fi.body ds else .stuck
        | none => .stuck
      mkI := fun k ds => match p.cls.lookup k with
        | some ci => if ds.length + 1 = ci.init.params then runI (p.phi n) p.fuel k ci.init.slots ci.init.body ds else .stuck
        | none => .stuck
      mt := fun k m => (p.cls.lookup k).bind fun ci => ci.meths.lookup m
      sub := p.sub
      fl := p.fl
      ia := p.ia }
end GF
namespace GF
open PySem

/-! ## from the text to the language -/
/-- what a name of the module stands for -/
inductive GK where
  | fn (f : Nat)
  | cls (k : Nat)
  | con (d : D)
  | exc (k : Nat)
structure CC where
  N : List Str
  self : Bool
  T : List (Str × GK)
  F : List (Str × Nat)
  M : List (Str × Nat)
  B : List Str
  mu : List Str := []
  fz : List (Nat × Nat) := []
def ixS : List Str → Str → Option Nat
  | [], _ => none
  | y :: ys, x => if y = x then some 0 else (ixS ys x).map (· + 1)
def visK (sc : Scope) (x : Str) : Bool := match sc.names.lookup x with
  | some .local => true
  | some .cell => true
  | some .free => true
  | _ => false
def locK (sc : Scope) (x : Str) : Bool := match sc.names.lookup x with
  | some .local => true
  | some .cell => true
  | _ => false
def gloK (sc : Scope) (x : Str) : Bool := match sc.names.lookup x with
  | some .globalImplicit => true
  | _ => false
def notDbg (x : Str) : Bool := !(x == ("__debug__" : Str)) && !(x == ("__classdict__" : Str))
def opOf : Operator → Option Op
  | .Add => some .add
  | .Sub => some .sub
  | .Mult => some .mul
  | .Mod => some .mod
  | .Pow => some .pow
  | .FloorDiv => some .fdiv
  | _ => none
def cmpOf : CmpOp → Op
  | .Eq => .eq
  | .NotEq => .ne
  | .Lt => .lt
  | .LtE => .le
  | .Gt => .gt
  | .GtE => .ge
  | .Is => .is_
  | .IsNot => .isnot
  | .In => .isin
  | .NotIn => .notin
def biOf : List (Str × BI) := [("len", .len), ("int", .int), ("abs", .abs), ("tuple", .tuple), ("list", .list), ("all", .all), ("any", .any), ("sum", .sum), ("min", .min), ("max", .max), ("sorted", .sorted)]
def tyOf : List (Str × Ty) := [("int", .int), ("str", .str), ("bool", .bool), ("tuple", .tuple), ("list", .list), ("dict", .dict)]
def bmOf : List (Str × BM) := [("join", .join), ("index", .index), ("count", .count)]
def cL (f : Expr → Option IE) : List Expr → Option IEs
  | [] => some .nil
  | e :: es => match f e, cL f es with
    | some x, some r => some (.cons x r)
    | _, _ => none
def cO (f : Expr → Option IE) : Option Expr → Option IEs
  | none => some .nil
  | some e => (f e).map fun x => .cons x .nil

section
variable (C : CC)
mutual
def cT (sc : Scope) : Expr → Option Tg
  | .Name x _ => if locK sc x then (ixS C.N x).map .n else none
  | .Tuple es _ _ => (cTs sc es).map .t
  | _ => none
def cTs (sc : Scope) : List Expr → Option Tgs
  | [] => some .nil
  | e :: es => match cT sc e, cTs sc es with
    | some x, some r => some (.cons x r)
    | _, _ => none
end
/-- a comprehension's own names, by their slots -/
def ownOf (N : List Str) : List (Str × NameKind) → List (Str × Nat)
  | [] => []
  | (x, k) :: r => match k, ixS N x with
    | .local, some i => (x, i) :: ownOf N r
    | .cell, some i => (x, i) :: ownOf N r
    | _, _ => ownOf N r
def isBase : Expr → Bool
  | .Name .. => true
  | .Attribute .. => true
  | .Subscript .. => true
  | .Constant .. => true
  | .Call _ (_ :: _) _ _ => true
  | _ => false
variable (rec : Scope → Bool → Expr → Option IE)
def cName (sc : Scope) (md : Bool) (x : Str) : Option IE :=
  if notDbg x then
    if visK sc x then (ixS C.N x).map fun i => if md then .b i else .v i
    else if gloK sc x then match C.T.lookup x with
      | some (.con d) => some (.c d)
      | _ => none
    else none
  else none
def cConst : Const → Option IE
  | .none => some (.c .non)
  | .bool b => some (.c (.bl b))
  | .int i => some (.c (.int i))
  | .str s => some (.c (.str s))
  | _ => none
def cCallN (sc : Scope) (x : Str) (es : List Expr) : Option IE :=
  if gloK sc x && notDbg x then
    match C.T.lookup x with
    | some (.fn f) => match es with
      | [] => none
      | _ :: _ => (cL (rec sc false) es).map (.call f)
    | some (.cls k) => match es with
      | [] => none
      | _ :: _ => (cL (rec sc false) es).map (.new k)
    | some _ => none
    | none => if !C.B.contains x then none else if x = "isinstance" then
        match es with
        | [a, .Name t _] => if gloK sc t && notDbg t && C.B.contains t then
            match tyOf.lookup t, rec sc true a with
            | some t, some a => some (.isi a t)
            | _, _ => none
          else none
        | _ => none
      else match biOf.lookup x, es with
        | some _, [] => none
        | some b, _ :: _ => (cL (rec sc true) es).map (.bi b)
        | none, _ => none
  else none
def cCallA (sc : Scope) (o : Expr) (m : Str) (apos pos : Pos) (es : List Expr) : Option IE :=
  if isBase o && apos.endLine == pos.line && decide (es.length < 30) then
    match bmOf.lookup m with
    | some bm => match rec sc true o, es with
      | some a, [e] => (cL (rec sc true) [e]).map (.bm a bm)
      | _, _ => none
    | none => match C.M.lookup m, rec sc false o, es with
      | some k, some a, _ :: _ => (cL (rec sc false) es).map (.meth a k)
      | _, _, _ => none
  else none
def cI (sc : Scope) (e : Expr) : Option II := match e with
  | .Call (.Name x _) es [] _ =>
    if gloK sc x && notDbg x && C.B.contains x && (x = "range" || x = "zip" || x = "enumerate") then
      if x = "range" then match es with
        | [_] => (cL (rec sc true) es).map .rng
        | [_, _] => (cL (rec sc true) es).map .rng
        | [_, _, _] => (cL (rec sc true) es).map .rng
        | _ => none
      else if x = "zip" then match es with
        | [_, _] => (cL (rec sc false) es).map .zip
        | _ => none
      else match es with
        | [_] => (cL (rec sc false) es).map .enum
        | _ => none
    else (rec sc false e).map .seq
  | .Set .. => none
  | e => (rec sc false e).map .seq
def cLC (sc : Scope) (elt : Expr) (gens : List Comprehension) (scope : Scope) : Option IE := match gens with
  | [⟨tg, it, ifs, 0⟩] =>
    let own := ownOf C.N scope.names
    if L2.blkC C.N sc scope own then
      match cI C rec sc it, cT C scope tg, rec scope false elt with
      | some i, some t, some x => if !(tgIn (own.map (·.2)) t && okTg t i) then none else match ifs with
        | [] => some (.lc (own.map (·.2)) t i .nil x)
        | [c] => (rec scope true c).map fun c => .lc (own.map (·.2)) t i (.cons c .nil) x
        | _ => none
      | _, _, _ => none
    else none
  | _ => none
def cDC (sc : Scope) (kx vx : Expr) (gens : List Comprehension) (scope : Scope) : Option IE := match gens with
  | [⟨tg, it, ifs, 0⟩] =>
    let own := ownOf C.N scope.names
    if L2.blkC C.N sc scope own then
      match cI C rec sc it, cT C scope tg, rec scope true kx, rec scope false vx with
      | some i, some t, some k, some x => if !(tgIn (own.map (·.2)) t && okTg t i) then none else match ifs with
        | [] => some (.dc (own.map (·.2)) t i .nil k x)
        | [c] => (rec scope true c).map fun c => .dc (own.map (·.2)) t i (.cons c .nil) k x
        | _ => none
      | _, _, _, _ => none
    else none
  | _ => none
/-- two fors, no ifs -/
def cDC2 (sc : Scope) (kx vx : Expr) (gens : List Comprehension) (scope : Scope) : Option IE := match gens with
  | [⟨tg, it, [], 0⟩, ⟨tg1, it1, [], 0⟩] =>
    let own := ownOf C.N scope.names
    if L2.blkC C.N sc scope own then
      match cI C rec sc it, cT C scope tg, cI C rec scope it1, cT C scope tg1, rec scope true kx, rec scope false vx with
      | some i, some t, some i1, some t1, some k, some x =>
        if tgIn (own.map (·.2)) t && okTg t i && tgIn (tgS t1) t1 && okTg t1 i1 && (tgS t1).all (own.map (·.2)).contains then some (.dc2 (own.map (·.2)) (tgS t1) t i t1 i1 k x) else none
      | _, _, _, _, _, _ => none
    else none
  | _ => none
/-- len({k: True for ..}), the keys tuples -/
def ndOf (x : Str) (es : List Expr) : Option (Expr × Expr × List Comprehension × Scope) := match es with
  | [.DictComp (.Name y p) vx gens scope _] => if x = "len" ∧ y = "rule" then some (.Name y p, vx, gens, scope) else none
  | _ => none
def cND (sc : Scope) (a : Expr × Expr × List Comprehension × Scope) : Option IE := if gloK sc "len" && C.B.contains ("len" : Str) then
    match cDC C rec sc a.1 a.2.1 a.2.2.1 a.2.2.2 with
    | some (.dc own t i .nil k x) => some (.nd own t i k x)
    | _ => none
  else none
/-- forms of one kind: what is asked of, the built-ins that it names -/
def unOf : Expr → Option (Un × Expr × List Str)
  | .Call (.Name x _) [.Call (.Attribute o m apos) [] [] cpos] [] _ => if x = "sorted" ∧ m = "items" ∧ isBase o = true ∧ (apos.endLine == cpos.line) = true then some (.sitems, o, ["sorted"]) else none
  | .Call (.Name x _) [.Call (.Name y _) [a] [] _] [] _ => if x = "len" ∧ y = "set" then some (.lset, a, ["len", "set"]) else none
  | .Subscript e (.Slice none none (some (.UnaryOp .USub (.Constant (.int 1) _ _) _)) _) _ => some (.rev, e, [])
  | _ => none
def cUn (sc : Scope) (a : Un × Expr × List Str) : Option IE := if a.2.2.all (fun x => gloK sc x && C.B.contains x) then (rec sc true a.2.1).map (.un a.1) else none
/-- list(range(..)), tuple(range(..)) -/
def rgOf : Expr → Option (Bool × List Expr)
  | .Call (.Name x _) [.Call (.Name y _) es [] _] [] _ => if y = "range" then if x = "list" then some (false, es) else if x = "tuple" then some (true, es) else none else none
  | _ => none
def cRg (sc : Scope) (a : Bool × List Expr) : Option IE := if gloK sc (if a.1 then "tuple" else "list") && C.B.contains (if a.1 then "tuple" else "list") && gloK sc "range" && C.B.contains ("range" : Str) then
    match a.2 with
    | [_] => (cL (rec sc true) a.2).map (.rgl a.1)
    | [_, _] => (cL (rec sc true) a.2).map (.rgl a.1)
    | [_, _, _] => (cL (rec sc true) a.2).map (.rgl a.1)
    | _ => none
  else none
def cE0 (sc : Scope) (md : Bool) (e : Expr) : Option IE := match e with
  | .Constant c _ _ => cConst c
  | .Name x _ => cName C sc md x
  | .Tuple es _ _ => (cL (rec sc false) es).map .tup
  | .List es _ => (cL (rec sc false) es).map .lst
  | .Dict [] [] _ => some .dnew
  | .BinOp a op b _ => match opOf op, rec sc true a, rec sc true b with
    | some o, some x, some y => some (.op o x y)
    | _, _, _ => none
  | .UnaryOp .USub a _ => (rec sc true a).map .neg
  | .UnaryOp .Not a _ => (rec sc true a).map .not_
  | .BoolOp _ [a] _ => rec sc md a
  | .BoolOp .And (a :: b :: r) p => match rec sc true a, rec sc md (.BoolOp .And (b :: r) p) with
    | some x, some y => some (.and_ x y)
    | _, _ => none
  | .BoolOp .Or (a :: b :: r) p => match rec sc true a, rec sc md (.BoolOp .Or (b :: r) p) with
    | some x, some y => some (.or_ x y)
    | _, _ => none
  | .IfExp t a b _ => match rec sc true t, rec sc md a, rec sc md b with
    | some t, some x, some y => some (.ite t x y)
    | _, _, _ => none
  | .Compare a [o] [b] _ => if behindInMarks o b then none else match rec sc true a, rec sc true b with
    | some x, some y => some (.op (cmpOf o) x y)
    | _, _ => none
  | .Compare a [o, o'] [b, c] _ => if behindInMarks o' c then none else match rec sc true a, rec sc true b, rec sc true c with
    | some x, some y, some z => some (.ch (cmpOf o) (cmpOf o') x y z)
    | _, _, _ => none
  | .Subscript a (.Slice lo hi none _) _ => match rec sc true a, cO (rec sc true) lo, cO (rec sc true) hi with
    | some x, some lo, some hi => some (.sl x lo hi)
    | _, _, _ => none
  | .Subscript _ (.Slice _ _ (some _) _) _ => none
  | .Subscript a b _ => match rec sc true a, rec sc true b with
    | some x, some y => some (.ix x y)
    | _, _ => none
  | .Attribute o f _ => if isBase o then match rec sc true o, C.F.lookup f with
      | some x, some f => some (.fld x f)
      | _, _ => none
    else none
  | .Call (.Name x _) es [] _ => match ndOf x es with
    | some a => cND C rec sc a
    | none => cCallN C rec sc x es
  | .Call (.Attribute o m apos) es [] pos => cCallA C rec sc o m apos pos es
  | .ListComp elt gens scope _ => cLC C rec sc elt gens scope
  | .DictComp kx vx gens scope _ => match gens with
    | [_, _] => cDC2 C rec sc kx vx gens scope
    | _ => cDC C rec sc kx vx gens scope
  | _ => none
def cE1 (sc : Scope) (md : Bool) (e : Expr) : Option IE := match unOf e with
  | some a => cUn C rec sc a
  | none => match rgOf e with
    | some a => cRg C rec sc a
    | none => cE0 C rec sc md e
end
def cE (C : CC) : Nat → Scope → Bool → Expr → Option IE
  | 0 => fun _ _ _ => none
  | n + 1 => cE1 C (cE C n)

section
variable (C : CC) (ce : Bool → Expr → Option IE) (ci : Expr → Option II) (sc : Scope)
variable (rec : Stmt → Option ISs)
def one (s : IS) : ISs := .cons s .nil
def appS : ISs → ISs → ISs
  | .nil, r => r
  | .cons x a, r => .cons x (appS a r)
/-- known from now on: what is not changed any more -/
def addF : List Nat → ISs → ISs
  | [], a => a
  | i :: l, a => .cons (.ex (.v i)) (addF l a)
/-- a block -/
def cB : List Stmt → Option ISs
  | [] => some .nil
  | s :: ss => match rec s, cB ss with
    | some a, some r => some (appS a r)
    | _, _ => none
def cRet (e : Expr) : Option IE := match e with
  | .Name x _ => if visK sc x && notDbg x then (ixS C.N x).map .mv else ce false e
  | _ => ce false e
def msgOk : List Expr → Bool
  | [.Constant (.str _) _ _] => true
  | _ => false
def cRaise (e : Expr) : Option Nat := match e with
  | .Call (.Name x _) es [] _ => if gloK sc x && notDbg x && msgOk es then match C.T.lookup x with
      | some (.exc k) => some k
      | _ => none
    else none
  | _ => none
/-- an except suite: one plain statement -/
def cSu : List Stmt → Option ISs
  | [.Return none _] => some (one (.ret (.c .non)))
  | [.Return (some (.Constant c _ _)) _] => (cConst c).map fun x => one (.ret x)
  | [.Pass _] => some .nil
  | [.Break _] => some (one .brk)
  | [.Continue _] => some (one .cnt)
  | _ => none
def cHs : List ExceptHandler → Option IHs
  | [] => some .nil
  | .ExceptHandler (some (.Name x _)) none (b :: bs) _ :: r => if gloK sc x && notDbg x then match C.T.lookup x, cSu (b :: bs), cHs r with
      | some (.exc k), some ss, some hs => some (.cons k ss hs)
      | _, _, _ => none
    else none
  | _ => none
/-- whether what is stored may be changed later -/
def keepT (C : CC) : Tg → Bool
  | .n i => match C.N[i]? with
    | some x => C.mu.contains x
    | none => false
  | .t _ => false
def isTup : Expr → Bool
  | .Tuple .. => true
  | _ => false
def isSl : Expr → Bool
  | .Slice .. => true
  | _ => false
def isLC : Expr → Bool
  | .ListComp .. => true
  | .DictComp .. => true
  | _ => false
def cPar (t e : Expr) : Option ISs := match t, e with
  | .Tuple [.Name x px, .Name y py] _ _, .Tuple [a, b] _ _ => match ixS C.N x, ixS C.N y, cL (ce false) [a, b] with
    | some i, some j, some irs => if sc.names.lookup x = some .local ∧ sc.names.lookup y = some .local ∧ py.line = px.line ∧ x ≠ y ∧ i ≠ j ∧ (foldedForSure 8 a && foldedForSure 8 b) = false ∧ (constantsAlone 8 a && constantsAlone 8 b) = false ∧ (C.self = true → i ≠ 0 ∧ j ≠ 0) then
        some (one (.par (keepT C (.n i)) (keepT C (.n j)) i j irs)) else none
    | _, _, _ => none
  | _, _ => none
def cPut2 (t e : Expr) : Option ISs := match t, e with
  | .Tuple [.Subscript (.Name x _) k1 _, .Subscript (.Name y _) k2 _] _ _, .Tuple [a, b] _ _ => if isSl k1 || isSl k2 then none else match (if visK sc x && notDbg x then ixS C.N x else none), (if visK sc y && notDbg y then ixS C.N y else none), ce true k1, ce true k2, ce false e with
    | some i, some j, some u, some w, some z => some (one (.put2 i j u w z))
    | _, _, _, _, _ => none
  | _, _ => none
/-- return isinstance(e, Y) | return c if isinstance(e, Y) else d -/
def suA (n : Str) : List Stmt → Option (Str × D × D)
  | [.Return (some (.Call (.Name x _) [.Name e _, .Name y _] [] _)) _] => if x = "isinstance" ∧ e = n then some (y, .bl true, .bl false) else none
  | [.Return (some (.IfExp (.Call (.Name x _) [.Name e _, .Name y _] [] _) (.Constant c _ _) (.Constant d _ _) _)) _] => if x = "isinstance" ∧ e = n then match cConst c, cConst d with
      | some (.c c), some (.c d) => some (y, c, d)
      | _, _ => none
    else none
  | _ => none
def excK (x : Str) : Option Nat := if gloK sc x && notDbg x then match C.T.lookup x with
    | some (.exc k) => some k
    | _ => none
  else none
def cTryA (b : ISs) : List ExceptHandler → Option ISs
  | [.ExceptHandler (some (.Name x _)) (some n) su _] => match suA n su with
    | some (y, d1, d2) => if sc.names.lookup n = some .local ∧ gloK sc "isinstance" = true ∧ C.B.contains ("isinstance" : Str) = true ∧ (C.self = true → ixS C.N n ≠ some 0) ∧ notDbg n = true then match excK C sc x, excK C sc y, ixS C.N n with
        | some k, some j, some i => some (one (.tryA b k j i d1 d2))
        | _, _, _ => none
      else none
    | none => none
  | _ => none
def cS1 (s : Stmt) : Option ISs := match s with
  | .Assign [.Attribute (.Name x _) f _] e _ => match (if visK sc x && notDbg x then ixS C.N x else none), C.F.lookup f, ce false e with
    | some i, some f, some y => some (one (.setf i f y))
    | _, _, _ => none
  | .Assign [.Subscript (.Name x _) k _] e _ => if isSl k || isLC e then none else match (if visK sc x && notDbg x then ixS C.N x else none), ce true k, ce false e with
    | some i, some y, some z => some (one (.put i y z))
    | _, _, _ => none
  | .Assign [t] e _ => if isTup t && isTup e then match cPut2 C ce sc t e with
      | some y => some y
      | none => cPar C ce sc t e
    else match cT C sc t, ce false e with
    | some t, some y => if C.self && (tgS t).contains 0 then none else some (one (.asg (keepT C t) t y))
    | _, _ => none
  | .Expr (.Call (.Attribute (.Name x _) m apos) es [] pos) _ =>
    if m = "append" && apos.endLine == pos.line then match (if visK sc x && notDbg x then ixS C.N x else none), es with
      | some i, [e] => (ce false e).map fun y => one (.app i y)
      | _, _ => none
    else none
  | .Expr e _ => if isLC e then none else (ce true e).map fun y => one (.ex y)
  | .If t a b _ => match ce true t, cB rec a, cB rec b with
    | some t, some a, some b => some (one (.if_ t a b))
    | _, _, _ => none
  | .For tg it b [] _ => match cT C sc tg, ci it, cB rec b with
    | some t, some i, some b => if okTg t i && !(C.self && (tgS t).contains 0) then some (one (.for_ t i b)) else none
    | _, _, _ => none
  | .While t b [] _ => match ce true t, cB rec b with
    | some t, some b => some (one (.whl t b))
    | _, _ => none
  | .Return none _ => some (one (.ret (.c .non)))
  | .Return (some e) _ => (cRet C ce sc e).map fun y => one (.ret y)
  | .Raise (some e) none _ => (cRaise C sc e).map fun k => one (.raise k)
  | .Try b (h :: hs) [] [] _ => match cB rec b with
    | some b => match cTryA C sc b (h :: hs) with
      | some y => some y
      | none => match cHs C sc (h :: hs) with
        | some hs => some (one (.try_ b hs))
        | none => none
    | none => none
  | .Pass _ => some .nil
  | .Break _ => some (one .brk)
  | .Continue _ => some (one .cnt)
  | _ => none
end
def cS (C : CC) (m : Nat) (sc : Scope) : Nat → Stmt → Option ISs
  | 0 => fun _ => none
  | n + 1 => fun s => (cS1 C (cE C m sc) (cI C (cE C m) sc) sc (cS C m sc n) s).map (addF (C.fz.filterMap fun p => if p.1 = s.pos.line then some p.2 else none))
/-- a def's body -/
def cBody (C : CC) (sc : Scope) (b : List Stmt) : Option ISs := cB (cS C 30 sc 12) b
end GF
namespace GF
open PySem L2

/-! ## data in the heap -/
/-- what the classes are: their addresses, their fields' names -/
structure Cl where
  ad : Nat → Option Addr
  fn : Nat → Str
  hf : Nat → Nat → Bool
/-- a tuple, its object known as far as that it has no dict of its own -/
def SqX (K : PySem.W.Frag) (G : Hp) (a : Addr) (xs : List V) : Prop :=
  (∃ o, G a = some (.frz o (.tup xs)) ∧ o.dict = none) ∨
    ∃ (o : Obj) (its : Array Value) (n : Nat), K.lookup a = some o ∧ o.cls = .type "tuple" ∧ o.dict = none ∧ o.data = .seq its n ∧ its.size ≤ sizeLine ∧ Vals xs its.toList
theorem SqX.t {K : PySem.W.Frag} {G : Hp} {a : Addr} {xs : List V} (h : SqX K G a xs) : SqT K G a xs := by
  rcases h with ⟨o, h, _⟩ | ⟨o, its, n, h1, h2, _, h3⟩
  · exact .inl (.inr ⟨o, h⟩)
  · exact .inr ⟨o, its, n, h1, h2, h3⟩
theorem SqX.mono {K : PySem.W.Frag} {G G' : Hp} {a : Addr} {xs : List V} (e : Same G G') (h : SqX K G a xs) : SqX K G' a xs := by
  rcases h with ⟨o, h, hd⟩ | h
  · exact .inl ⟨o, e _ _ h, hd⟩
  · exact .inr h
section
variable (K : PySem.W.Frag) (cl : Cl)
mutual
/-- nobody changes it: it stands in G for good -/
def RepF (G : Hp) : D → V → Prop
  | .non, v => v = .non
  | .bl b, v => v = .bl b
  | .int i, v => v = .int i
  | .str s, v => v = .str s
  | .tup ds, v => ∃ a vs, v = .ref a ∧ SqX K G a vs ∧ RepFs G ds vs
  | .lst o ds, v => o = false ∧ ∃ a vs, v = .ref a ∧ SqL K G a vs ∧ RepFs G ds vs
  | .dct o ks ds, v => o = false ∧ ∃ a ob kvs vs, v = .ref a ∧ G a = some (.frz ob (.dK kvs)) ∧ keysD ks = some (kvs.map (·.1)) ∧ vs = kvs.map (·.2) ∧ RepFs G ds vs
  | .ins o k ns ds, v => o = false ∧ ∃ a C dx vs, v = .ref a ∧ cl.ad k = some C ∧ G a = some (.ins C dx ((ns.map cl.fn).zip vs)) ∧ (ns.length = vs.length ∧ ns.all (cl.hf k) = true) ∧ RepFs G ds vs
def RepFs (G : Hp) : List D → List V → Prop
  | [], vs => vs = []
  | d :: ds, vs => ∃ v r, vs = v :: r ∧ RepF G d v ∧ RepFs G ds r
end
/-- its own addresses: f -/
def Rep (G H : Hp) : D → V → List Addr → Prop
  | .lst true ds, v, f => ∃ a vs, v = .ref a ∧ H a = some (.lst vs) ∧ RepFs K cl G ds vs ∧ f = [a]
  | .dct true ks ds, v, f => ∃ a kvs, v = .ref a ∧ H a = some (.dK kvs) ∧ keysD ks = some (kvs.map (·.1)) ∧ RepFs K cl G ds (kvs.map (·.2)) ∧ f = [a]
  | .ins true k ns ds, v, f => ∃ a C dx vs, v = .ref a ∧ cl.ad k = some C ∧ H a = some (.ins C dx ((ns.map cl.fn).zip vs)) ∧ (ns.length = vs.length ∧ ns.all (cl.hf k) = true) ∧ RepFs K cl G ds vs ∧ f = [a]
  | d, v, f => RepF K cl G d v ∧ f = []
def Slots (G H : Hp) : Rho → L2.St → List Addr → Prop
  | [], [], f => f = []
  | none :: r, _ :: s, f => Slots G H r s f
  | some d :: r, o :: s, f => ∃ v f1 f2, o = some v ∧ Rep K cl G H d v f1 ∧ Slots G H r s f2 ∧ f = f1 ++ f2
  | _, _, _ => False
end

section
variable {K : PySem.W.Frag} {cl : Cl} {G G' H H' : Hp}
theorem sqT_mono (e : Same G G') {a : Addr} {xs : List V} (h : SqT K G a xs) : SqT K G' a xs := by
  rcases h with (h | ⟨o, h⟩) | h
  · exact .inl (.inl (e _ _ h))
  · exact .inl (.inr ⟨o, e _ _ h⟩)
  · exact .inr h
theorem sqL_mono (e : Same G G') {a : Addr} {xs : List V} (h : SqL K G a xs) : SqL K G' a xs := e.seq h
theorem rd_mono {G G' : Hp} (e : Same G G') {a : Addr} {u : HO} (h : Rd G a u) : Rd G' a u := by
  rcases h with h | ⟨o, h⟩
  · exact .inl (e _ _ h)
  · exact .inr ⟨o, e _ _ h⟩
mutual
theorem RepF.mono (e : Same G G') : ∀ {d : D} {v : V}, RepF K cl G d v → RepF K cl G' d v
  | .non, _, h => h
  | .bl _, _, h => h
  | .int _, _, h => h
  | .str _, _, h => h
  | .tup ds, v, h => by
    unfold RepF at h ⊢
    obtain ⟨a, vs, h1, h2, h3⟩ := h
    exact ⟨a, vs, h1, h2.mono e, RepFs.mono e h3⟩
  | .lst o ds, v, h => by
    unfold RepF at h ⊢
    obtain ⟨ho, a, vs, h1, h2, h3⟩ := h
    exact ⟨ho, a, vs, h1, sqL_mono e h2, RepFs.mono e h3⟩
  | .dct o ks ds, v, h => by
    unfold RepF at h ⊢
    obtain ⟨ho, a, ob, kvs, vs, h1, h2, h3, h4, h5⟩ := h
    exact ⟨ho, a, ob, kvs, vs, h1, e _ _ h2, h3, h4, RepFs.mono e h5⟩
  | .ins o k ns ds, v, h => by
    unfold RepF at h ⊢
    obtain ⟨ho, a, C, dx, vs, h1, h2, h3, h4, h5⟩ := h
    exact ⟨ho, a, C, dx, vs, h1, h2, e _ _ h3, h4, RepFs.mono e h5⟩
theorem RepFs.mono (e : Same G G') : ∀ {ds : List D} {vs : List V}, RepFs K cl G ds vs → RepFs K cl G' ds vs
  | [], _, h => h
  | d :: ds, vs, h => by
    unfold RepFs at h ⊢
    obtain ⟨v, r, h1, h2, h3⟩ := h
    exact ⟨v, r, h1, RepF.mono e h2, RepFs.mono e h3⟩
end
theorem RepFs.len : ∀ {ds : List D} {vs : List V}, RepFs K cl G ds vs → ds.length = vs.length
  | [], _, h => by unfold RepFs at h; subst h; rfl
  | d :: ds, vs, h => by
    unfold RepFs at h
    obtain ⟨v, r, rfl, h2, h3⟩ := h
    simp [RepFs.len h3]
theorem RepFs.nil : RepFs K cl G [] [] := by unfold RepFs; rfl
theorem RepFs.cons {d : D} {ds : List D} {v : V} {vs : List V} (h : RepF K cl G d v) (h2 : RepFs K cl G ds vs) : RepFs K cl G (d :: ds) (v :: vs) := by
  unfold RepFs; exact ⟨v, vs, rfl, h, h2⟩
theorem RepFs.app : ∀ {ds es : List D} {vs us : List V}, RepFs K cl G ds vs → RepFs K cl G es us → RepFs K cl G (ds ++ es) (vs ++ us)
  | [], _, _, _, h, h2 => by unfold RepFs at h; subst h; exact h2
  | d :: ds, es, vs, us, h, h2 => by
    unfold RepFs at h
    obtain ⟨v, r, rfl, h3, h4⟩ := h
    exact RepFs.cons h3 (RepFs.app h4 h2)
theorem RepFs.take : ∀ {n : Nat} {ds : List D} {vs : List V}, RepFs K cl G ds vs → RepFs K cl G (ds.take n) (vs.take n)
  | 0, _, _, _ => by simp [RepFs]
  | n + 1, [], _, h => by unfold RepFs at h; subst h; simp [RepFs]
  | n + 1, d :: ds, vs, h => by
    unfold RepFs at h
    obtain ⟨v, r, rfl, h3, h4⟩ := h
    exact RepFs.cons h3 (RepFs.take h4)
theorem RepFs.drop : ∀ {n : Nat} {ds : List D} {vs : List V}, RepFs K cl G ds vs → RepFs K cl G (ds.drop n) (vs.drop n)
  | 0, _, _, h => h
  | n + 1, [], _, h => by unfold RepFs at h; subst h; simp [RepFs]
  | n + 1, d :: ds, vs, h => by
    unfold RepFs at h
    obtain ⟨v, r, rfl, h3, h4⟩ := h
    exact RepFs.drop (n := n) h4
theorem RepFs.get : ∀ {i : Nat} {ds : List D} {vs : List V} {d : D}, RepFs K cl G ds vs → ds[i]? = some d → ∃ v, vs[i]? = some v ∧ RepF K cl G d v
  | _, [], _, _, _, e => by simp at e
  | 0, x :: ds, vs, d, h, e => by
    unfold RepFs at h
    obtain ⟨v, r, rfl, h3, h4⟩ := h
    simp at e; subst e
    exact ⟨v, rfl, h3⟩
  | i + 1, x :: ds, vs, d, h, e => by
    unfold RepFs at h
    obtain ⟨v, r, rfl, h3, h4⟩ := h
    simpa using RepFs.get (i := i) h4 (by simpa using e)
theorem RepFs.set : ∀ {ds : List D} {vs : List V} {n : Nat} {d : D} {v : V}, RepFs K cl G ds vs → RepF K cl G d v → RepFs K cl G (ds.set n d) (vs.set n v)
  | [], vs, n, d, v, h, _ => by unfold RepFs at h; subst h; simp [RepFs]
  | e :: ds, vs, 0, d, v, h, hd => by
    unfold RepFs at h
    obtain ⟨w, r, rfl, h1, h2⟩ := h
    simp only [List.set_cons_zero]
    exact RepFs.cons hd h2
  | e :: ds, vs, n + 1, d, v, h, hd => by
    unfold RepFs at h
    obtain ⟨w, r, rfl, h1, h2⟩ := h
    simp only [List.set_cons_succ]
    exact RepFs.cons h1 (RepFs.set h2 hd)
theorem RepFs.flat : ∀ {n : Nat} {ds : List D} {vs : List V}, RepFs K cl G ds vs → RepFs K cl G (List.replicate n ds).flatten (List.replicate n vs).flatten
  | 0, _, _, _ => by simp [RepFs]
  | n + 1, ds, vs, h => by
    rw [List.replicate_succ, List.replicate_succ, List.flatten_cons, List.flatten_cons]
    exact RepFs.app h (RepFs.flat h)

theorem Rep.of_F {d : D} {v : V} (h : RepF K cl G d v) : Rep K cl G H d v [] := by
  cases d with
  | lst o ds =>
    cases o with
    | false => exact ⟨h, rfl⟩
    | true => unfold RepF at h; cases h.1
  | ins o k ns ds =>
    cases o with
    | false => exact ⟨h, rfl⟩
    | true => unfold RepF at h; cases h.1
  | dct o ks vs =>
    cases o with
    | false => exact ⟨h, rfl⟩
    | true => unfold RepF at h; cases h.1
  | _ => exact ⟨h, rfl⟩
theorem Rep.F {d : D} {v : V} {f : List Addr} (h : Rep K cl G H d v f) (ho : d.own = false) : RepF K cl G d v ∧ f = [] := by
  cases d with
  | lst o ds =>
    cases o with
    | false => exact h
    | true => cases ho
  | ins o k ns ds =>
    cases o with
    | false => exact h
    | true => cases ho
  | dct o ks vs =>
    cases o with
    | false => exact h
    | true => cases ho
  | _ => exact h
/-- one own address at most, and it stands -/
theorem Rep.one {d : D} {v : V} {f : List Addr} (h : Rep K cl G H d v f) : f = [] ∨ ∃ a o, f = [a] ∧ v = .ref a ∧ H a = some o := by
  cases d with
  | lst o ds =>
    cases o with
    | false => exact .inl h.2
    | true => obtain ⟨a, vs, h1, h2, _, h3⟩ := h; exact .inr ⟨a, _, h3, h1, h2⟩
  | ins o k ns ds =>
    cases o with
    | false => exact .inl h.2
    | true => obtain ⟨a, C, dx, vs, h1, _, h2, _, _, h3⟩ := h; exact .inr ⟨a, _, h3, h1, h2⟩
  | dct o ks vs =>
    cases o with
    | false => exact .inl h.2
    | true => obtain ⟨a, kvs, h1, h2, _, _, h3⟩ := h; exact .inr ⟨a, _, h3, h1, h2⟩
  | _ => exact .inl h.2
theorem Rep.nd {d : D} {v : V} {f : List Addr} (h : Rep K cl G H d v f) : f.Nodup := by
  rcases h.one with rfl | ⟨a, o, rfl, _⟩ <;> simp
theorem Rep.there {d : D} {v : V} {f : List Addr} (h : Rep K cl G H d v f) : ∀ a ∈ f, H a ≠ none := by
  rcases h.one with rfl | ⟨a, o, rfl, _, e⟩
  · simp
  · intro b hb
    simp at hb; subst hb
    rw [e]; simp
theorem Rep.keep {d : D} {v : V} {f : List Addr} (h : Rep K cl G H d v f) (e : Same G G') (k : ∀ a ∈ f, H' a = H a) : Rep K cl G' H' d v f := by
  cases d with
  | lst o ds =>
    cases o with
    | false => exact ⟨RepF.mono e h.1, h.2⟩
    | true =>
      obtain ⟨a, vs, h1, h2, h3, h4⟩ := h
      exact ⟨a, vs, h1, (k a (by simp [h4])).trans h2, RepFs.mono e h3, h4⟩
  | ins o k' ns ds =>
    cases o with
    | false => exact ⟨RepF.mono e h.1, h.2⟩
    | true =>
      obtain ⟨a, C, dx, vs, h1, h2, h3, h4, h5, h6⟩ := h
      exact ⟨a, C, dx, vs, h1, h2, (k a (by simp [h6])).trans h3, h4, RepFs.mono e h5, h6⟩
  | dct o ks vs =>
    cases o with
    | false => exact ⟨RepF.mono e h.1, h.2⟩
    | true =>
      obtain ⟨a, kvs, h1, h2, h3, h4, h5⟩ := h
      exact ⟨a, kvs, h1, (k a (by simp [h5])).trans h2, h3, RepFs.mono e h4, h5⟩
  | _ => exact ⟨RepF.mono e h.1, h.2⟩

/-- G with what H holds at f -/
def gHp (G H : Hp) (f : List Addr) : Hp := fun a => if a ∈ f then H a else G a
theorem gHp_same (hf : ∀ a ∈ f, G a = none) : Same G (gHp G H f) := fun a o e => by
  unfold gHp
  by_cases h : a ∈ f
  · rw [hf a h] at e; cases e
  · rw [if_neg h]; exact e
theorem gHp_in (gh : Same G H) : Same (gHp G H f) H := fun a o e => by
  unfold gHp at e
  by_cases h : a ∈ f
  · rw [if_pos h] at e; exact e
  · rw [if_neg h] at e; exact gh a o e
/-- from now on nobody changes it -/
theorem Rep.frz {d : D} {v : V} {f : List Addr} (hod : odD d = false) (h : Rep K cl G H d v f) (hf : ∀ a ∈ f, G a = none) : RepF K cl (gHp G H f) d.frz v := by
  have sg := gHp_same (G := G) (H := H) hf
  cases d with
  | lst o ds =>
    cases o with
    | false =>
      obtain ⟨h1, h2⟩ := h
      exact RepF.mono sg h1
    | true =>
      obtain ⟨a, vs, h1, h2, h3, h4⟩ := h
      show RepF K cl _ (.lst false ds) v
      unfold RepF
      refine ⟨rfl, a, vs, h1, .inl (.inl ?_), RepFs.mono sg h3⟩
      unfold gHp; rw [if_pos (by simp [h4])]; exact h2
  | ins o k' ns ds =>
    cases o with
    | false =>
      obtain ⟨h1, h2⟩ := h
      exact RepF.mono sg h1
    | true =>
      obtain ⟨a, C, dx, vs, h1, h2, h3, h4, h5, h6⟩ := h
      show RepF K cl _ (.ins false k' ns ds) v
      unfold RepF
      refine ⟨rfl, a, C, dx, vs, h1, h2, ?_, h4, RepFs.mono sg h5⟩
      unfold gHp; rw [if_pos (by simp [h6])]; exact h3
  | dct o ks ds =>
    cases o with
    | false =>
      obtain ⟨h1, h2⟩ := h
      exact RepF.mono sg h1
    | true => cases hod
  | _ => exact RepF.mono sg h.1

theorem Slots.len : ∀ {r : Rho} {s : L2.St} {f : List Addr}, Slots K cl G H r s f → r.length = s.length
  | [], [], _, _ => rfl
  | none :: r, _ :: s, f, h => by
    unfold Slots at h
    simp [Slots.len h]
  | some d :: r, o :: s, f, h => by
    unfold Slots at h
    obtain ⟨v, f1, f2, _, _, h3, _⟩ := h
    simp [Slots.len h3]
  | [], _ :: _, _, h => by unfold Slots at h; exact h.elim
  | none :: _, [], _, h => by unfold Slots at h; exact h.elim
  | some _ :: _, [], _, h => by unfold Slots at h; exact h.elim
theorem Slots.there : ∀ {r : Rho} {s : L2.St} {f : List Addr}, Slots K cl G H r s f → ∀ a ∈ f, H a ≠ none
  | [], [], _, h => by unfold Slots at h; subst h; simp
  | none :: r, _ :: s, f, h => by
    unfold Slots at h
    exact Slots.there h
  | some d :: r, o :: s, f, h => by
    unfold Slots at h
    obtain ⟨v, f1, f2, _, h2, h3, rfl⟩ := h
    intro a ha
    rcases List.mem_append.mp ha with ha | ha
    · exact h2.there a ha
    · exact Slots.there h3 a ha
  | [], _ :: _, _, h => by unfold Slots at h; exact h.elim
  | none :: _, [], _, h => by unfold Slots at h; exact h.elim
  | some _ :: _, [], _, h => by unfold Slots at h; exact h.elim
theorem Slots.keep (e : Same G G') : ∀ {r : Rho} {s : L2.St} {f : List Addr}, Slots K cl G H r s f → (∀ a ∈ f, H' a = H a) → Slots K cl G' H' r s f
  | [], [], _, h, _ => h
  | none :: r, _ :: s, f, h, k => by
    unfold Slots at h ⊢
    exact Slots.keep e h k
  | some d :: r, o :: s, f, h, k => by
    unfold Slots at h ⊢
    obtain ⟨v, f1, f2, h1, h2, h3, rfl⟩ := h
    exact ⟨v, f1, f2, h1, h2.keep e fun a ha => k a (List.mem_append_left _ ha), Slots.keep e h3 fun a ha => k a (List.mem_append_right _ ha), rfl⟩
  | [], _ :: _, _, h, _ => by unfold Slots at h; exact h.elim
  | none :: _, [], _, h, _ => by unfold Slots at h; exact h.elim
  | some _ :: _, [], _, h, _ => by unfold Slots at h; exact h.elim
theorem getS_cons0 (x : Option D) (r : Rho) : getS (x :: r) 0 = x := by unfold getS; simp
theorem getS_cons (x : Option D) (r : Rho) (i : Nat) : getS (x :: r) (i + 1) = getS r i := by unfold getS; simp
theorem getS_nil (i : Nat) : getS [] i = none := by unfold getS; simp
/-- slot i taken apart: what stands there, what else is owned; g: how it goes together again -/
theorem Slots.at : ∀ {r : Rho} {s : L2.St} {f : List Addr} {i : Nat} {d : D}, Slots K cl G H r s f → getS r i = some d →
    ∃ v f1 fa fb, s[i]? = some (some v) ∧ Rep K cl G H d v f1 ∧ f = fa ++ (f1 ++ fb) ∧
      (∀ G' H' d' v' f1', Same G G' → (∀ a ∈ fa ++ fb, H' a = H a) → Rep K cl G' H' d' v' f1' → Slots K cl G' H' (r.set i (some d')) (s.set i (some v')) (fa ++ (f1' ++ fb))) ∧
      (∀ G' H' o, Same G G' → (∀ a ∈ fa ++ fb, H' a = H a) → Slots K cl G' H' (r.set i none) (s.set i o) (fa ++ fb))
  | [], _, _, i, d, _, e => by rw [getS_nil] at e; cases e
  | none :: r, _, _, 0, d, _, e => by rw [getS_cons0] at e; cases e
  | none :: r, o :: s, f, i + 1, d, h, e => by
    rw [getS_cons] at e
    unfold Slots at h
    obtain ⟨v, f1, fa, fb, h1, h2, h3, h4, h5⟩ := Slots.at h e
    refine ⟨v, f1, fa, fb, by simpa using h1, h2, h3, fun G' H' d' v' f1' e1 e2 e3 => ?_, fun G' H' o e1 e2 => ?_⟩
    · simp only [List.set_cons_succ]; unfold Slots; exact h4 G' H' d' v' f1' e1 e2 e3
    · simp only [List.set_cons_succ]; unfold Slots; exact h5 G' H' o e1 e2
  | some x :: r, o :: s, f, 0, d, h, e => by
    rw [getS_cons0] at e; cases e
    unfold Slots at h
    obtain ⟨v, f1, f2, rfl, h2, h3, rfl⟩ := h
    refine ⟨v, f1, [], f2, rfl, h2, rfl, fun G' H' d' v' f1' e1 e2 e3 => ?_, fun G' H' o e1 e2 => ?_⟩
    · simp only [List.set_cons_zero]; unfold Slots
      exact ⟨v', f1', f2, rfl, e3, Slots.keep e1 h3 fun a ha => e2 a (by simpa using ha), rfl⟩
    · simp only [List.set_cons_zero]; unfold Slots
      exact Slots.keep e1 h3 fun a ha => e2 a (by simpa using ha)
  | some x :: r, o :: s, f, i + 1, d, h, e => by
    rw [getS_cons] at e
    unfold Slots at h
    obtain ⟨v0, g1, g2, rfl, k2, k3, rfl⟩ := h
    obtain ⟨v, f1, fa, fb, h1, h2, h3, h4, h5⟩ := Slots.at k3 e
    subst h3
    refine ⟨v, f1, g1 ++ fa, fb, by simpa using h1, h2, by simp, fun G' H' d' v' f1' e1 e2 e3 => ?_, fun G' H' o e1 e2 => ?_⟩
    · simp only [List.set_cons_succ]; unfold Slots
      exact ⟨v0, g1, _, rfl, k2.keep e1 fun a ha => e2 a (by simp [ha]), h4 G' H' d' v' f1' e1 (fun a ha => e2 a (by rcases List.mem_append.mp ha with z | z <;> simp [z])) e3, by simp⟩
    · simp only [List.set_cons_succ]; unfold Slots
      exact ⟨v0, g1, _, rfl, k2.keep e1 fun a ha => e2 a (by simp [ha]), h5 G' H' o e1 (fun a ha => e2 a (by rcases List.mem_append.mp ha with z | z <;> simp [z])), by simp⟩
  | none :: _, [], _, _, _, h, _ => by unfold Slots at h; exact h.elim
  | some _ :: _, [], _, _, _, h, _ => by unfold Slots at h; exact h.elim
/-- a slot filled or emptied, whatever stood there -/
theorem Slots.any : ∀ {r : Rho} {s : L2.St} {f : List Addr} {i : Nat}, Slots K cl G H r s f → i < r.length →
    ∃ f1 fa fb, f = fa ++ (f1 ++ fb) ∧
      (∀ G' H' d' v' f1', Same G G' → (∀ a ∈ fa ++ fb, H' a = H a) → Rep K cl G' H' d' v' f1' → Slots K cl G' H' (r.set i (some d')) (s.set i (some v')) (fa ++ (f1' ++ fb))) ∧
      (∀ G' H' o, Same G G' → (∀ a ∈ fa ++ fb, H' a = H a) → Slots K cl G' H' (r.set i none) (s.set i o) (fa ++ fb))
  | [], _, _, i, _, e => by simp at e
  | none :: r, o :: s, f, 0, h, e => by
    unfold Slots at h
    refine ⟨[], [], f, by simp, fun G' H' d' v' f1' e1 e2 e3 => ?_, fun G' H' o e1 e2 => ?_⟩
    · simp only [List.set_cons_zero]; unfold Slots
      exact ⟨v', f1', f, rfl, e3, Slots.keep e1 h fun a ha => e2 a (by simpa using ha), rfl⟩
    · simp only [List.set_cons_zero]; unfold Slots
      exact Slots.keep e1 h fun a ha => e2 a (by simpa using ha)
  | some x :: r, o :: s, f, 0, h, e => by
    unfold Slots at h
    obtain ⟨v, f1, f2, rfl, h2, h3, rfl⟩ := h
    refine ⟨f1, [], f2, by simp, fun G' H' d' v' f1' e1 e2 e3 => ?_, fun G' H' o e1 e2 => ?_⟩
    · simp only [List.set_cons_zero]; unfold Slots
      exact ⟨v', f1', f2, rfl, e3, Slots.keep e1 h3 fun a ha => e2 a (by simpa using ha), rfl⟩
    · simp only [List.set_cons_zero]; unfold Slots
      exact Slots.keep e1 h3 fun a ha => e2 a (by simpa using ha)
  | none :: r, o :: s, f, i + 1, h, e => by
    unfold Slots at h
    obtain ⟨f1, fa, fb, h3, h4, h5⟩ := Slots.any (i := i) h (by simpa using e)
    refine ⟨f1, fa, fb, h3, fun G' H' d' v' f1' e1 e2 e3 => ?_, fun G' H' o e1 e2 => ?_⟩
    · simp only [List.set_cons_succ]; unfold Slots; exact h4 G' H' d' v' f1' e1 e2 e3
    · simp only [List.set_cons_succ]; unfold Slots; exact h5 G' H' o e1 e2
  | some x :: r, o :: s, f, i + 1, h, e => by
    unfold Slots at h
    obtain ⟨v0, g1, g2, rfl, k2, k3, rfl⟩ := h
    obtain ⟨f1, fa, fb, h3, h4, h5⟩ := Slots.any (i := i) k3 (by simpa using e)
    subst h3
    refine ⟨f1, g1 ++ fa, fb, by simp, fun G' H' d' v' f1' e1 e2 e3 => ?_, fun G' H' o e1 e2 => ?_⟩
    · simp only [List.set_cons_succ]; unfold Slots
      exact ⟨v0, g1, _, rfl, k2.keep e1 fun a ha => e2 a (by simp [ha]), h4 G' H' d' v' f1' e1 (fun a ha => e2 a (by rcases List.mem_append.mp ha with z | z <;> simp [z])) e3, by simp⟩
    · simp only [List.set_cons_succ]; unfold Slots
      exact ⟨v0, g1, _, rfl, k2.keep e1 fun a ha => e2 a (by simp [ha]), h5 G' H' o e1 (fun a ha => e2 a (by rcases List.mem_append.mp ha with z | z <;> simp [z])), by simp⟩
  | none :: _, [], _, _, h, _ => by unfold Slots at h; exact h.elim
  | some _ :: _, [], _, _, h, _ => by unfold Slots at h; exact h.elim
end
end GF
namespace GF
open PySem L2

structure Ok (K : PySem.W.Frag) (cl : Cl) (G H : Hp) (r : Rho) (s : L2.St) (f t : List Addr) : Prop where
  sl : Slots K cl G H r s f
  nd : (f ++ t).Nodup
  fr : ∀ a ∈ f ++ t, G a = none
  gh : Same G H
  th : ∀ a ∈ t, H a ≠ none
structure Ext (f : List Addr) (G H : Hp) (f' : List Addr) (G' H' : Hp) : Prop where
  keep : ∀ a, H a ≠ none → a ∉ f → H' a = H a
  there : ∀ a, H a ≠ none → H' a ≠ none
  gs : Same G G'
  gn : ∀ a, G' a ≠ none → G a = none → a ∈ f ∨ H a = none
  fn : ∀ a ∈ f', a ∈ f ∨ H a = none
def OdIs (K : PySem.W.Frag) (cl : Cl) (G H : Hp) (s : L2.St) : Od → V → List Addr → Prop
  | .val d, v, f => Rep K cl G H d v f
  | .slot i, v, f => s[i]? = some (some v) ∧ f = []
/-- something new, all that stood stands -/
structure New (K : PySem.W.Frag) (cl : Cl) (G H : Hp) (z : D) (v : V) (fv : List Addr) (G' H' : Hp) : Prop where
  rep : Rep K cl G' H' z v fv
  fre : ∀ a ∈ fv, G' a = none ∧ H a = none
  gh : Same G' H'
  gs : Same G G'
  hs : Same H H'
  gn : ∀ a, G' a ≠ none → G a = none → H a = none

theorem same_new' {H : Hp} {p : Addr} {o : HO} (h : H p = none) : Same H (upd H p o) := fun b x e => by
  rw [upd_ne (ne_of_none e h)]; exact e
section
variable {K : PySem.W.Frag} {cl : Cl} {G G' G1 H H' H1 : Hp} {r r1 : Rho} {s : L2.St} {f f' f1 t t' fv : List Addr}
theorem Ext.refl : Ext f G H f G H := ⟨fun _ _ _ => rfl, fun _ h => h, fun _ _ h => h, fun _ h h' => absurd h' h, fun _ h => .inl h⟩
theorem Ext.trans {f2 : List Addr} {G2 H2 : Hp} (a : Ext f G H f1 G1 H1) (b : Ext f' G1 H1 f2 G2 H2) (hf : ∀ x ∈ f', x ∈ f1) : Ext f G H f2 G2 H2 where
  keep := fun x h1 h2 => by
    have e := a.keep x h1 h2
    refine (b.keep x (by rw [e]; exact h1) fun hx => ?_).trans e
    rcases a.fn x (hf x hx) with z | z
    · exact h2 z
    · exact h1 z
  there := fun x h => b.there x (a.there x h)
  gs := a.gs.trans b.gs
  gn := fun x h1 h2 => by
    by_cases g : G1 x = none
    · rcases b.gn x h1 g with z | z
      · exact a.fn x (hf x z)
      · by_cases h : H x = none
        · exact .inr h
        · exact absurd z (a.there x h)
    · exact a.gn x g h2
  fn := fun x hx => by
    rcases b.fn x hx with z | z
    · exact a.fn x (hf x z)
    · by_cases h : H x = none
      · exact .inr h
      · exact absurd z (a.there x h)
theorem Ext.sub {f2 : List Addr} (a : Ext f G H f1 G1 H1) (h : ∀ x ∈ f2, x ∈ f1) : Ext f G H f2 G1 H1 := ⟨a.keep, a.there, a.gs, a.gn, fun x hx => a.fn x (h x hx)⟩
theorem Ok.sub (o : Ok K cl G H r s f t) (h : t'.Sublist t) : Ok K cl G H r s f t' where
  sl := o.sl
  nd := o.nd.sublist (List.Sublist.append (List.Sublist.refl f) h)
  fr := fun a ha => o.fr a (by
    rcases List.mem_append.mp ha with z | z
    · exact List.mem_append_left _ z
    · exact List.mem_append_right _ (h.subset z))
  gh := o.gh
  th := fun a ha => o.th a (h.subset ha)
theorem Ok.tail (o : Ok K cl G H r s f (fv ++ t)) : Ok K cl G H r s f t := o.sub (List.sublist_append_right _ _)
theorem Ok.disj (o : Ok K cl G H r s f t) {a : Addr} (ha : a ∈ t) : a ∉ f := fun hf =>
  (List.nodup_append.mp o.nd).2.2 a hf a ha rfl
/-- a temporary stays -/
theorem Ok.temp (o : Ok K cl G H r s f t) (e : Ext f G H f1 G1 H1) {a : Addr} (ha : a ∈ t) : H1 a = H a := e.keep a (o.th a ha) (o.disj ha)
theorem OdIs.keep {o : Od} {v : V} (k : Ok K cl G H r s f (fv ++ t)) (e : Ext f G H f1 G1 H1) (h : OdIs K cl G H s o v fv) : OdIs K cl G1 H1 s o v fv := by
  cases o with
  | val d => exact Rep.keep h e.gs fun a ha => k.temp e (List.mem_append_left _ ha)
  | slot i => exact h
/-- what an operand is, where it is looked at -/
theorem OdIs.rep {o : Od} {v : V} {d : D} (k : Ok K cl G H r s f t) (h : OdIs K cl G H s o v fv) (e : o.get r = some d) : ∃ fx, Rep K cl G H d v fx := by
  cases o with
  | val d' => cases e; exact ⟨fv, h⟩
  | slot i =>
    obtain ⟨v', f1, fa, fb, h1, h2, _⟩ := k.sl.at (i := i) e
    rw [h.1] at h1; cases h1
    exact ⟨f1, h2⟩
/-- nothing changes, something new comes -/
theorem Ok.new {z : D} {v : V} (o : Ok K cl G H r s f t) (n : New K cl G H z v fv G' H') : Ok K cl G' H' r s f (fv ++ t) ∧ Ext f G H (f ++ fv) G' H' := by
  have hh : ∀ a, H a ≠ none → H' a = H a := fun a h => by
    cases e : H a with
    | none => exact absurd e h
    | some x => exact n.hs a x e
  have ft : ∀ a ∈ f ++ t, H a ≠ none := fun a ha => by
    rcases List.mem_append.mp ha with z | z
    · exact o.sl.there a z
    · exact o.th a z
  refine ⟨⟨o.sl.keep n.gs fun a ha => hh a (ft a (List.mem_append_left _ ha)), ?_, fun a ha => ?_, n.gh, fun a ha => ?_⟩, ⟨fun a h _ => hh a h, fun a h => by rw [hh a h]; exact h, n.gs, fun a h1 h2 => .inr (n.gn a h1 h2), fun a ha => ?_⟩⟩
  · have d := List.nodup_append.mp o.nd
    refine List.nodup_append.mpr ⟨d.1, List.nodup_append.mpr ⟨n.rep.nd, d.2.1, fun a ha b hb e => ?_⟩, fun a ha b hb e => ?_⟩
    · subst e; exact o.th a hb (n.fre a ha).2
    · subst e
      rcases List.mem_append.mp hb with z | z
      · exact ft a (List.mem_append_left _ ha) (n.fre a z).2
      · exact d.2.2 a ha a z rfl
  · have old : a ∈ f ++ t → G' a = none := fun h => by
      cases e : G' a with
      | none => rfl
      | some x =>
        have := n.gn a (by rw [e]; simp) (o.fr a h)
        exact absurd this (ft a h)
    rcases List.mem_append.mp ha with z | z
    · exact old (List.mem_append_left _ z)
    · rcases List.mem_append.mp z with z | z
      · exact (n.fre a z).1
      · exact old (List.mem_append_right _ z)
  · rcases List.mem_append.mp ha with z | z
    · exact n.rep.there a z
    · rw [hh a (o.th a z)]; exact o.th a z
  · rcases List.mem_append.mp ha with z | z
    · exact .inl z
    · exact .inr (n.fre a z).2
/-- a value that is owned gets frozen -/
theorem Ok.frz {d : D} {v : V} (hod : odD d = false) (o : Ok K cl G H r s f (fv ++ t)) (h : Rep K cl G H d v fv) : Ok K cl (gHp G H fv) H r s f t ∧ Ext (f ++ fv) G H f (gHp G H fv) H ∧ RepF K cl (gHp G H fv) d.frz v := by
  have hf : ∀ a ∈ fv, G a = none := fun a ha => o.fr a (by simp [ha])
  have sg := gHp_same (G := G) (H := H) hf
  have d := List.nodup_append.mp o.nd
  have d2 := List.nodup_append.mp d.2.1
  refine ⟨⟨o.sl.keep sg fun _ _ => rfl, o.tail.nd, fun a ha => ?_, gHp_in o.gh, o.tail.th⟩, ⟨fun _ _ _ => rfl, fun _ h => h, sg, fun a h1 h2 => ?_, fun a ha => .inl (List.mem_append_left _ ha)⟩, h.frz hod hf⟩
  · have : a ∉ fv := fun z => by
      rcases List.mem_append.mp ha with y | y
      · exact d.2.2 a y a (List.mem_append_left _ z) rfl
      · exact d2.2.2 a z a y rfl
    unfold gHp; rw [if_neg this]; exact o.tail.fr a ha
  · by_cases z : a ∈ fv
    · exact .inl (List.mem_append_right _ z)
    · unfold gHp at h1; rw [if_neg z] at h1; exact absurd h2 h1
/-- a dict that is owned gets frozen: its object is known from then on -/
theorem Ok.frzD {ks ds : List D} {v : V} (o : Ok K cl G H r s f (fv ++ t)) (h : Rep K cl G H (.dct true ks ds) v fv) : ∃ a kvs, v = .ref a ∧ H a = some (.dK kvs) ∧ ∀ ob, Ok K cl (upd G a (.frz ob (.dK kvs))) (upd H a (.frz ob (.dK kvs))) r s f t ∧ Ext (f ++ fv) G H f (upd G a (.frz ob (.dK kvs))) (upd H a (.frz ob (.dK kvs))) ∧ RepF K cl (upd G a (.frz ob (.dK kvs))) (.dct false ks ds) v := by
  obtain ⟨a, kvs, rfl, hH, hk, hv, rfl⟩ := h
  have ga : G a = none := o.fr a (by simp)
  refine ⟨a, kvs, rfl, hH, fun ob => ?_⟩
  have sg : Same G (upd G a (.frz ob (.dK kvs))) := same_new' ga
  have nf : ∀ b ∈ f, b ≠ a := fun b hb e => by
    subst e
    exact (List.nodup_append.mp o.nd).2.2 b hb b (by simp) rfl
  have nt : ∀ b ∈ t, b ≠ a := fun b hb e => by
    subst e
    have := (List.nodup_append.mp (List.nodup_append.mp o.nd).2.1).2.2 b (by simp) b hb
    exact this rfl
  refine ⟨⟨o.sl.keep sg fun b hb => upd_ne (nf b hb), o.tail.nd, fun b hb => ?_, fun b x e => ?_, fun b hb => ?_⟩, ⟨fun b h1 h2 => ?_, fun b h1 => ?_, sg, fun b h1 h2 => ?_, fun b hb => .inl (List.mem_append_left _ hb)⟩, ?_⟩
  · have : b ≠ a := by
      rcases List.mem_append.mp hb with z | z
      · exact nf b z
      · exact nt b z
    rw [upd_ne this]; exact o.tail.fr b hb
  · by_cases z : b = a
    · subst z; rw [upd_same] at e ⊢; exact e
    · rw [upd_ne z] at e ⊢; exact o.gh _ _ e
  · rw [upd_ne (nt b hb)]; exact o.tail.th b hb
  · exact upd_ne fun e => h2 (by simp [e])
  · by_cases z : b = a
    · subst z; rw [upd_same]; simp
    · rw [upd_ne z]; exact h1
  · by_cases z : b = a
    · exact .inl (by simp [z])
    · rw [upd_ne z] at h1; exact absurd h2 h1
  · unfold RepF
    exact ⟨rfl, a, ob, kvs, _, rfl, upd_same, hk, rfl, RepFs.mono sg hv⟩
theorem New.same {z : D} {v : V} (gh : Same G H) (h : RepF K cl G z v) : New K cl G H z v [] G H := ⟨Rep.of_F h, by simp, gh, fun _ _ h => h, fun _ _ h => h, fun _ h h' => absurd h' h⟩
theorem same_new {p : Addr} {o : HO} (h : H p = none) : Same H (upd H p o) := fun b x e => by
  rw [upd_ne (ne_of_none e h)]; exact e
theorem New.tup {ds : List D} {vs : List V} {p : Addr} {ob : Obj} (gh : Same G H) (h : RepFs K cl G ds vs) (hp : H p = none) (hd : ob.dict = none) : New K cl G H (.tup ds) (.ref p) [] (upd G p (.frz ob (.tup vs))) (upd H p (.frz ob (.tup vs))) := by
  have gp : G p = none := gh.free hp
  have sg : Same G (upd G p (.frz ob (.tup vs))) := same_new gp
  refine ⟨Rep.of_F ?_, by simp, fun a o e => ?_, sg, same_new hp, fun a h1 h2 => ?_⟩
  · unfold RepF; exact ⟨p, vs, rfl, .inl ⟨ob, upd_same, hd⟩, RepFs.mono sg h⟩
  · by_cases e1 : a = p
    · subst e1; rw [upd_same] at e ⊢; exact e
    · rw [upd_ne e1] at e ⊢; exact gh _ _ e
  · by_cases e1 : a = p
    · subst e1; exact hp
    · rw [upd_ne e1] at h1; exact absurd h2 h1
theorem New.lst {ds : List D} {vs : List V} {p : Addr} (gh : Same G H) (h : RepFs K cl G ds vs) (hp : H p = none) : New K cl G H (.lst true ds) (.ref p) [p] G (upd H p (.lst vs)) :=
  ⟨⟨p, vs, rfl, upd_same, h, rfl⟩, fun a ha => by simp at ha; subst ha; exact ⟨gh.free hp, hp⟩, gh.trans (same_new hp), fun _ _ h => h, same_new hp, fun _ h h' => absurd h' h⟩
end

/-! ## what is wanted behind -/
section
variable (K : PySem.W.Frag) (cl : Cl) (xa : Nat → Value) (W : WX) (s : L2.St)
abbrev QE := Od → Rho → V → List Addr → Hp → Hp → List Addr → Prop
def PostE (G H : Hp) (f t : List Addr) (Q : QE) : RE → Prop
  | .ok o r => ∀ v fv G' H' f', Ok K cl G' H' r s f' (fv ++ t) → Ext f G H (f' ++ fv) G' H' → OdIs K cl G' H' s o v fv → Q o r v fv G' H' f'
  | .err k r => ∀ G' H' f', Ok K cl G' H' r s f' t → Ext f G H f' G' H' → W (xa k) none s H'
  | .stuck => False
/-- lists of values, none of them owned -/
abbrev QL := List D → Rho → List V → Hp → Hp → List Addr → Prop
def PostL (G H : Hp) (f t : List Addr) (Q : QL) : RL → Prop
  | .ok ds r => ∀ vs G' H' f', Ok K cl G' H' r s f' t → Ext f G H f' G' H' → RepFs K cl G' ds vs → Q ds r vs G' H' f'
  | .err k r => ∀ G' H' f', Ok K cl G' H' r s f' t → Ext f G H f' G' H' → W (xa k) none s H'
  | .stuck => False
def OdsIs (G H : Hp) : List Od → List V → List Addr → Prop
  | [], vs, f => vs = [] ∧ f = []
  | o :: os, vs, f => ∃ v r f1 f2, vs = v :: r ∧ OdIs K cl G H s o v f1 ∧ OdsIs G H os r f2 ∧ f = f1 ++ f2
abbrev QO := List Od → Rho → List V → List Addr → Hp → Hp → List Addr → Prop
def PostO (G H : Hp) (f t : List Addr) (Q : QO) : RO → Prop
  | .ok os r => ∀ vs fv G' H' f', Ok K cl G' H' r s f' (fv ++ t) → Ext f G H (f' ++ fv) G' H' → OdsIs K cl s G' H' os vs fv → Q os r vs fv G' H' f'
  | .err k r => ∀ G' H' f', Ok K cl G' H' r s f' t → Ext f G H f' G' H' → W (xa k) none s H'
  | .stuck => False
end
section
variable (K : PySem.W.Frag) (cl : Cl) (xa : Nat → Value) (W : WX)
def tE (ev : Rho → RE) : TE := fun s H Q => ∃ G r f t, Ok K cl G H r s f t ∧ PostE K cl xa W s G H f t (fun _ _ v _ _ H' _ => Q v H') (ev r)
def tL (ev : Rho → RL) : TA := fun s H Q => ∃ G r f t, Ok K cl G H r s f t ∧ PostL K cl xa W s G H f t (fun _ _ vs _ H' _ => Q vs H') (ev r)
def tO (ev : Rho → RO) : TA := fun s H Q => ∃ G r f t, Ok K cl G H r s f t ∧ PostO K cl xa W s G H f t (fun _ _ vs _ _ H' _ => Q vs H') (ev r)
end
section
variable {K : PySem.W.Frag} {cl : Cl} {xa : Nat → Value} {W : WX} {s : L2.St} {G G' G1 H H' H1 : Hp} {r r1 : Rho} {f f' f1 t fv : List Addr}
theorem PostE.base {Q : QE} {x : RE} (h : PostE K cl xa W s G H f t Q x) (e : Ext f G H (f1 ++ fv) G1 H1) : PostE K cl xa W s G1 H1 f1 (fv ++ t) Q x := by
  cases x with
  | ok o r => exact fun v fv' G' H' f' o' e' i => h v fv' G' H' f' (o'.sub (List.Sublist.append (List.Sublist.refl _) (List.sublist_append_right _ _))) (e.trans e' fun x hx => List.mem_append_left _ hx) i
  | err k r => exact fun G' H' f' o' e' => h G' H' f' o'.tail (e.trans e' fun x hx => List.mem_append_left _ hx)
  | stuck => exact h
theorem PostL.base {Q : QL} {x : RL} (h : PostL K cl xa W s G H f t Q x) (e : Ext f G H (f1 ++ fv) G1 H1) : PostL K cl xa W s G1 H1 f1 (fv ++ t) Q x := by
  cases x with
  | ok o r => exact fun v G' H' f' o' e' i => h v G' H' f' o'.tail (e.trans e' fun x hx => List.mem_append_left _ hx) i
  | err k r => exact fun G' H' f' o' e' => h G' H' f' o'.tail (e.trans e' fun x hx => List.mem_append_left _ hx)
  | stuck => exact h
theorem PostO.base {Q : QO} {x : RO} (h : PostO K cl xa W s G H f t Q x) (e : Ext f G H (f1 ++ fv) G1 H1) : PostO K cl xa W s G1 H1 f1 (fv ++ t) Q x := by
  cases x with
  | ok o r => exact fun v fv' G' H' f' o' e' i => h v fv' G' H' f' (o'.sub (List.Sublist.append (List.Sublist.refl _) (List.sublist_append_right _ _))) (e.trans e' fun x hx => List.mem_append_left _ hx) i
  | err k r => exact fun G' H' f' o' e' => h G' H' f' o'.tail (e.trans e' fun x hx => List.mem_append_left _ hx)
  | stuck => exact h
/-- one computation, then another -/
theorem PostE.seq {Q Q2 : QE} {x : RE} {k : Od → Rho → RE} (h : PostE K cl xa W s G H f t Q (x.od k))
    (n : ∀ o r1 v fv G1 H1 f1, x = .ok o r1 → Ok K cl G1 H1 r1 s f1 (fv ++ t) → Ext f G H (f1 ++ fv) G1 H1 → OdIs K cl G1 H1 s o v fv → PostE K cl xa W s G1 H1 f1 (fv ++ t) Q (k o r1) → Q2 o r1 v fv G1 H1 f1) :
    PostE K cl xa W s G H f t Q2 x := by
  cases x with
  | ok o r1 => exact fun v fv G1 H1 f1 o1 e1 i => n o r1 v fv G1 H1 f1 rfl o1 e1 i (PostE.base h e1)
  | err k r => exact h
  | stuck => exact h
theorem PostE.seqG {Q Q2 : QE} {x : RE} {k : D → Rho → RE} (h : PostE K cl xa W s G H f t Q (x.get k))
    (n : ∀ o r1 d v fv fx G1 H1 f1, x = .ok o r1 → o.get r1 = some d → Ok K cl G1 H1 r1 s f1 (fv ++ t) → Ext f G H (f1 ++ fv) G1 H1 → Rep K cl G1 H1 d v fx → PostE K cl xa W s G1 H1 f1 (fv ++ t) Q (k d r1) → Q2 o r1 v fv G1 H1 f1) :
    PostE K cl xa W s G H f t Q2 x := by
  cases x with
  | ok o r1 =>
    unfold RE.get at h
    intro v fv G1 H1 f1 o1 e1 i
    cases e : o.get r1 with
    | none => simp only [e] at h; exact h.elim
    | some d =>
      simp only [e] at h
      obtain ⟨fx, hr⟩ := i.rep o1 e
      exact n o r1 d v fv fx G1 H1 f1 rfl e o1 e1 hr (PostE.base h e1)
  | err k r => exact h
  | stuck => exact h
/-- the end: something new -/
theorem PostE.fin {Q : VK} {z : D} {v : V} (h : PostE K cl xa W s G H f t (fun _ _ v _ _ H' _ => Q v H') (.ok (.val z) r)) (o : Ok K cl G H r s f t) (n : New K cl G H z v fv G' H') : Q v H' :=
  h v fv G' H' f (o.new n).1 (o.new n).2 n.rep
theorem PostE.mono {Q Q' : QE} {x : RE} (h : PostE K cl xa W s G H f t Q x) (k : ∀ o r v fv G' H' f', Q o r v fv G' H' f' → Q' o r v fv G' H' f') : PostE K cl xa W s G H f t Q' x := by
  cases x with
  | ok o r => exact fun v fv G' H' f' a b c => k _ _ _ _ _ _ _ (h v fv G' H' f' a b c)
  | err k r => exact h
  | stuck => exact h
end
theorem _root_.L2.PE.weak {X : Cx} {e : Expr} {t t' : TE} (h : PE X e t) (k : ∀ s H Q, t' s H Q → t s H Q) : PE X e t' := ⟨fun pins s σ H Q I q => h.run pins s σ H Q I (k σ H Q q)⟩
theorem _root_.L2.PT.weak {X : Cx} {e : Expr} {t t' : TT} (h : PT X e t) (k : ∀ s H Q, t' s H Q → t s H Q) : PT X e t' := ⟨fun pins s σ H Q I q => h.run pins s σ H Q I (k σ H Q q)⟩
theorem _root_.L2.PA.weak {X : Cx} {e : List Expr} {t t' : TA} (h : PA X e t) (k : ∀ s H Q, t' s H Q → t s H Q) : PA X e t' := ⟨fun pos pins s σ H Q I q => h.run pos pins s σ H Q I (k σ H Q q)⟩
theorem _root_.L2.PS.weak {X : Cx} {e : Stmt} {t t' : TS} (h : PS X e t) (k : ∀ D s H, t' D s H → t D s H) : PS X e t' := ⟨fun pins s σ H D I q => h.run pins s σ H D I (k D σ H q)⟩
theorem _root_.L2.PSs.weak {X : Cx} {e : List Stmt} {t t' : TS} (h : PSs X e t) (k : ∀ D s H, t' D s H → t D s H) : PSs X e t' := ⟨fun pins s σ H D I q => h.run pins s σ H D I (k D σ H q)⟩
end GF
namespace GF
open PySem L2 PySem.Spec PyProof.Rows

section
variable {K : PySem.W.Frag} {cl : Cl} {G H : Hp}
theorem Rep.tup {ds : List D} {v : V} {f : List Addr} (gh : Same G H) (h : Rep K cl G H (.tup ds) v f) : ∃ a vs, v = .ref a ∧ SqX K G a vs ∧ SqT K H a vs ∧ RepFs K cl G ds vs := by
  have h1 := h.1
  unfold RepF at h1
  obtain ⟨a, vs, e, h2, h3⟩ := h1
  exact ⟨a, vs, e, h2, sqT_mono gh h2.t, h3⟩
theorem Rep.lst {o : Bool} {ds : List D} {v : V} {f : List Addr} (gh : Same G H) (h : Rep K cl G H (.lst o ds) v f) : ∃ a vs, v = .ref a ∧ SqL K H a vs ∧ RepFs K cl G ds vs := by
  cases o with
  | false =>
    have h1 := h.1
    unfold RepF at h1
    obtain ⟨_, a, vs, e, h2, h3⟩ := h1
    exact ⟨a, vs, e, sqL_mono gh h2, h3⟩
  | true =>
    obtain ⟨a, vs, e, h2, h3, _⟩ := h
    exact ⟨a, vs, e, SqL.of h2, h3⟩
theorem Rep.dct {o : Bool} {ks ds : List D} {v : V} {f : List Addr} (gh : Same G H) (h : Rep K cl G H (.dct o ks ds) v f) : ∃ a kvs, v = .ref a ∧ Rd H a (.dK kvs) ∧ keysD ks = some (kvs.map (·.1)) ∧ RepFs K cl G ds (kvs.map (·.2)) := by
  cases o with
  | false =>
    have h1 := h.1
    unfold RepF at h1
    obtain ⟨_, a, ob, kvs, vs, e, h2, h3, rfl, h4⟩ := h1
    exact ⟨a, kvs, e, .inr ⟨ob, gh _ _ h2⟩, h3, h4⟩
  | true =>
    obtain ⟨a, kvs, e, h2, h3, h4, _⟩ := h
    exact ⟨a, kvs, e, .inl h2, h3, h4⟩
theorem Rep.int {i : Int} {v : V} {f : List Addr} (h : Rep K cl G H (.int i) v f) : v = .int i := by
  have h1 := h.1; unfold RepF at h1; exact h1
theorem Rep.bl {i : Bool} {v : V} {f : List Addr} (h : Rep K cl G H (.bl i) v f) : v = .bl i := by
  have h1 := h.1; unfold RepF at h1; exact h1
theorem Rep.str {i : Str} {v : V} {f : List Addr} (h : Rep K cl G H (.str i) v f) : v = .str i := by
  have h1 := h.1; unfold RepF at h1; exact h1
theorem Rep.non {v : V} {f : List Addr} (h : Rep K cl G H .non v f) : v = .non := by
  have h1 := h.1; unfold RepF at h1; exact h1
theorem New.int (gh : Same G H) (i : Int) : New K cl G H (.int i) (.int i) [] G H := New.same gh (by unfold RepF; rfl)
theorem New.bl (gh : Same G H) (i : Bool) : New K cl G H (.bl i) (.bl i) [] G H := New.same gh (by unfold RepF; rfl)
theorem New.str (gh : Same G H) (i : Str) : New K cl G H (.str i) (.str i) [] G H := New.same gh (by unfold RepF; rfl)
theorem New.non (gh : Same G H) : New K cl G H .non .non [] G H := New.same gh (by unfold RepF; rfl)
theorem RepFs.nilV {vs : List V} (h : RepFs K cl G [] vs) : vs = [] := by unfold RepFs at h; exact h
theorem RepFs.nilD {ds : List D} (h : RepFs K cl G ds []) : ds = [] := by
  have := h.len
  exact List.eq_nil_of_length_eq_zero (by simpa using this)
end

theorem keyD_V {K : PySem.W.Frag} {cl : Cl} {G H : Hp} {d : D} {v : V} {f : List Addr} {j : Key} (h : Rep K cl G H d v f) (e : keyD d = some j) : v = kV j := by
  cases d <;> simp only [keyD, Option.some.injEq, reduceCtorEq] at e
  · subst e; exact h.int
  · subst e; exact h.str
theorem keysD_V {K : PySem.W.Frag} {cl : Cl} {G : Hp} : ∀ {ks : List D} {js : List Key}, keysD ks = some js → RepFs K cl G ks (js.map kV)
  | [], js, h => by cases h; exact RepFs.nil
  | d :: ds, js, h => by
    unfold keysD at h
    cases e1 : keyD d with
    | none => rw [e1] at h; cases h
    | some j =>
      cases e2 : keysD ds with
      | none => rw [e1, e2] at h; cases h
      | some js' =>
        rw [e1, e2] at h
        cases h
        refine RepFs.cons ?_ (keysD_V e2)
        cases d <;> simp only [keyD, Option.some.injEq, reduceCtorEq] at e1
        · subst e1; unfold RepF; rfl
        · subst e1; unfold RepF; rfl
theorem keyAt_lt {j : Key} : ∀ {js : List Key} {i : Nat}, keyAt j js = some i → js[i]? = some j
  | [], _, h => by cases h
  | k :: js, i, h => by
    unfold keyAt at h
    split at h
    · rename_i e; cases h; subst e; rfl
    · rw [Option.map_eq_some_iff] at h
      obtain ⟨i', h1, rfl⟩ := h
      simpa using keyAt_lt h1
theorem keyAt_val {j : Key} : ∀ {kvs : List (Key × V)}, valV kvs j = match keyAt j (kvs.map (·.1)) with
    | some i => (kvs.map (·.2))[i]?
    | none => none
  | [] => rfl
  | (k, v) :: kvs => by
    by_cases e : k = j
    · rw [valV_pos (p := (k, v)) e]
      simp [keyAt, e]
    · rw [valV_neg (p := (k, v)) e, keyAt_val (kvs := kvs)]
      simp only [List.map_cons, keyAt, e, if_false]
      cases keyAt j (kvs.map (·.1)) <;> simp
/-- what the model's look-up gives -/
theorem dct_get {K : PySem.W.Frag} {cl : Cl} {G H : Hp} {o : Bool} {ks ds : List D} {k : D} {r : Option D} {v u : V} {f g : List Addr} (gh : Same G H) (h : Rep K cl G H (.dct o ks ds) v f) (hk : Rep K cl G H k u g) (e : dctAt ks ds k = some r) :
    ∃ a w, v = .ref a ∧ DGet H a u w ∧ w.isSome = r.isSome ∧ ∀ d, r = some d → ∃ x, w = some x ∧ RepF K cl G d x := by
  obtain ⟨a, kvs, rfl, h1, h2, h3⟩ := h.dct gh
  unfold dctAt at e
  rw [h2] at e
  cases ek : keyD k with
  | none => rw [ek] at e; cases e
  | some j =>
    rw [ek] at e
    simp only at e
    have hu := keyD_V hk ek
    refine ⟨a, valV kvs j, rfl, .inl ⟨kvs, j, h1, hu, rfl⟩, ?_⟩
    rw [keyAt_val]
    cases hi : keyAt j (kvs.map (·.1)) with
    | none =>
      rw [hi] at e
      cases e
      exact ⟨rfl, fun d hd => by cases hd⟩
    | some i =>
      rw [hi] at e
      simp only at e
      cases hv : ds[i]? with
      | none => rw [hv] at e; cases e
      | some d =>
        rw [hv] at e
        cases e
        obtain ⟨x, hx, rx⟩ := h3.get hv
        simp only [hx]
        exact ⟨rfl, fun d2 hd => by cases hd; exact ⟨x, rfl, rx⟩⟩
/-- two values, what the operator says of them, and what comes new -/
def rOp (K : PySem.W.Frag) (cl : Cl) (o : D → D → Option D) : R2 := fun x y H Q => ∃ G d e fx fy z, Same G H ∧ Rep K cl G H d x fx ∧ Rep K cl G H e y fy ∧ o d e = some z ∧
  ∀ v fv G' H', New K cl G H z v fv G' H' → Q v H'

section
variable {X : Cx} {cl : Cl}
theorem op_catL : OpR X (binaryOp .Add) (fun x y H Q => ∃ a b xs ys, x = .ref a ∧ y = .ref b ∧ SqL X.K H a xs ∧ SqL X.K H b ys ∧ xs.length + ys.length ≤ sizeLine ∧ ∀ p, H p = none → Q (.ref p) (upd H p (.lst (xs ++ ys)))) := by
  intro pins s σ H x y v u Q I rx ry h
  obtain ⟨l, b, xs, zs, rfl, rfl, hH, hB, hz, q⟩ := h
  cases rx
  cases ry
  obtain ⟨its, r, ⟨⟨cls, dd, data, sl⟩, n, ho, hc, hdd, hd⟩, hl⟩ := I.list hH
  obtain ⟨its2, r2, ⟨⟨cls2, dd2, data2, sl2⟩, n2, ho2, hc2, hdd2, hd2⟩, hl2⟩ := I.list hB
  simp only at hc hd hc2 hd2
  subst hc hd hc2 hd2
  have e1 := r.length
  have e2 := r2.length
  refine concat_meets ⟨_, ho, rfl⟩ ⟨_, ho2, rfl⟩ noFill_list_add seq_list_add PySem.F.slot_list_add PySem.F.entry_list_add (PySem.F.args_list_add_2 _ _) (list_addW l b its.toArray its2.toArray n n2 dd dd2 sl sl2 (by simpa [← e1, ← e2] using hz)) ⟨ho, ho2, ?_⟩
  have ea : its.toArray ++ its2.toArray = (its ++ its2).toArray := by simp
  rw [ea]
  exact ⟨.ref _, _, I.lnew (t' := s.toks) (r.append r2) (by rw [List.length_append]; omega), rfl, q _ I.fresh⟩
theorem tuple_mul1 (l : Addr) (items : Array Value) (n : Nat) (dd : Option Addr) (sl : Array (Option Value)) (x : Int) (u : Tok) (c0 : (decide (x < -(2 ^ 63)) || decide (x ≥ 2 ^ 63)) = false) (c1 : (items.isEmpty || x == 1) = true) :
    Meets (Builtin.«tuple.__mul__» ⟨[.ref l, .int x u], []⟩) (fun _ R s => s.heap.get? l = some { cls := .type "tuple", dict := dd, data := .seq items n, slots := sl } ∧
      R (.ok (.ret (Value.ref l))) s) :=
  .of_wp fun prog w A R s h => by
    obtain ⟨hp, g, d, tk, os⟩ := s
    obtain ⟨hl, h⟩ := h
    have f1 := AutoSeq1.idx_int
    wp_walk using wpAny_loadPart' hl
    refine wpAny_ite_false (decide_eq_false (by rw [c0]; exact Bool.false_ne_true)) ?_
    wp_walk using wpAny_loadPart' hl
    exact ⟨_, rfl, h⟩
/-- a tuple once is itself -/
theorem op_repT1 : OpR X (binaryOp .Mult) (fun x y H Q => ∃ l xs, x = .ref l ∧ y = .int 1 ∧ SqT X.K H l xs ∧ Q (.ref l) H) := by
  intro pins s σ H x y v u Q I rx ry h
  obtain ⟨l, xs, rfl, rfl, hT, q⟩ := h
  cases rx
  obtain ⟨t, rfl⟩ := ry
  obtain ⟨its, r, ⟨⟨cls, dd, data, sl⟩, ho, hc, n, hd⟩, hs⟩ := I.tuple hT
  simp only at hc hd
  subst hc hd
  refine wpAny_binaryOp_repeat_ref (T := "tuple") (U := "int") (by decide) ⟨_, ho, rfl⟩ (fun s' => typeIs_int s' 1 t) noFill_tuple_mul F.fills_int_mul F.slot_int_rmul repeat_tuple F.slot_int_index.lookup
    (call_meets F.slot_int_rmul (typeIs_int s 1 t) F.entry_int_rmul (F.args_int_rmul_2 _ _) (int_rmul_tuple 1 t l its.toArray n dd sl)
      ⟨ho, rfl, ⟨_, ho, rfl⟩, call_meets F.slot_tuple_mul ⟨_, ho, rfl⟩ F.entry_tuple_mul (F.args_tuple_mul_2 _ _) (tuple_mul1 l its.toArray n dd sl 1 t (by decide) (by simp)) ⟨ho, ?_⟩⟩)
  exact ⟨.ref l, H, I, rfl, q⟩
/-! tuples that come new, with their objects -/
theorem op_catF : OpR X (binaryOp .Add) (fun x y H Q => ∃ a b xs ys, x = .ref a ∧ y = .ref b ∧ SqT X.K H a xs ∧ SqT X.K H b ys ∧ xs.length + ys.length ≤ sizeLine ∧
    (xs = [] → Q (.ref b) H) ∧ (xs ≠ [] → ys = [] → Q (.ref a) H) ∧ (xs ≠ [] → ys ≠ [] → ∀ p ob, H p = none → ob.dict = none → Q (.ref p) (upd H p (.frz ob (.tup (xs ++ ys)))))) := by
  intro pins s σ H x y v u Q I rx ry h
  obtain ⟨a, b, xs, ys, rfl, rfl, ha, hb, hz, q0, q1, q2⟩ := h
  cases rx
  cases ry
  obtain ⟨its, r1, p1, _⟩ := I.tuple ha
  obtain ⟨its2, r2, p2, _⟩ := I.tuple hb
  by_cases hx : xs = []
  · subst hx
    cases r1
    exact L2.cat_tup0 p1 p2 ⟨.ref b, H, I, rfl, q0 rfl⟩
  · refine HT.cat_tup p1 p2 (fun z => hx (r1.nil_iff.mp z)) (fun z => ⟨.ref a, H, I, rfl, q1 hx (r2.nil_iff.mp z)⟩) (fun z => ?_) (by rw [← r1.length, ← r2.length]; exact hz)
    refine ⟨.ref s.heap.objs.size, _, I.laid (t' := s.toks) (o := .frz { cls := .type "tuple", data := .seq (its ++ its2).toArray } (.tup (xs ++ ys))) (fun b ob q => Heap.get?_push_of_some _ q) (Nat.le_refl _) ?_, rfl, q2 hx (fun w => z (r2.nil_iff.mpr w)) _ _ (I.hok.fresh (Nat.le_refl _)) rfl⟩
    exact ⟨Heap.get?_push_size _ rfl, by rw [List.length_append]; exact hz, _, r1.append r2, IsTup.new _ _⟩
theorem op_repF : OpR X (binaryOp .Mult) (fun x y H Q => ∃ l k xs, x = .ref l ∧ y = .int k ∧ SqT X.K H l xs ∧ xs ≠ [] ∧ 2 ≤ k ∧ k ≤ 1000 ∧ xs.length ≤ 1000 ∧ ∀ p ob, H p = none → ob.dict = none → Q (.ref p) (upd H p (.frz ob (.tup (List.replicate k.toNat xs).flatten)))) := by
  intro pins s σ H x y v u Q I rx ry h
  obtain ⟨l, k, xs, rfl, rfl, hT, hne, h1, h2, hz, q⟩ := h
  cases rx
  obtain ⟨t, rfl⟩ := ry
  obtain ⟨its, r, ⟨⟨cls, dd, data, sl⟩, ho, hc, n, hd⟩, hs⟩ := I.tuple hT
  simp only at hc hd
  subst hc hd
  have hle : its.length = xs.length := r.length.symm
  have hn : its ≠ [] := fun e => hne (by
    rw [e] at hle
    exact List.eq_nil_of_length_eq_zero hle.symm)
  have hi : its.toArray.isEmpty = false := by
    cases its with
    | nil => exact absurd rfl hn
    | cons a b => rfl
  have hsz0 : its.toArray.size = xs.length := by rw [List.size_toArray, hle]
  have hm : ((its.toArray.size : Nat) : Int) * k ≤ 1000000 := by
    rw [hsz0]
    have a1 : ((xs.length : Nat) : Int) * k ≤ 1000 * k := Int.mul_le_mul_of_nonneg_right (by omega) (by omega)
    omega
  have flen : (List.replicate k.toNat its).flatten.length ≤ sizeLine := by
    rw [PyProof.Rows.lm_len_rep_flat, hle, sizeLine_eq]
    have a1 : k.toNat * xs.length ≤ 1000 * 1000 := Nat.mul_le_mul (by omega) hz
    omega
  have c0 : (decide (k < -(2 ^ 63)) || decide (k ≥ 2 ^ 63)) = false := by
    rw [decide_eq_false (by omega), decide_eq_false (by omega)] <;> rfl
  have c1 : (its.toArray.isEmpty || k == 1) = false := by
    rw [hi, Bool.false_or]
    exact beq_eq_false_iff_ne.mpr (by omega)
  have c2 : (decide (k ≤ 0) || its.toArray.isEmpty) = false := by
    rw [hi, Bool.or_false]
    exact decide_eq_false (by omega)
  have c4 : Builtin.Tuple.tupleTooMany (((its.toArray.size : Nat) : Int) * k) = false := by
    unfold Builtin.Tuple.tupleTooMany
    rw [sizeLine_eq]
    exact decide_eq_false (by omega)
  refine wpAny_binaryOp_repeat_ref (T := "tuple") (U := "int") (by decide) ⟨_, ho, rfl⟩ (fun s' => typeIs_int s' k t) noFill_tuple_mul F.fills_int_mul F.slot_int_rmul repeat_tuple F.slot_int_index.lookup
    (call_meets F.slot_int_rmul (typeIs_int s k t) F.entry_int_rmul (F.args_int_rmul_2 _ _) (int_rmul_tuple k t l its.toArray n dd sl)
      ⟨ho, rfl, ⟨_, ho, rfl⟩, call_meets F.slot_tuple_mul ⟨_, ho, rfl⟩ F.entry_tuple_mul (F.args_tuple_mul_2 _ _) (tuple_mulW l its.toArray n dd sl k t c0 c1 c2 (by omega) c4 (by rw [size_rep, List.size_toArray]; exact flen)) ⟨ho, ?_⟩⟩)
  rw [size_rep]
  refine ⟨.ref s.heap.objs.size, _, I.laid (t' := s.toks) (o := .frz { cls := .type "tuple", data := .seq (List.replicate k.toNat its).flatten.toArray } (.tup (List.replicate k.toNat xs).flatten)) (fun b ob q => Heap.get?_push_of_some _ q) (Nat.le_refl _) ?_, rfl, q _ _ (I.hok.fresh (Nat.le_refl _)) rfl⟩
  exact ⟨Heap.get?_push_size _ rfl, by rw [PyProof.Rows.lm_len_rep_flat, sizeLine_eq]; have a1 : k.toNat * xs.length ≤ 1000 * 1000 := Nat.mul_le_mul (by omega) hz; omega, _, r.rep k.toNat, IsTup.new _ _⟩
theorem sl_tupF : SlR X (fun x lo hi H Q => ∃ a xs, x = .ref a ∧ SqT X.K H a xs ∧
    (HT.sIx xs.length 0 lo = 0 ∧ HT.sIx xs.length xs.length hi = xs.length → Q (.ref a) H) ∧ (¬ (HT.sIx xs.length 0 lo = 0 ∧ HT.sIx xs.length xs.length hi = xs.length) → ∀ p ob, H p = none → ob.dict = none → Q (.ref p) (upd H p (.frz ob (.tup (cutV xs lo hi)))))) := by
  intro pins s σ H x v vl vu lo hi sl Q I rx hs pl pu h
  obtain ⟨a, xs, rfl, hx, q1, q2⟩ := h
  cases rx
  obtain ⟨its, r, ht, hz⟩ := I.tuple hx
  have hlen : its.toArray.size = xs.length := by rw [List.size_toArray]; exact r.length.symm
  refine ⟨"tuple", _, PyProof.Rows.slot_tuple_getitem.lookup, ht.typeIs, ?_⟩
  by_cases hw : HT.sIx xs.length 0 lo = 0 ∧ HT.sIx xs.length xs.length hi = xs.length
  · exact L2.getItem_tuple_whole ht hs pl pu (by rw [hlen]; exact hw) ⟨.ref a, H, I, rfl, q1 hw⟩
  · refine HT.getItem_tuple_cut ht hs pl pu (by rw [hlen]; exact hw) ?_ (by rw [hlen]; exact hz)
    rw [hlen]
    refine ⟨.ref s.heap.objs.size, _, I.laid (t' := s.toks) (o := .frz { cls := .type "tuple", data := .seq ((its.drop (HT.sIx xs.length 0 lo)).take (HT.sIx xs.length xs.length hi - HT.sIx xs.length 0 lo)).toArray } (.tup (cutV xs lo hi))) (fun b ob q => Heap.get?_push_of_some _ q) (Nat.le_refl _) ?_, rfl, q2 hw _ _ (I.hok.fresh (Nat.le_refl _)) rfl⟩
    exact ⟨Heap.get?_push_size _ rfl, Nat.le_trans (cutV_length xs lo hi) hz, _, (r.drop (HT.sIx xs.length 0 lo)).take (HT.sIx xs.length xs.length hi - HT.sIx xs.length 0 lo), IsTup.new _ _⟩
theorem call_tupleF : CallR X (.type "tuple") (fun xs H Q => ∃ p ys, xs = [.ref p] ∧ ((SqL X.K H p ys ∧ ∀ l ob, H l = none → ob.dict = none → Q (.ref l) (upd H l (.frz ob (.tup ys)))) ∨ (SqT X.K H p ys ∧ Q (.ref p) H))) := by
  intro pins s σ H xs us Q I r h
  obtain ⟨p, ys, rfl, h⟩ := h
  obtain ⟨u, rfl, rx⟩ := vals1 r
  cases rx
  rcases h with ⟨hq, q⟩ | ⟨hq, q⟩
  · obtain ⟨its, r', pl, hz⟩ := I.list hq
    have hlen := r'.length
    refine call_tuple_list pl.isList (fun h' kp => ?_) (by simp only [List.size_toArray] <;> omega)
    have I1 : L2.Inv X pins σ H { s with heap := h' } := I.kept (t' := s.toks) kp
    have I2 : L2.Inv X pins σ (upd H h'.objs.size (.frz { cls := .type "tuple", data := .seq its.toArray } (.tup ys))) { s with heap := h'.push { cls := .type "tuple", data := .seq its.toArray } } :=
      I1.laid (t' := s.toks) (fun b o e => Heap.get?_push_of_some _ e) (Nat.le_refl _) (show ObjOk X.prog X.w _ _ _ (.frz _ (.tup ys)) from ⟨Heap.get?_push_size _ rfl, hz, its, r', IsTup.new _ _⟩)
    exact ⟨.ref h'.objs.size, _, I2, rfl, q _ _ (I1.hok.fresh (Nat.le_refl _)) rfl⟩
  · obtain ⟨its, r', pl, hz⟩ := I.tuple hq
    exact call_tuple_same pl ⟨.ref p, H, I, rfl, q⟩
def tTupF (t : TA) : TE := fun σ H Q => t σ H fun xs H1 => xs.length ≤ sizeLine ∧ ∀ p ob, H1 p = none → ob.dict = none → Q (.ref p) (upd H1 p (.frz ob (.tup xs)))
theorem pe_tupF {es : List Expr} {x1 : Nat} {pos : Pos} {t : TA} (h : PA X es t) : PE X (.Tuple es x1 pos) (tTupF t) := by
  refine ⟨fun pins s σ H Q I hq => ?_⟩
  refine wpAny_Tuple_spliced (thn (h.run pos pins s σ H _ I hq) fun us s1 ⟨xs, H1, I1, r, z, q⟩ => ⟨by rw [← r.length]; exact z, ?_⟩)
  have hf : H1 s1.heap.objs.size = none := I1.hok.fresh (Nat.le_refl _)
  refine ⟨.ref s1.heap.objs.size, upd H1 s1.heap.objs.size (.frz { cls := .type "tuple", data := .seq us.toArray } (.tup xs)), I1.laid (t' := s1.toks) (fun b u e => Heap.get?_push_of_some _ e) (Nat.le_refl _) ?_, rfl, q _ _ hf rfl⟩
  exact ⟨Heap.get?_push_size _ rfl, z, us, r, ⟨_, Heap.get?_push_size _ rfl, rfl, _, rfl⟩⟩
theorem op_addD : OpR X (binaryOp .Add) (rOp X.K cl addD) := by
  intro pins s σ H x y v u Q I rx ry ⟨G, d, e, fx, fy, z, gh, hd, he, hz, q⟩
  unfold addD at hz
  split at hz <;> try (cases hz)
  · rw [hd.int] at rx; rw [he.int] at ry
    exact op_add pins s σ H _ _ v u Q I rx ry ⟨_, _, rfl, rfl, q _ _ _ _ (New.int gh _)⟩
  · split at hz <;> cases hz
    rename_i hl
    rw [hd.str] at rx; rw [he.str] at ry
    exact op_add_str pins s σ H _ _ v u Q I rx ry ⟨_, _, rfl, rfl, hl, q _ _ _ _ (New.str gh _)⟩
  · split at hz <;> cases hz
    rename_i hl
    obtain ⟨a, vs, rfl, h1, h2, h3⟩ := hd.tup gh
    obtain ⟨b, us, rfl, k1, k2, k3⟩ := he.tup gh
    refine op_catF pins s σ H _ _ v u Q I rx ry ⟨a, b, vs, us, rfl, rfl, h2, k2, by rw [← h3.len, ← k3.len]; exact hl, fun e0 => ?_, fun e0 e1 => ?_, fun e0 e1 p ob hp ho => ?_⟩
    · subst e0
      obtain rfl := h3.nilD
      exact q _ _ _ _ (New.same gh (by unfold RepF; exact ⟨b, us, rfl, k1, k3⟩))
    · subst e1
      obtain rfl := k3.nilD
      rw [List.append_nil] at q
      exact q _ _ _ _ (New.same gh (by unfold RepF; exact ⟨a, vs, rfl, h1, h3⟩))
    · exact q _ _ _ _ (New.tup gh (RepFs.app h3 k3) hp ho)
  · split at hz <;> cases hz
    rename_i hl
    obtain ⟨a, vs, rfl, h2, h3⟩ := hd.lst gh
    obtain ⟨b, us, rfl, k2, k3⟩ := he.lst gh
    exact op_catL pins s σ H _ _ v u Q I rx ry ⟨a, b, vs, us, rfl, rfl, h2, k2, by rw [← h3.len, ← k3.len]; exact hl, fun p hp => q _ _ _ _ (New.lst gh (RepFs.app h3 k3) hp)⟩
theorem op_subD : OpR X (binaryOp .Sub) (rOp X.K cl subD) := by
  intro pins s σ H x y v u Q I rx ry ⟨G, d, e, fx, fy, z, gh, hd, he, hz, q⟩
  unfold subD at hz
  split at hz <;> try (cases hz)
  rw [hd.int] at rx; rw [he.int] at ry
  exact op_sub pins s σ H _ _ v u Q I rx ry ⟨_, _, rfl, rfl, q _ _ _ _ (New.int gh _)⟩
theorem op_mulD : OpR X (binaryOp .Mult) (rOp X.K cl mulD) := by
  intro pins s σ H x y v u Q I rx ry ⟨G, d, e, fx, fy, z, gh, hd, he, hz, q⟩
  unfold mulD at hz
  split at hz <;> try (cases hz)
  · split at hz <;> cases hz
    rename_i hl
    rw [hd.int] at rx; rw [he.int] at ry
    refine op_mul pins s σ H _ _ v u Q I rx ry ⟨_, _, rfl, rfl, ?_, q _ _ _ _ (New.int gh _)⟩
    simp only [smallM, Bool.or_eq_true, Bool.and_eq_true, decide_eq_true_eq] at hl
    exact hl
  · split at hz <;> cases hz
    rename_i xs k hl
    obtain ⟨h1, h2, h3, h4⟩ := hl
    rw [he.int] at ry
    obtain ⟨a, vs, rfl, k1, k2, k3⟩ := hd.tup gh
    by_cases hk : k = 1
    · subst hk
      have e1 : (List.replicate (Int.toNat 1) xs).flatten = xs := by simp
      rw [e1] at q
      exact op_repT1 pins s σ H _ _ v u Q I rx ry ⟨a, vs, rfl, rfl, k2, q _ _ _ _ (New.same gh (by unfold RepF; exact ⟨a, vs, rfl, k1, k3⟩))⟩
    · refine op_repF pins s σ H _ _ v u Q I rx ry ⟨a, k, vs, rfl, rfl, k2, fun e0 => ?_, by omega, h3, by rw [← k3.len]; exact h1, fun p ob hp ho => q _ _ _ _ (New.tup gh (RepFs.flat k3) hp ho)⟩
      subst e0
      obtain rfl := k3.nilD
      cases h4
theorem op_fdivD : OpR X (binaryOp .FloorDiv) (rOp X.K cl fdivD) := by
  intro pins s σ H x y v u Q I rx ry ⟨G, d, e, fx, fy, z, gh, hd, he, hz, q⟩
  unfold fdivD at hz
  split at hz <;> try (cases hz)
  split at hz <;> cases hz
  rename_i hl
  rw [hd.int] at rx; rw [he.int] at ry
  exact op_fdiv pins s σ H _ _ v u Q I rx ry ⟨_, _, rfl, rfl, hl, q _ _ _ _ (New.int gh _)⟩
theorem op_modD : OpR X (binaryOp .Mod) (rOp X.K cl modD) := by
  intro pins s σ H x y v u Q I rx ry ⟨G, d, e, fx, fy, z, gh, hd, he, hz, q⟩
  unfold modD at hz
  split at hz <;> try (cases hz)
  split at hz <;> cases hz
  rename_i hl
  rw [hd.int] at rx; rw [he.int] at ry
  exact op_mod pins s σ H _ _ v u Q I rx ry ⟨_, _, rfl, rfl, hl, q _ _ _ _ (New.int gh _)⟩
theorem op_powD : OpR X (binaryOp .Pow) (rOp X.K cl powD) := by
  intro pins s σ H x y v u Q I rx ry ⟨G, d, e, fx, fy, z, gh, hd, he, hz, q⟩
  unfold powD at hz
  split at hz <;> try (cases hz)
  split at hz <;> cases hz
  rename_i hl
  rw [hd.int] at rx; rw [he.int] at ry
  exact op_pow pins s σ H _ _ v u Q I rx ry ⟨_, _, rfl, rfl, ⟨hl.2.1, by omega, by omega⟩, q _ _ _ _ (New.int gh _)⟩
theorem op_binD {o : Operator} {o' : Op} (h : opOf o = some o') : OpR X (binaryOp o) (rOp X.K cl (opD o')) := by
  cases o <;> simp only [opOf, Option.some.injEq, reduceCtorEq] at h <;> subst h
  · exact op_addD
  · exact op_subD
  · exact op_mulD
  · exact op_modD
  · exact op_powD
  · exact op_fdivD
end
end GF
namespace GF
open PySem L2 PySem.Spec PyProof.Rows

section
variable {K : PySem.W.Frag} {cl : Cl} {G H : Hp}
mutual
theorem RepF.dp (gh : Same G H) : ∀ {d : D} {v : V} {p : PyData}, RepF K cl G d v → d.py = some p → Dp K H v p
  | .non, v, p, h, e => by
    unfold RepF at h; unfold D.py at e; subst h; cases e; exact .non
  | .bl b, v, p, h, e => by
    unfold RepF at h; unfold D.py at e; subst h; cases e; exact .bl b
  | .int i, v, p, h, e => by
    unfold RepF at h; unfold D.py at e; subst h; cases e; exact .int i
  | .str s, v, p, h, e => by
    unfold RepF at h; unfold D.py at e; subst h; cases e; exact .str s
  | .tup ds, v, p, h, e => by
    unfold RepF at h; unfold D.py at e
    obtain ⟨a, vs, rfl, h2, h3⟩ := h
    cases q : pysD ds with
    | none => rw [q] at e; cases e
    | some xs =>
      rw [q] at e; cases e
      exact .tup (sqT_mono gh h2.t) (RepFs.dp gh h3 q)
  | .lst o ds, v, p, h, e => by
    unfold RepF at h; unfold D.py at e
    obtain ⟨_, a, vs, rfl, h2, h3⟩ := h
    cases q : pysD ds with
    | none => rw [q] at e; cases e
    | some xs =>
      rw [q] at e; cases e
      exact .lst (sqL_mono gh h2) (RepFs.dp gh h3 q)
  | .dct _ _ _, _, _, _, e => by unfold D.py at e; cases e
  | .ins _ _ _ _, _, _, _, e => by unfold D.py at e; cases e
theorem RepFs.dp (gh : Same G H) : ∀ {ds : List D} {vs : List V} {ps : List PyData}, RepFs K cl G ds vs → pysD ds = some ps → DpAll K H vs ps
  | [], vs, ps, h, e => by
    unfold RepFs at h; unfold pysD at e; subst h; cases e; exact .nil
  | d :: ds, vs, ps, h, e => by
    unfold RepFs at h; unfold pysD at e
    obtain ⟨v, r, rfl, h2, h3⟩ := h
    cases q1 : d.py with
    | none => rw [q1] at e; cases e
    | some x =>
      cases q2 : pysD ds with
      | none => rw [q1, q2] at e; cases e
      | some xs =>
        rw [q1, q2] at e; cases e
        exact .cons (RepF.dp gh h2 q1) (RepFs.dp gh h3 q2)
end
theorem Rep.dp {d : D} {v : V} {f : List Addr} {p : PyData} (gh : Same G H) (h : Rep K cl G H d v f) (e : d.py = some p) : Dp K H v p := by
  cases d with
  | lst o ds =>
    obtain ⟨a, vs, rfl, h2, h3⟩ := h.lst gh
    unfold D.py at e
    cases q : pysD ds with
    | none => rw [q] at e; cases e
    | some xs =>
      rw [q] at e; cases e
      exact .lst h2 (RepFs.dp gh h3 q)
  | ins o k ns ds => unfold D.py at e; cases e
  | dct o ks vs => unfold D.py at e; cases e
  | _ => exact RepF.dp gh h.1 e
theorem eqD_inv {a b : D} {r : Bool} (h : eqD a b = some r) : ∃ p q, a.py = some p ∧ b.py = some q ∧ SeqAt.shaped p = true ∧ SeqAt.shaped q = true ∧ r = PyData.eqv p q := by
  unfold eqD at h
  cases e1 : a.py with
  | none => rw [e1] at h; cases h
  | some p =>
    cases e2 : b.py with
    | none => rw [e1, e2] at h; cases h
    | some q =>
      rw [e1, e2] at h
      simp only at h
      split at h
      · rename_i hs
        cases h
        rw [Bool.and_eq_true] at hs
        exact ⟨p, q, rfl, rfl, hs.1, hs.2, rfl⟩
      · cases h
theorem inD_inv {x : D} {ys : List D} {r : Bool} (h : inD x ys = some r) : ∃ p ps, x.py = some p ∧ pysD ys = some ps ∧ SeqAt.shaped p = true ∧ SeqAt.shaped (.list ps) = true ∧ r = ps.any fun z => PyData.eqv z p := by
  unfold inD at h
  cases e1 : x.py with
  | none => rw [e1] at h; cases h
  | some p =>
    cases e2 : pysD ys with
    | none => rw [e1, e2] at h; cases h
    | some q =>
      rw [e1, e2] at h
      simp only at h
      split at h
      · rename_i hs
        cases h
        rw [Bool.and_eq_true] at hs
        exact ⟨p, q, rfl, rfl, hs.1, hs.2, rfl⟩
      · cases h
theorem idxD_inv {x : D} {ys : List D} {k : Nat} (h : idxD x ys = some k) : ∃ p ps, x.py = some p ∧ pysD ys = some ps ∧ SeqAt.shaped p = true ∧ SeqAt.shaped (.list ps) = true ∧ ps.findIdx? (fun z => PyData.eqv z p) = some k := by
  unfold idxD at h
  cases e1 : x.py with
  | none => rw [e1] at h; cases h
  | some p =>
    cases e2 : pysD ys with
    | none => rw [e1, e2] at h; cases h
    | some q =>
      rw [e1, e2] at h
      simp only at h
      split at h
      · rename_i hs
        rw [Bool.and_eq_true] at hs
        exact ⟨p, q, rfl, rfl, hs.1, hs.2, h⟩
      · cases h
end
section
variable {X : Cx} {cl : Cl}
theorem op_eqDD (hu : X.A.units + 64 < cLine) : OpR X (compareOp .Eq) (rOp X.K cl (opD .eq)) := by
  intro pins s σ H x y v u Q I rx ry ⟨G, d, e, fx, fy, z, gh, hd, he, hz, q⟩
  simp only [opD, Option.map_eq_some_iff] at hz
  obtain ⟨r, h1, rfl⟩ := hz
  obtain ⟨p1, p2, e1, e2, s1, s2, rfl⟩ := eqD_inv h1
  exact op_eqD hu pins s σ H _ _ v u Q I rx ry ⟨p1, p2, hd.dp gh e1, he.dp gh e2, s1, s2, q _ _ _ _ (New.bl gh _)⟩
theorem op_neDD (hu : X.A.units + 64 < cLine) : OpR X (compareOp .NotEq) (rOp X.K cl (opD .ne)) := by
  intro pins s σ H x y v u Q I rx ry ⟨G, d, e, fx, fy, z, gh, hd, he, hz, q⟩
  simp only [opD, Option.map_eq_some_iff] at hz
  obtain ⟨r, h1, rfl⟩ := hz
  obtain ⟨p1, p2, e1, e2, s1, s2, rfl⟩ := eqD_inv h1
  exact op_neD hu pins s σ H _ _ v u Q I rx ry ⟨p1, p2, hd.dp gh e1, he.dp gh e2, s1, s2, q _ _ _ _ (New.bl gh _)⟩
theorem op_cmpDD {o : CmpOp} {c : Cmp} (hi : OpR X (compareOp o) (rI0 fun i j => .bl (cmpI c i j))) (hs : OpR X (compareOp o) (fun x y H Q => ∃ i j, x = .str i ∧ y = .str j ∧ Q (.bl (cmpS c i j)) H)) :
    OpR X (compareOp o) (rOp X.K cl fun a b => (cmpD c a b).map .bl) := by
  intro pins s σ H x y v u Q I rx ry ⟨G, d, e, fx, fy, z, gh, hd, he, hz, q⟩
  simp only [Option.map_eq_some_iff] at hz
  obtain ⟨r, h1, rfl⟩ := hz
  unfold cmpD at h1
  split at h1 <;> cases h1
  · rw [hd.int] at rx; rw [he.int] at ry
    exact hi pins s σ H _ _ v u Q I rx ry ⟨_, _, rfl, rfl, q _ _ _ _ (New.bl gh _)⟩
  · rw [hd.str] at rx; rw [he.str] at ry
    exact hs pins s σ H _ _ v u Q I rx ry ⟨_, _, rfl, rfl, q _ _ _ _ (New.bl gh _)⟩
theorem op_isinDD (hu : X.A.units + 65 < cLine) : OpR X (compareOp .In) (rOp X.K cl (opD .isin)) := by
  intro pins s σ H x y v u Q I rx ry ⟨G, d, e, fx, fy, z, gh, hd, he, hz, q⟩
  simp only [opD, Option.map_eq_some_iff] at hz
  obtain ⟨r, h1, rfl⟩ := hz
  unfold isinD at h1
  split at h1
  · cases h1
    rw [hd.str] at rx; rw [he.str] at ry
    exact op_in_str pins s σ H _ _ v u Q I rx ry ⟨_, _, rfl, rfl, q _ _ _ _ (New.bl gh _)⟩
  · obtain ⟨p, ps, e1, e2, s1, s2, rfl⟩ := inD_inv h1
    obtain ⟨as, r1⟩ := Dp.reads I p x v (hd.dp gh e1) rx
    obtain ⟨a, vs, rfl, k1, k2, k3⟩ := he.tup gh
    obtain ⟨bs, r2⟩ := Dp.reads I (.tuple ps) _ u (.tup k2 (RepFs.dp gh k3 e2)) ry
    exact SeqAt.in_tuple_reads r2 r1 (SeqAt.canLay_of_shaped s2) (SeqAt.canLay_of_shaped s1) (room_in_shaped s1 hu) ⟨.bl _, H, I, rfl, q _ _ _ _ (New.bl gh _)⟩
  · obtain ⟨p, ps, e1, e2, s1, s2, rfl⟩ := inD_inv h1
    obtain ⟨a, vs, rfl, k2, k3⟩ := he.lst gh
    exact op_inD hu pins s σ H _ _ v u Q I rx ry ⟨p, ps, hd.dp gh e1, .lst k2 (RepFs.dp gh k3 e2), s1, s2, q _ _ _ _ (New.bl gh _)⟩
  · split at h1
    · rename_i hat
      cases h1
      obtain ⟨a, w, rfl, g, hw, _⟩ := dct_get gh he hd hat
      cases ry
      exact d_in (by omega) I g rx fun s' I' => ⟨.bl _, H, I', by rw [hw]; rfl, q _ _ _ _ (New.bl gh _)⟩
    · cases h1
  · cases h1
theorem op_notinDD (hu : X.A.units + 65 < cLine) : OpR X (compareOp .NotIn) (rOp X.K cl (opD .notin)) := by
  intro pins s σ H x y v u Q I rx ry ⟨G, d, e, fx, fy, z, gh, hd, he, hz, q⟩
  simp only [opD, Option.map_eq_some_iff] at hz
  obtain ⟨r, h1, rfl⟩ := hz
  unfold isinD at h1
  split at h1
  · cases h1
    rw [hd.str] at rx; rw [he.str] at ry
    exact op_notin_str pins s σ H _ _ v u Q I rx ry ⟨_, _, rfl, rfl, q _ _ _ _ (New.bl gh _)⟩
  · obtain ⟨p, ps, e1, e2, s1, s2, rfl⟩ := inD_inv h1
    obtain ⟨as, r1⟩ := Dp.reads I p x v (hd.dp gh e1) rx
    obtain ⟨a, vs, rfl, k1, k2, k3⟩ := he.tup gh
    obtain ⟨bs, r2⟩ := Dp.reads I (.tuple ps) _ u (.tup k2 (RepFs.dp gh k3 e2)) ry
    exact SeqAt.notIn_tuple_reads r2 r1 (SeqAt.canLay_of_shaped s2) (SeqAt.canLay_of_shaped s1) (room_in_shaped s1 hu) ⟨.bl _, H, I, rfl, q _ _ _ _ (New.bl gh _)⟩
  · obtain ⟨p, ps, e1, e2, s1, s2, rfl⟩ := inD_inv h1
    obtain ⟨a, vs, rfl, k2, k3⟩ := he.lst gh
    exact op_notInD hu pins s σ H _ _ v u Q I rx ry ⟨p, ps, hd.dp gh e1, .lst k2 (RepFs.dp gh k3 e2), s1, s2, q _ _ _ _ (New.bl gh _)⟩
  · split at h1
    · rename_i hat
      cases h1
      obtain ⟨a, w, rfl, g, hw, _⟩ := dct_get gh he hd hat
      cases ry
      exact d_notIn (by omega) I g rx fun s' I' => ⟨.bl _, H, I', by rw [hw]; rfl, q _ _ _ _ (New.bl gh _)⟩
    · cases h1
  · cases h1
theorem isNone_inv {a b : D} {r : Bool} {K : PySem.W.Frag} {G H : Hp} {v u : V} {f1 f2 : List Addr} (h : isNoneD a b = some r) (hd : Rep K cl G H a v f1) (he : Rep K cl G H b u f2) (gh : Same G H) : u = .non ∧ r = decide (v = .non) := by
  cases b with
  | non =>
    refine ⟨he.non, ?_⟩
    cases a with
    | non => cases h; rw [hd.non]; simp
    | bl x => cases h; rw [hd.bl]; simp
    | int x => cases h; rw [hd.int]; simp
    | str x => cases h; rw [hd.str]; simp
    | tup x => cases h; obtain ⟨a, vs, rfl, _⟩ := hd.tup gh; simp
    | lst o x => cases h; obtain ⟨a, vs, rfl, _⟩ := hd.lst gh; simp
    | dct o x y =>
      cases h
      obtain ⟨a, kvs, rfl, _⟩ := hd.dct gh
      simp
    | ins o k ns ds =>
      cases h
      cases o with
      | true => obtain ⟨a, C, dx, vs, rfl, _⟩ := hd; simp
      | false => have h1 := hd.1; unfold RepF at h1; obtain ⟨_, a, C, dx, vs, rfl, _⟩ := h1; simp
  | _ => cases a <;> cases h
theorem op_isDD : OpR X (compareOp .Is) (rOp X.K cl (opD .is_)) := by
  intro pins s σ H x y v u Q I rx ry ⟨G, d, e, fx, fy, z, gh, hd, he, hz, q⟩
  simp only [opD, Option.map_eq_some_iff] at hz
  obtain ⟨r, h1, rfl⟩ := hz
  obtain ⟨rfl, rfl⟩ := isNone_inv h1 hd he gh
  exact op_isN pins s σ H _ _ v u Q I rx ry ⟨rfl, q _ _ _ _ (New.bl gh _)⟩
theorem op_isnotDD : OpR X (compareOp .IsNot) (rOp X.K cl (opD .isnot)) := by
  intro pins s σ H x y v u Q I rx ry ⟨G, d, e, fx, fy, z, gh, hd, he, hz, q⟩
  simp only [opD, Option.map_eq_some_iff] at hz
  obtain ⟨r, h1, rfl⟩ := hz
  obtain ⟨rfl, rfl⟩ := isNone_inv h1 hd he gh
  exact op_notN pins s σ H _ _ v u Q I rx ry ⟨rfl, q _ _ _ _ (New.bl gh _)⟩
theorem op_cmpAll (hu : X.A.units + 65 < cLine) (o : CmpOp) : OpR X (compareOp o) (rOp X.K cl (opD (cmpOf o))) := by
  cases o with
  | Eq => exact op_eqDD (by omega)
  | NotEq => exact op_neDD (by omega)
  | Lt => exact op_cmpDD op_lt op_lt_str
  | LtE => exact op_cmpDD op_le op_le_str
  | Gt => exact op_cmpDD op_gt op_gt_str
  | GtE => exact op_cmpDD op_ge op_ge_str
  | Is => exact op_isDD
  | IsNot => exact op_isnotDD
  | In => exact op_isinDD hu
  | NotIn => exact op_notinDD hu
end
end GF
namespace GF
open PySem L2 PySem.Spec PyProof.Rows

section
variable {X : Cx} {cl : Cl}
theorem RepFs.at {K : PySem.W.Frag} {G : Hp} {ds : List D} {vs : List V} {i : Int} {d : D} (h : RepFs K cl G ds vs) (e : atI ds i = some d) : ∃ v, atI vs i = some v ∧ RepF K cl G d v := by
  unfold atI at e ⊢
  rw [← h.len]
  cases q : ixN ds.length i with
  | none => rw [q] at e; cases e
  | some j =>
    rw [q] at e
    exact h.get (i := j) e
theorem ix_D (hu : X.A.units + 1 < cLine) : IxR X (rOp X.K cl ixD) := by
  intro value slice pins s σ H x y v u Q I rx ry ⟨G, d, e, fx, fy, z, gh, hd, he, hz, q⟩ hs
  unfold ixD at hz
  split at hz
  · obtain ⟨a, vs, rfl, k1, k2, k3⟩ := hd.tup gh
    rw [he.int] at ry
    obtain ⟨w, hw, rw_⟩ := k3.at hz
    exact ix_tup value slice pins s σ H _ _ v u Q I rx ry ⟨a, vs, _, w, rfl, rfl, k2, hw, q _ _ _ _ (New.same gh rw_)⟩ hs
  · obtain ⟨a, vs, rfl, k2, k3⟩ := hd.lst gh
    rw [he.int] at ry
    obtain ⟨w, hw, rw_⟩ := k3.at hz
    exact ix_list value slice pins s σ H _ _ v u Q I rx ry ⟨a, vs, _, w, rfl, rfl, k2, hw, q _ _ _ _ (New.same gh rw_)⟩ hs
  · split at hz
    · rename_i hl
      simp only [Option.map_eq_some_iff] at hz
      obtain ⟨c, hc, rfl⟩ := hz
      rw [hd.str] at rx; rw [he.int] at ry
      exact ix_str value slice pins s σ H _ _ v u Q I rx ry ⟨_, _, c, rfl, rfl, hl, hc, q _ _ _ _ (New.str gh _)⟩ hs
    · cases hz
  · split at hz
    · rename_i hat
      cases hz
      obtain ⟨a, w, rfl, g, _, hw⟩ := dct_get gh hd he hat
      obtain ⟨x, rfl, rx'⟩ := hw _ rfl
      cases rx
      exact tail_any (dict_typeIs I g) PySem.F.slot_dict_getitem.lookup (d_getItem hu I g ry fun w' s3 I3 rw' => ⟨x, H, I3, rw', q _ _ _ _ (New.same gh rx')⟩) hs
    · cases hz
  · cases hz
theorem RepFs.cut {K : PySem.W.Frag} {G : Hp} {ds : List D} {vs : List V} {lo hi : Option Int} (h : RepFs K cl G ds vs) : RepFs K cl G (cutD ds lo hi) (cutV vs lo hi) := by
  unfold cutD cutV
  rw [h.len]
  exact (h.drop).take
/-- a slice by values -/
def rSlD (K : PySem.W.Frag) (cl : Cl) : V → Option Int → Option Int → Hp → VK → Prop := fun x lo hi H Q => ∃ G d fx z, Same G H ∧ Rep K cl G H d x fx ∧ slD d lo hi = some z ∧ ∀ v fv G' H', New K cl G H z v fv G' H' → Q v H'
theorem sl_D : SlR X (rSlD X.K cl) := by
  intro pins s σ H x v vl vu lo hi sl Q I rx hs pl pu ⟨G, d, fx, z, gh, hd, hz, q⟩
  unfold slD at hz
  split at hz
  · cases hz
    obtain ⟨a, vs, rfl, k1, k2, k3⟩ := hd.tup gh
    refine sl_tupF pins s σ H _ v vl vu _ _ sl Q I rx hs pl pu ⟨a, vs, rfl, k2, fun e => ?_, fun e p ob hp ho => q _ _ _ _ (New.tup gh k3.cut hp ho)⟩
    have c : cutV vs lo hi = vs := by
      unfold cutV; rw [e.1, e.2]; simp
    have c2 := k3.cut (lo := lo) (hi := hi)
    rw [c] at c2
    exact q _ _ _ _ (New.same gh (by unfold RepF; exact ⟨a, vs, rfl, k1, c2⟩))
  · cases hz
    obtain ⟨a, vs, rfl, k2, k3⟩ := hd.lst gh
    exact sl_list pins s σ H _ v vl vu _ _ sl Q I rx hs pl pu ⟨a, vs, rfl, k2, fun p hp => q _ _ _ _ (New.lst gh k3.cut hp)⟩
  · split at hz
    · cases hz
      rename_i hl
      rw [hd.str] at rx
      exact sl_str pins s σ H _ v vl vu _ _ sl Q I rx hs pl pu ⟨_, rfl, hl, q _ _ _ _ (New.str gh _)⟩
    · cases hz
  · cases hz

/-! ### built-ins -/
def tyName : Ty → String
  | .int => "int"
  | .str => "str"
  | .bool => "bool"
  | .tuple => "tuple"
  | .list => "list"
  | .dict => "dict"
theorem SqL.ty {K : PySem.W.Frag} {H : Hp} {a : Addr} {xs : List V} (h : SqL K H a xs) : TyX K H (.ref a) (.type "list") := by
  rcases h with (h | ⟨o, h⟩) | ⟨o, its, n, h, hc, _⟩
  · exact .base (.lst h)
  · exact .base (.frz h)
  · exact .kList h hc
theorem SqT.ty {K : PySem.W.Frag} {H : Hp} {a : Addr} {xs : List V} (h : SqT K H a xs) : TyX K H (.ref a) (.type "tuple") := by
  rcases h with (h | ⟨o, h⟩) | ⟨o, its, n, h, hc, _⟩
  · exact .base (.tup h)
  · exact .fTuple h
  · exact .kTuple h hc
theorem isTy_kit {K : PySem.W.Frag} {G H : Hp} {d : D} {v : V} {f : List Addr} {t : Ty} {b : Bool} (gh : Same G H) (h : Rep K cl G H d v f) (e : isTy d t = some b) : ∃ u, TyX K H v u ∧ PySem.W.kitOne K u (.type (tyName t)) = some b := by
  cases d with
  | non =>
    rw [h.non]; refine ⟨_, .base .non, ?_⟩
    cases t <;> (simp only [isTy, Option.some.injEq] at e; subst e; exact kit_ty (by decide +kernel))
  | bl x =>
    rw [h.bl]; refine ⟨_, .base (.bl x), ?_⟩
    cases t <;> (simp only [isTy, Option.some.injEq] at e; subst e; exact kit_ty (by decide +kernel))
  | int x =>
    rw [h.int]; refine ⟨_, .base (.int x), ?_⟩
    cases t <;> (simp only [isTy, Option.some.injEq] at e; subst e; exact kit_ty (by decide +kernel))
  | str x =>
    rw [h.str]; refine ⟨_, .base (.str x), ?_⟩
    cases t <;> (simp only [isTy, Option.some.injEq] at e; subst e; exact kit_ty (by decide +kernel))
  | tup x =>
    obtain ⟨a, vs, rfl, _, k2, _⟩ := h.tup gh
    refine ⟨_, SqT.ty k2, ?_⟩
    cases t <;> (simp only [isTy, Option.some.injEq] at e; subst e; exact kit_ty (by decide +kernel))
  | lst o x =>
    obtain ⟨a, vs, rfl, k2, _⟩ := h.lst gh
    refine ⟨_, SqL.ty k2, ?_⟩
    cases t <;> (simp only [isTy, Option.some.injEq] at e; subst e; exact kit_ty (by decide +kernel))
  | dct o ks vs => cases t <;> cases e
  | ins o k ns ds => cases t <;> cases e
/-- a call by values -/
def Reps (K : PySem.W.Frag) (cl : Cl) (G H : Hp) : List D → List V → Prop
  | [], vs => vs = []
  | d :: ds, vs => ∃ v r f, vs = v :: r ∧ Rep K cl G H d v f ∧ Reps K cl G H ds r
def rBi (K : PySem.W.Frag) (cl : Cl) (g : List D → Option D) : List V → Hp → VK → Prop := fun xs H Q => ∃ G ds z, Same G H ∧ Reps K cl G H ds xs ∧ g ds = some z ∧ ∀ v fv G' H', New K cl G H z v fv G' H' → Q v H'
theorem Reps.one {K : PySem.W.Frag} {G H : Hp} {d : D} {vs : List V} (h : Reps K cl G H [d] vs) : ∃ v f, vs = [v] ∧ Rep K cl G H d v f := by
  unfold Reps at h
  obtain ⟨v, r, f, rfl, h1, h2⟩ := h
  unfold Reps at h2
  subst h2
  exact ⟨v, f, rfl, h1⟩
theorem Reps.two {K : PySem.W.Frag} {G H : Hp} {d e : D} {vs : List V} (h : Reps K cl G H [d, e] vs) : ∃ v u f g, vs = [v, u] ∧ Rep K cl G H d v f ∧ Rep K cl G H e u g := by
  unfold Reps at h
  obtain ⟨v, r, f, rfl, h1, h2⟩ := h
  obtain ⟨u, g, rfl, h3⟩ := h2.one
  exact ⟨v, u, f, g, rfl, h1, h3⟩
theorem boolsD_V {K : PySem.W.Frag} {G : Hp} : ∀ {ds : List D} {vs : List V} {l : List Bool}, boolsD ds = some l → RepFs K cl G ds vs → vs = l.map V.bl
  | [], vs, l, e, h => by unfold boolsD at e; unfold RepFs at h; cases e; subst h; rfl
  | d :: ds, vs, l, e, h => by
    cases d <;> simp only [boolsD, reduceCtorEq] at e
    rw [Option.map_eq_some_iff] at e
    obtain ⟨r, e1, rfl⟩ := e
    unfold RepFs at h
    obtain ⟨v, r', rfl, h1, h2⟩ := h
    unfold RepF at h1
    subst h1
    rw [boolsD_V e1 h2]; rfl
theorem intsD_V {K : PySem.W.Frag} {G : Hp} : ∀ {ds : List D} {vs : List V} {l : List Int}, intsD ds = some l → RepFs K cl G ds vs → vs = l.map V.int
  | [], vs, l, e, h => by unfold intsD at e; unfold RepFs at h; cases e; subst h; rfl
  | d :: ds, vs, l, e, h => by
    cases d <;> simp only [intsD, reduceCtorEq] at e
    rw [Option.map_eq_some_iff] at e
    obtain ⟨r, e1, rfl⟩ := e
    unfold RepFs at h
    obtain ⟨v, r', rfl, h1, h2⟩ := h
    unfold RepF at h1
    subst h1
    rw [intsD_V e1 h2]; rfl
theorem strsD_V {K : PySem.W.Frag} {G : Hp} : ∀ {ds : List D} {vs : List V} {l : List Str}, strsD ds = some l → RepFs K cl G ds vs → vs = l.map V.str
  | [], vs, l, e, h => by unfold strsD at e; unfold RepFs at h; cases e; subst h; rfl
  | d :: ds, vs, l, e, h => by
    cases d <;> simp only [strsD, reduceCtorEq] at e
    rw [Option.map_eq_some_iff] at e
    obtain ⟨r, e1, rfl⟩ := e
    unfold RepFs at h
    obtain ⟨v, r', rfl, h1, h2⟩ := h
    unfold RepF at h1
    subst h1
    rw [strsD_V e1 h2]; rfl

theorem bi_len : CallR X (.builtin "len") (rBi X.K cl lenB) := by
  intro pins s σ H xs us Q I r ⟨G, ds, z, gh, h, hz, q⟩
  unfold lenB at hz
  split at hz
  · split at hz
    · rename_i hl
      cases hz
      obtain ⟨v, f, rfl, hv⟩ := h.one
      rw [hv.str] at r
      exact call_len_str pins s σ H _ us Q I r ⟨_, rfl, hl, q _ _ _ _ (New.int gh _)⟩
    · cases hz
  · cases hz
    obtain ⟨v, f, rfl, hv⟩ := h.one
    obtain ⟨a, vs, rfl, k1, k2, k3⟩ := hv.tup gh
    exact call_len_seq pins s σ H _ us Q I r ⟨a, vs, rfl, .inr k2, by rw [← k3.len]; exact q _ _ _ _ (New.int gh _)⟩
  · cases hz
    obtain ⟨v, f, rfl, hv⟩ := h.one
    obtain ⟨a, vs, rfl, k2, k3⟩ := hv.lst gh
    exact call_len_seq pins s σ H _ us Q I r ⟨a, vs, rfl, .inl k2, by rw [← k3.len]; exact q _ _ _ _ (New.int gh _)⟩
  · split at hz
    · rename_i hl
      cases hz
      obtain ⟨v, f, rfl, hv⟩ := h.one
      obtain ⟨a, kvs, rfl, k1, k2, k3⟩ := hv.dct gh
      obtain ⟨u, rfl, ru⟩ := vals1 r
      cases ru
      have e := k3.len
      rw [List.length_map, ← hl] at e
      exact d_len I k1 fun t s' I' => ⟨.int kvs.length, H, I', ⟨t, rfl⟩, by rw [← e]; exact q _ _ _ _ (New.int gh _)⟩
    · cases hz
  · cases hz
theorem bi_int : CallR X (.type "int") (rBi X.K cl intB) := by
  intro pins s σ H xs us Q I r ⟨G, ds, z, gh, h, hz, q⟩
  unfold intB at hz
  split at hz <;> cases hz
  · obtain ⟨v, f, rfl, hv⟩ := h.one
    rw [hv.int] at r
    exact call_int1 pins s σ H _ us Q I r (.inl ⟨_, rfl, q _ _ _ _ (New.int gh _)⟩)
  · obtain ⟨v, f, rfl, hv⟩ := h.one
    rw [hv.bl] at r
    exact call_int1 pins s σ H _ us Q I r (.inr ⟨_, rfl, q _ _ _ _ (New.int gh _)⟩)
theorem bi_abs : CallR X (.builtin "abs") (rBi X.K cl absB) := by
  intro pins s σ H xs us Q I r ⟨G, ds, z, gh, h, hz, q⟩
  unfold absB at hz
  split at hz <;> cases hz
  obtain ⟨v, f, rfl, hv⟩ := h.one
  rw [hv.int] at r
  exact call_abs pins s σ H _ us Q I r ⟨_, rfl, q _ _ _ _ (New.int gh _)⟩
theorem bi_tuple : CallR X (.type "tuple") (rBi X.K cl tupleB) := by
  intro pins s σ H xs us Q I r ⟨G, ds, z, gh, h, hz, q⟩
  unfold tupleB at hz
  split at hz <;> cases hz
  · obtain ⟨v, f, rfl, hv⟩ := h.one
    obtain ⟨a, vs, rfl, k2, k3⟩ := hv.lst gh
    exact call_tupleF pins s σ H _ us Q I r ⟨a, vs, rfl, .inl ⟨k2, fun p ob hp ho => q _ _ _ _ (New.tup gh k3 hp ho)⟩⟩
  · obtain ⟨v, f, rfl, hv⟩ := h.one
    obtain ⟨a, vs, rfl, k1, k2, k3⟩ := hv.tup gh
    exact call_tupleF pins s σ H _ us Q I r ⟨a, vs, rfl, .inr ⟨k2, q _ _ _ _ (New.same gh (by unfold RepF; exact ⟨a, vs, rfl, k1, k3⟩))⟩⟩
theorem bi_list (hc : X.calm = true) : CallR X (.type "list") (rBi X.K cl listB) := by
  intro pins s σ H xs us Q I r ⟨G, ds, z, gh, h, hz, q⟩
  unfold listB at hz
  split at hz <;> cases hz
  · obtain ⟨v, f, rfl, hv⟩ := h.one
    obtain ⟨a, vs, rfl, k2, k3⟩ := hv.lst gh
    exact call_list_of pins s σ H _ us Q I r ⟨a, vs, rfl, .inl k2, fun p hp => q _ _ _ _ (New.lst gh k3 hp)⟩
  · obtain ⟨v, f, rfl, hv⟩ := h.one
    obtain ⟨a, vs, rfl, k1, k2, k3⟩ := hv.tup gh
    exact call_list_of pins s σ H _ us Q I r ⟨a, vs, rfl, .inr k2, fun p hp => q _ _ _ _ (New.lst gh k3 hp)⟩
  · obtain ⟨v, f, rfl, hv⟩ := h.one
    obtain ⟨a, kvs, rfl, k1, k2, k3⟩ := hv.dct gh
    have k4 := keysD_V (K := X.K) (cl := cl) (G := G) k2
    rw [List.map_map] at k4
    exact call_listD hc pins s σ H _ us Q I r ⟨a, kvs, rfl, k1, fun p hp => q _ _ _ _ (New.lst gh k4 hp)⟩
theorem bi_all (hc : X.calm = true) : CallR X (.builtin "all") (rBi X.K cl allB) := by
  intro pins s σ H xs us Q I r ⟨G, ds, z, gh, h, hz, q⟩
  unfold allB at hz
  split at hz
  · split at hz <;> cases hz
    rename_i l e
    obtain ⟨v, f, rfl, hv⟩ := h.one
    obtain ⟨a, vs, rfl, k2, k3⟩ := hv.lst gh
    obtain rfl := boolsD_V e k3
    exact cr_all hc pins s σ H _ us Q I r ⟨a, l, rfl, k2, q _ _ _ _ (New.bl gh _)⟩
  · cases hz
theorem bi_any (hc : X.calm = true) : CallR X (.builtin "any") (rBi X.K cl anyB) := by
  intro pins s σ H xs us Q I r ⟨G, ds, z, gh, h, hz, q⟩
  unfold anyB at hz
  split at hz
  · split at hz <;> cases hz
    rename_i l e
    obtain ⟨v, f, rfl, hv⟩ := h.one
    obtain ⟨a, vs, rfl, k2, k3⟩ := hv.lst gh
    obtain rfl := boolsD_V e k3
    exact cr_any hc pins s σ H _ us Q I r ⟨a, l, rfl, k2, q _ _ _ _ (New.bl gh _)⟩
  · cases hz
theorem bi_sum (hc : X.calm = true) : CallR X (.builtin "sum") (rBi X.K cl sumB) := by
  intro pins s σ H xs us Q I r ⟨G, ds, z, gh, h, hz, q⟩
  unfold sumB at hz
  split at hz
  · split at hz <;> cases hz
    rename_i l e
    obtain ⟨v, f, rfl, hv⟩ := h.one
    obtain ⟨a, vs, rfl, k2, k3⟩ := hv.lst gh
    obtain rfl := intsD_V e k3
    exact cr_sum hc pins s σ H _ us Q I r ⟨a, l, rfl, k2, q _ _ _ _ (New.int gh _)⟩
  · cases hz
theorem bi_max (hc : X.calm = true) : CallR X (.builtin "max") (rBi X.K cl maxB) := by
  intro pins s σ H xs us Q I r ⟨G, ds, z, gh, h, hz, q⟩
  unfold maxB at hz
  split at hz <;> cases hz
  obtain ⟨v, u, f, g, rfl, hv, hu⟩ := h.two
  rw [hv.int, hu.int] at r
  exact call_max2 hc pins s σ H _ us Q I r ⟨_, _, rfl, q _ _ _ _ (New.int gh _)⟩
/-! ### methods of built-in types -/
def rBm (K : PySem.W.Frag) (cl : Cl) (g : D → List D → Option D) : V → List V → Hp → VK → Prop := fun x xs H Q => ∃ G d ds f z, Same G H ∧ Rep K cl G H d x f ∧ Reps K cl G H ds xs ∧ g d ds = some z ∧ ∀ v fv G' H', New K cl G H z v fv G' H' → Q v H'
theorem findIdx_at {ps : List PyData} {p : PyData} {k : Nat} (h : ps.findIdx? (fun z => PyData.eqv z p) = some k) : ∃ z, ps[k]? = some z ∧ PyData.eqv z p = true ∧ ∀ (m : Nat) (z' : PyData), m < k → ps[m]? = some z' → PyData.eqv z' p = false := by
  rw [List.findIdx?_eq_some_iff_getElem] at h
  obtain ⟨hk, h1, h2⟩ := h
  refine ⟨ps[k], List.getElem?_eq_getElem hk, h1, fun m z' hm e => ?_⟩
  obtain ⟨hm2, rfl⟩ := List.getElem?_eq_some_iff.mp e
  have := h2 m hm
  cases q : PyData.eqv ps[m] p with
  | false => rfl
  | true => exact absurd q this
theorem mt_tup_indexD (hu : X.A.units + 65 < cLine) : MtR X "tuple.index" (fun x xs H Q => ∃ (a : Addr) (y : V) (d : PyData) (ds : List PyData) (j : Nat) (z : PyData), x = V.ref a ∧ xs = [y] ∧ Dp X.K H (V.ref a) (.tuple ds) ∧ Dp X.K H y d ∧
  SeqAt.shaped (.list ds) = true ∧ SeqAt.shaped d = true ∧ ds[j]? = some z ∧ PyData.eqv z d = true ∧ (∀ (m : Nat) (z' : PyData), m < j → ds[m]? = some z' → PyData.eqv z' d = false) ∧ Q (.int (j : Nat)) H) := by
  intro pins s σ H x xs v us Q I rx rxs h
  obtain ⟨a, y, d, ds, j, z, rfl, rfl, hl, hy, sl, sd, hz, hzj, hno, q⟩ := h
  cases rx
  cases rxs with
  | cons ry rt =>
    rename_i uy ut
    cases rt
    obtain ⟨bs, r1⟩ := Dp.reads I d y uy hy ry
    have hxs : PyData.canLayAll0 ds = true := SeqAt.canLay_of_shaped sl
    have hroom : X.A.units + 1 + min (PyData.depthAll ds) d.depth < cLine := room_in_shaped sd hu
    cases hl with
    | tup hs ha =>
      obtain ⟨its, rv, ⟨⟨cls, dd, data, sls⟩, ho, hc, n, hdt⟩, hlen⟩ := I.tuple hs
      simp only at hc hdt
      subst hc hdt
      obtain ⟨as, h4⟩ := Dp.readsAll I ds _ its ha rv
      have hn : its.length = ds.length := SeqAt.ReadsAll.length ds its as h4
      have hmap : its.map (SeqAt.readOf s.heap) = ds := SeqAt.readsAll_map ds its as hxs h4
      have hvl := rv.length
      obtain ⟨hjd, _⟩ := List.getElem?_eq_some_iff.mp hz
      have hjl : j < its.length := by omega
      have hj : j < its.toArray.size := by simpa using hjl
      have at_ : ∀ (m : Nat) (hm : m < its.toArray.size) (z' : PyData), ds[m]? = some z' → SeqAt.readOf s.heap its.toArray[m] = z' := by
        intro m hm z' hz'
        have hml : m < its.length := by simpa using hm
        rw [← hmap, List.getElem?_map, List.getElem?_eq_getElem hml] at hz'
        have e1 : SeqAt.readOf s.heap its[m] = z' := Option.some.inj (show some (SeqAt.readOf s.heap its[m]) = some z' from hz')
        simpa using e1
      refine call_meets PySem.F.slot_tuple_index ⟨_, ho, rfl⟩ PySem.F.entry_tuple_index (PySem.F.args_tuple_index_2 _ _)
        (TI.tuple_indexAt a its.toArray n dd sls uy (fun u => PyData.eqv (SeqAt.readOf s.heap u) d) j hj ?_ ?_) ⟨ho, SeqAt.items_eqAt (vs := its.toArray) (show ReadsAll s.heap its.toArray.toList ds as from h4) r1 hxs (SeqAt.canLay_of_shaped sd) hroom, ?_⟩
      · show PyData.eqv (SeqAt.readOf s.heap its.toArray[j]) d = true
        rw [at_ j hj z hz]
        exact hzj
      · intro m hm hmj
        have hmd : m < ds.length := by omega
        have hz' : ds[m]? = some ds[m] := List.getElem?_eq_getElem hmd
        show PyData.eqv (SeqAt.readOf s.heap its.toArray[m]) d = false
        rw [at_ m hm _ hz']
        exact hno m _ hmj hz'
      · exact ⟨.int (j : Nat), H, I.tok _, ⟨_, rfl⟩, q⟩
theorem bm_tup_index (hu : X.A.units + 65 < cLine) {pins : List (Addr × Obj)} {s : Shared} {σ : L2.St} {H : Hp} {x : V} {xs : List V} {v : Value} {us : List Value} {Q : VK} {G : Hp} {ds es : List D} {f : List Addr} {z : D}
    (I : L2.Inv X pins σ H s) (rx : RelV x v) (rxs : Vals xs us) (gh : Same G H) (hd : Rep X.K cl G H (.tup ds) x f) (hs : Reps X.K cl G H es xs) (hz : indexM (.tup ds) es = some z) (q : ∀ v fv G' H', New X.K cl G H z v fv G' H' → Q v H') :
    wpAny (model X.prog X.w) X.A (call (.builtin "tuple.index") (v :: us)) (EP X pins σ Q) X.xe s := by
  unfold indexM at hz
  split at hz
  · rename_i e1
    cases e1
    split at hz <;> cases hz
    rename_i k e
    obtain ⟨p, ps, e1, e2, s1, s2, e3⟩ := idxD_inv e
    obtain ⟨w, hw, h1, h2⟩ := findIdx_at e3
    obtain ⟨y, g, rfl, hy⟩ := hs.one
    obtain ⟨a, vs, rfl, k1, k2, k3⟩ := hd.tup gh
    exact mt_tup_indexD hu pins s σ H _ _ v us Q I rx rxs ⟨a, y, p, ps, k, w, rfl, rfl, .tup k2 (RepFs.dp gh k3 e2), hy.dp gh e1, s2, s1, hw, h1, h2, q _ _ _ _ (New.int gh _)⟩
  · rename_i e1; cases e1
  · cases hz
theorem bm_list_index (hu : X.A.units + 65 < cLine) {pins : List (Addr × Obj)} {s : Shared} {σ : L2.St} {H : Hp} {x : V} {xs : List V} {v : Value} {us : List Value} {Q : VK} {G : Hp} {o : Bool} {ds es : List D} {f : List Addr} {z : D}
    (I : L2.Inv X pins σ H s) (rx : RelV x v) (rxs : Vals xs us) (gh : Same G H) (hd : Rep X.K cl G H (.lst o ds) x f) (hs : Reps X.K cl G H es xs) (hz : indexM (.lst o ds) es = some z) (q : ∀ v fv G' H', New X.K cl G H z v fv G' H' → Q v H') :
    wpAny (model X.prog X.w) X.A (call (.builtin "list.index") (v :: us)) (EP X pins σ Q) X.xe s := by
  unfold indexM at hz
  split at hz
  · rename_i e1; cases e1
  · rename_i e1
    cases e1
    split at hz <;> cases hz
    rename_i k e
    obtain ⟨p, ps, e1, e2, s1, s2, e3⟩ := idxD_inv e
    obtain ⟨w, hw, h1, h2⟩ := findIdx_at e3
    obtain ⟨y, g, rfl, hy⟩ := hs.one
    obtain ⟨a, vs, rfl, k2, k3⟩ := hd.lst gh
    exact mt_indexD hu pins s σ H _ _ v us Q I rx rxs ⟨a, y, p, ps, k, w, rfl, rfl, .lst k2 (RepFs.dp gh k3 e2), hy.dp gh e1, s2, s1, hw, h1, h2, q _ _ _ _ (New.int gh _)⟩
  · cases hz
end
end GF
namespace GF
open PySem L2 PySem.Spec PyProof.Rows

/-! ## the text's forms -/
def NoStar (e : Expr) : Prop := ∀ a p, e ≠ .Starred a p
theorem star_cons {e : Expr} {es : List Expr} {env : Env} (h : NoStar e) : starEach (e :: es) env = (false, eval e env) :: starEach es env := by
  cases e <;> first | rfl | exact absurd rfl (h _ _)
theorem star_any {pos : Pos} {env : Env} : ∀ {es : List Expr}, (∀ e ∈ es, NoStar e) → (backTo pos (starEach es env)).any (·.1) = false
  | [], _ => rfl
  | e :: es, h => by
    rw [star_cons (h e List.mem_cons_self)]
    have ih := star_any (pos := pos) (env := env) (es := es) fun x hx => h x (List.mem_cons_of_mem _ hx)
    unfold backTo at ih ⊢
    rw [List.map_cons, List.any_cons, ih]; rfl
theorem star_all {pos : Pos} {env : Env} : ∀ {es : List Expr}, (∀ e ∈ es, NoStar e) → (backTo pos (starEach es env)).all (fun x => !x.1) = true
  | [], _ => rfl
  | e :: es, h => by
    rw [star_cons (h e List.mem_cons_self)]
    have ih := star_all (pos := pos) (env := env) (es := es) fun x hx => h x (List.mem_cons_of_mem _ hx)
    unfold backTo at ih ⊢
    rw [List.map_cons, List.all_cons, ih]; rfl
theorem base_ok {o : Expr} {m : Str} {env : Env} {whole : Sem Value} (h : isBase o = true) : attributeBase o m env whole = whole := by
  cases o <;> simp only [isBase, Bool.false_eq_true] at h <;> try rfl
  rename_i f args kw pos
  cases args with
  | nil => simp at h
  | cons a r =>
    cases f <;> rfl

/-! ## where one stands -/
structure ScOk (sc : Scope) (X : Cx) : Prop where
  k : ∀ x k, sc.names.lookup x = some k → ∃ k', X.env.scope.names.lookup x = some k' ∧ (k' = k ∨ (k = .free ∧ k' = .cell))
  f : ∀ x, sc.names.lookup x = some .cell → X.fn x = true
  fk : X.env.scope.kind = .function
theorem ScOk.vis {sc : Scope} {X : Cx} (h : ScOk sc X) {x : Str} (v : visK sc x = true) : Vis X.env.scope x := by
  unfold visK at v
  split at v
  · rename_i e
    obtain ⟨k', h1, h2 | ⟨h2, h3⟩⟩ := h.k x _ e
    · subst h2; exact .inl h1
    · cases h2
  · rename_i e
    obtain ⟨k', h1, h2 | ⟨h2, h3⟩⟩ := h.k x _ e
    · subst h2; exact .inr (.inl h1)
    · cases h2
  · rename_i e
    obtain ⟨k', h1, h2 | ⟨h2, h3⟩⟩ := h.k x _ e
    · subst h2; exact .inr (.inr h1)
    · subst h3; exact .inr (.inl h1)
  · cases v
theorem ScOk.loc {sc : Scope} {X : Cx} (h : ScOk sc X) {x : Str} (v : locK sc x = true) : Loc X.env.scope x ∧ (X.fn x = true ∨ X.env.scope.names.lookup x = some .local) := by
  unfold locK at v
  split at v
  · rename_i e
    obtain ⟨k', h1, h2 | ⟨h2, h3⟩⟩ := h.k x _ e
    · subst h2; exact ⟨.inl h1, .inr h1⟩
    · cases h2
  · rename_i e
    obtain ⟨k', h1, h2 | ⟨h2, h3⟩⟩ := h.k x _ e
    · subst h2; exact ⟨.inr h1, .inl (h.f x e)⟩
    · cases h2
  · cases v
theorem ScOk.glo {sc : Scope} {X : Cx} (h : ScOk sc X) {x : Str} (v : gloK sc x = true) : Gl X x := by
  unfold gloK at v
  split at v
  · rename_i e
    obtain ⟨k', h1, h2 | ⟨h2, h3⟩⟩ := h.k x _ e
    · subst h2; exact h1
    · cases h2
  · cases v
theorem ixS_at : ∀ {N : List Str} {x : Str} {i : Nat}, ixS N x = some i → N[i]? = some x
  | [], _, _, h => by cases h
  | y :: ys, x, i, h => by
    unfold ixS at h
    split at h
    · rename_i e; cases h; subst e; rfl
    · rw [Option.map_eq_some_iff] at h
      obtain ⟨j, h1, rfl⟩ := h
      simpa using ixS_at h1
theorem dbg {x : Str} (h : notDbg x = true) : (x == ("__debug__" : Str)) = false ∧ (x == ("__classdict__" : Str)) = false := by
  unfold notDbg at h
  simp only [Bool.and_eq_true, Bool.not_eq_true'] at h
  exact h

/-! ## what a def promises -/
/-- nothing that stood has changed -/
structure Kept (G H G' H' : Hp) : Prop where
  gh : Same G' H'
  gs : Same G G'
  hs : Same H H'
  gn : ∀ a, G' a ≠ none → G a = none → H a = none
def spF (K : PySem.W.Frag) (cl : Cl) (xa : Nat → Value) (g : List D → R) : Sp := fun vs H Q E => ∃ G ds, Same G H ∧ RepFs K cl G ds vs ∧ match g ds with
  | .ok z => ∀ v fv G' H', New K cl G H z v fv G' H' → Q v H'
  | .err k => ∀ G' H', Kept G H G' H' → E (xa k) none H'
  | .stuck => False
/-- __init__'s: x is the new instance, C its class, k the class's number -/
def spI (K : PySem.W.Frag) (cl : Cl) (xa : Nat → Value) (C : Addr) (g : List D → R) : Sp := fun vs H Q E => ∃ x dx us G ds, vs = .ref x :: us ∧ H x = some (.ins C dx []) ∧ G x = none ∧ Same G H ∧ RepFs K cl G ds us ∧ match g ds with
  | .ok z => ∀ G' H', Rep K cl G' H' z (.ref x) [x] → G' x = none → Same G' H' → Same G G' → (∀ a, H a ≠ none → a ≠ x → H' a = H a) → (∀ a, G' a ≠ none → G a = none → H a = none) → Q .non H'
  | .err k => ∀ G' H', Same G' H' → Same G G' → (∀ a, H a ≠ none → a ≠ x → H' a = H a) → (∀ a, G' a ≠ none → G a = none → H a = none ∨ a = x) → E (xa k) none H'
  | .stuck => False
/-- the def that stands at fa keeps what g says -/
structure FnG (X : Cx) (n : Nat) (fa : Addr) (sp : Sp) : Prop where
  keep : PySem.W.keepIn X.K (.ref fa) = true
  ok : ∃ fd ps, Binds X.K fd ps [] ∧ FnOk X.prog X.w X.K X.mg X.base (L2.CX X.prog X.w) n fa fd ps sp
structure Good (C : CC) (cl : Cl) (xa : Nat → Value) (P : Phi) (n : Nat) (X : Cx) : Prop where
  calm : X.calm = true
  nd : X.N.Nodup
  hN : X.N = C.N
  room : Room (n + 5) X.A
  con : ∀ x d, C.T.lookup x = some (.con d) → ∃ u v, X.mg x = some u ∧ RelV v u ∧ ∀ G, RepF X.K cl G d v
  fn : ∀ x f, C.T.lookup x = some (.fn f) → ∃ fa, X.mg x = some (.ref fa) ∧ FnG X n fa (spF X.K cl xa (P.fn f))
  cls : ∀ x k, C.T.lookup x = some (.cls k) → ∃ A fi, X.mg x = some (.ref A) ∧ cl.ad k = some A ∧ Mk X.K A fi ∧ FnG X n fi (spI X.K cl xa A (P.mkI k))
  exc : ∀ x k, C.T.lookup x = some (.exc k) → ∃ A, X.mg x = some (.ref A) ∧ xa k = .ref A ∧ PySem.W.keepIn X.K (.ref A) = true ∧ Raises X (.ref A) ∧
    PySem.W.excIn X.K A [.type "ValueError", .type "Exception", .type "BaseException", .type "object"] "ValueError.__new__" = true
  sub : ∀ j k, (∃ x, C.T.lookup x = some (.exc k)) → PySem.W.exmOne X.K (xa j) (xa k) = some (P.sub j k)
  exi : P.ia = true → ∀ k, ∃ A, xa k = .ref A ∧ L2.ExcC X.K A
  kit : P.ia = true → ∀ j k, (∃ x, C.T.lookup x = some (.exc k)) → PySem.W.kitOne X.K (xa j) (xa k) = some (P.sub j k)
  blt : ∀ x, C.B.contains x = true → X.mg x = none
  fld : ∀ f i, C.F.lookup f = some i → cl.fn i = f ∧ ∀ j, cl.fn j = f → j = i
  att : ∀ k A i, cl.ad k = some A → cl.hf k i = true → Cls X.K A ∧ NoAttr X.K A (cl.fn i)
  hfs : ∀ k i, P.fl k i = true → cl.hf k i = true
  mth : ∀ m j k f A, C.M.lookup m = some j → P.mt k j = some f → cl.ad k = some A → ∃ fa, Cls X.K A ∧ Meth X.K A m fa ∧ FnG X n fa (spF X.K cl xa (P.fn f)) ∧ ∀ i, cl.hf k i = true → cl.fn i ≠ m
end GF
namespace GF
open PySem L2 PySem.Spec PyProof.Rows

section
variable {X : Cx} {cl : Cl} {xa : Nat → Value} {W : WX} {P : Phi}
/-- an expression's evaluation keeps to the language's -/
structure SE (cl : Cl) (xa : Nat → Value) (W : WX) (P : Phi) (X : Cx) (e : Expr) (ir : IE) : Prop where
  pe : PE X e (tE X.K cl xa W (evalE P ir))
  pt : PT X e (tB (tE X.K cl xa W (evalE P ir)))
  ns : NoStar e
theorem tE_ok {K : PySem.W.Frag} {s : L2.St} {H : Hp} {Q : VK} {ev : Rho → RE} (h : tE K cl xa W ev s H Q) :
    ∃ G r f t, Ok K cl G H r s f t ∧ PostE K cl xa W s G H f t (fun _ _ v _ _ H' _ => Q v H') (ev r) := h

/-! ### lists of expressions -/
/-- a dict may be known from now on -/
def tPin (te : TE) : TE := fun σ H Q => te σ H fun v H' => (∃ a kvs, v = .ref a ∧ H' a = some (.dK kvs) ∧ ∀ ob, Q v (upd H' a (.frz ob (.dK kvs)))) ∨ Q v H'
theorem pe_pin {e : Expr} {te : TE} (h : PE X e te) : PE X e (tPin te) := ⟨fun pins s σ H Q I q => thn (h.run pins s σ H _ I q) fun u s1 ⟨v, H1, I1, r1, q1⟩ => by
  rcases q1 with ⟨a, kvs, e1, e2, q2⟩ | q2
  · obtain ⟨ob, I2⟩ := I1.lock e2 trivial
    exact ⟨v, _, I2, r1, q2 ob⟩
  · exact ⟨v, H1, I1, r1, q2⟩⟩
theorem sndL {f : Expr → Option IE} (hf : ∀ e ir, f e = some ir → SE cl xa W P X e ir) : ∀ {es : List Expr} {irs : IEs}, cL f es = some irs → PA X es (tL X.K cl xa W (evalL P irs)) ∧ ∀ e ∈ es, NoStar e
  | [], irs, h => by
    unfold cL at h; cases h
    refine ⟨pa_nil.weak fun s H Q ⟨G, r, f, t, o, h⟩ => ?_, fun _ h => nomatch h⟩
    exact h [] G H f o Ext.refl RepFs.nil
  | e :: es, irs, h => by
    unfold cL at h
    cases h1 : f e with
    | none => rw [h1] at h; cases h
    | some x =>
      cases h2 : cL f es with
      | none => rw [h1, h2] at h; cases h
      | some rs =>
        rw [h1, h2] at h; cases h
        obtain ⟨p2, n2⟩ := sndL hf h2
        have p1 := hf e x h1
        refine ⟨(pa_cons (pe_pin p1.pe) p2 (star_cons p1.ns)).weak fun s H Q ⟨G, r, f, t, o, h⟩ => ?_, fun z hz => by
          rcases List.mem_cons.mp hz with rfl | hz
          · exact p1.ns
          · exact n2 z hz⟩
        refine ⟨G, r, f, t, o, ?_⟩
        unfold evalL at h
        cases hx : evalE P x r with
        | stuck => rw [hx] at h; exact h
        | err k r1 => rw [hx] at h; exact h
        | ok od r1 =>
          rw [hx] at h
          cases od with
          | slot i => exact h.elim
          | val d =>
            simp only at h
            intro v fv G1 H1 f1 o1 e1 i1
            have fin : ∀ {G2 H2 : Hp}, Ok X.K cl G2 H2 r1 s f1 t → Ext f G H f1 G2 H2 → RepF X.K cl G2 d.frz v → tL X.K cl xa W (evalL P rs) s H2 (fun vs H3 => Q (v :: vs) H3) := fun {G2 H2} o2 e2 rf => by
              refine ⟨_, r1, f1, t, o2, ?_⟩
              cases hy : evalL P rs r1 with
              | stuck => simp only [hy] at h; exact h
              | err k r2 =>
                simp only [hy] at h
                exact fun G3 H3 f3 o3 e3 => h G3 H3 f3 o3 (e2.trans e3 fun _ z => z)
              | ok ds r2 =>
                simp only [hy] at h
                exact fun vs G3 H3 f3 o3 e3 rs3 => h (v :: vs) G3 H3 f3 o3 (e2.trans e3 fun _ z => z) (RepFs.cons (rf.mono e3.gs) rs3)
            by_cases hod : odD d = false
            · obtain ⟨o2, e2, rf⟩ := o1.frz hod i1
              exact .inr (fin o2 (e1.trans e2 fun _ z => z) rf)
            · cases d with
              | dct b ks ds =>
                cases b with
                | false => exact absurd rfl hod
                | true =>
                  obtain ⟨a, kvs, rfl, hH, hf⟩ := o1.frzD i1
                  refine .inl ⟨a, kvs, rfl, hH, fun ob => ?_⟩
                  obtain ⟨o2, e2, rf⟩ := hf ob
                  exact fin o2 (e1.trans e2 fun _ z => z) rf
              | _ => exact absurd rfl hod
theorem OdsIs.keep {K : PySem.W.Frag} {G H G1 H1 : Hp} {s : L2.St} {f1 t f fv : List Addr} {r : Rho} (k : Ok K cl G H r s f (fv ++ t)) (e : Ext f G H f1 G1 H1) : ∀ {os : List Od} {vs : List V} {g : List Addr}, (∀ a ∈ g, a ∈ fv) → OdsIs K cl s G H os vs g → OdsIs K cl s G1 H1 os vs g
  | [], _, _, _, h => h
  | o :: os, vs, g, hg, h => by
    unfold OdsIs at h ⊢
    obtain ⟨v, r', g1, g2, rfl, h1, h2, rfl⟩ := h
    refine ⟨v, r', g1, g2, rfl, ?_, OdsIs.keep k e (fun a ha => hg a (List.mem_append_right _ ha)) h2, rfl⟩
    cases o with
    | val d => exact Rep.keep h1 e.gs fun a ha => k.temp e (List.mem_append_left _ (hg a (List.mem_append_left _ ha)))
    | slot i => exact h1
theorem sndO {f : Expr → Option IE} (hf : ∀ e ir, f e = some ir → SE cl xa W P X e ir) : ∀ {es : List Expr} {irs : IEs}, cL f es = some irs → PA X es (tO X.K cl xa W (evalO P irs)) ∧ ∀ e ∈ es, NoStar e
  | [], irs, h => by
    unfold cL at h; cases h
    refine ⟨pa_nil.weak fun s H Q ⟨G, r, f, t, o, h⟩ => ?_, fun _ h => nomatch h⟩
    exact h [] [] G H f o (by simpa using Ext.refl) ⟨rfl, rfl⟩
  | e :: es, irs, h => by
    unfold cL at h
    cases h1 : f e with
    | none => rw [h1] at h; cases h
    | some x =>
      cases h2 : cL f es with
      | none => rw [h1, h2] at h; cases h
      | some rs =>
        rw [h1, h2] at h; cases h
        obtain ⟨p2, n2⟩ := sndO hf h2
        have p1 := hf e x h1
        refine ⟨(pa_cons p1.pe p2 (star_cons p1.ns)).weak fun s H Q ⟨G, r, f, t, o, h⟩ => ?_, fun z hz => by
          rcases List.mem_cons.mp hz with rfl | hz
          · exact p1.ns
          · exact n2 z hz⟩
        refine ⟨G, r, f, t, o, ?_⟩
        unfold evalO at h
        cases hx : evalE P x r with
        | stuck => rw [hx] at h; exact h
        | err k r1 => rw [hx] at h; exact h
        | ok od r1 =>
          rw [hx] at h
          intro v fv G1 H1 f1 o1 e1 i1
          refine ⟨G1, r1, f1, fv ++ t, o1, ?_⟩
          cases hy : evalO P rs r1 with
          | stuck => simp only [hy] at h; exact h
          | err k r2 =>
            simp only [hy] at h
            exact fun G3 H3 f3 o3 e3 => h G3 H3 f3 o3.tail (e1.trans e3 fun _ z => List.mem_append_left _ z)
          | ok os r2 =>
            simp only [hy] at h
            intro vs gv G3 H3 f3 o3 e3 rs3
            refine h (v :: vs) (fv ++ gv) G3 H3 f3 ?_ ?_ ⟨v, vs, fv, gv, rfl, i1.keep o1 e3, rs3, rfl⟩
            · have d := List.nodup_append.mp o3.nd
              have pm : (gv ++ (fv ++ t)).Perm ((fv ++ gv) ++ t) := by
                rw [← List.append_assoc]
                exact List.Perm.append_right t List.perm_append_comm
              refine ⟨o3.sl, ?_, fun a ha => o3.fr a ?_, o3.gh, fun a ha => o3.th a ?_⟩
              · exact (List.Perm.append_left f3 pm).nodup o3.nd
              · exact ((List.Perm.append_left f3 pm).mem_iff).mpr ha
              · exact (pm.mem_iff).mpr ha
            · refine Ext.sub (f1 := f3 ++ gv ++ fv) ?_ fun a ha => by simp only [List.mem_append] at ha ⊢; rcases ha with z | z | z <;> simp [z]
              have e13 := e1.trans e3 fun _ z => List.mem_append_left _ z
              exact ⟨e13.keep, e13.there, e13.gs, e13.gn, fun a ha => by
                rcases List.mem_append.mp ha with z | z
                · exact e13.fn a z
                · exact e1.fn a (List.mem_append_right _ z)⟩
/-- operands, looked at -/
theorem OdsIs.reps {K : PySem.W.Frag} {G H : Hp} {s : L2.St} {f t : List Addr} {r : Rho} (k : Ok K cl G H r s f t) : ∀ {os : List Od} {vs : List V} {g : List Addr} {ds : List D}, OdsIs K cl s G H os vs g → getAll r os = some ds → Reps K cl G H ds vs
  | [], vs, _, ds, h, e => by
    unfold getAll at e; cases e
    unfold OdsIs at h
    unfold Reps; exact h.1
  | o :: os, vs, _, ds, h, e => by
    unfold getAll at e
    cases e1 : o.get r with
    | none => rw [e1] at e; cases e
    | some d =>
      cases e2 : getAll r os with
      | none => rw [e1, e2] at e; cases e
      | some ds' =>
        rw [e1, e2] at e; cases e
        unfold OdsIs at h
        obtain ⟨v, r', g1, g2, rfl, h1, h2, rfl⟩ := h
        obtain ⟨fx, hr⟩ := h1.rep k e1
        unfold Reps
        exact ⟨v, r', fx, rfl, hr, OdsIs.reps k h2 e2⟩

/-! ### names and constants -/
theorem se_const {c : Const} {j : Nat} {pos : Pos} {ir : IE} (h : cConst c = some ir) : SE cl xa W P X (.Constant c j pos) ir := by
  have key : PE X (.Constant c j pos) (tE X.K cl xa W (evalE P ir)) := by
    cases c <;> simp only [cConst, Option.some.injEq, reduceCtorEq] at h <;> subst h
    · exact pe_non.weak fun s H Q ⟨G, r, f, t, o, h⟩ => PostE.fin h o (New.non o.gh)
    · exact pe_bl.weak fun s H Q ⟨G, r, f, t, o, h⟩ => PostE.fin h o (New.bl o.gh _)
    · exact pe_int.weak fun s H Q ⟨G, r, f, t, o, h⟩ => PostE.fin h o (New.int o.gh _)
    · exact pe_str.weak fun s H Q ⟨G, r, f, t, o, h⟩ => PostE.fin h o (New.str o.gh _)
  exact ⟨key, pt_val key, fun _ _ => nofun⟩
theorem set_same : ∀ {s : L2.St} {i : Nat} {v : V}, s[i]? = some (some v) → s.set i (some v) = s
  | [], _, _, h => by simp at h
  | a :: s, 0, v, h => by simp at h; subst h; rfl
  | a :: s, i + 1, v, h => by
    have := set_same (s := s) (i := i) (v := v) (by simpa using h)
    simp [this]
theorem tE_v {s : L2.St} {H : Hp} {Q : VK} {i : Nat} (h : tE X.K cl xa W (evalE P (.v i)) s H Q) : tPin (tVar i) s H Q := by
  obtain ⟨G, r, f, t, o, h⟩ := h
  unfold evalE at h
  cases e : getS r i with
  | none => simp only [e] at h; exact h.elim
  | some d =>
    simp only [e] at h
    obtain ⟨v, f1, fa, fb, h1, h2, h3, h4, h5⟩ := o.sl.at e
    refine ⟨v, h1, ?_⟩
    subst h3
    by_cases hod : odD d = true
    · left
      cases d with
      | dct b ks ds =>
        cases b with
        | false => cases hod
        | true =>
          obtain ⟨a, kvs, rfl, hH, hk, hv, rfl⟩ := h2
          refine ⟨a, kvs, rfl, hH, fun ob => ?_⟩
          simp only [D.own, if_true, D.frz] at h
          have ga : G a = none := o.fr a (by simp)
          have sg : Same G (upd G a (.frz ob (.dK kvs))) := same_new' ga
          have nd := o.nd
          have na : ∀ b ∈ fa ++ fb ++ t, b ≠ a := by
            intro b hb e
            subst e
            simp only [List.mem_append] at hb
            simp only [List.nodup_append, List.mem_append, List.mem_cons, List.not_mem_nil, or_false] at nd
            rcases hb with (z | z) | z
            · exact nd.1.2.2 b z b (.inl rfl) rfl
            · exact nd.1.2.1.2.2 b rfl b z rfl
            · exact nd.2.2 b (.inr (.inl rfl)) b z rfl
          have rf : RepF X.K cl (upd G a (.frz ob (.dK kvs))) (.dct false ks ds) (.ref a) := by
            unfold RepF
            exact ⟨rfl, a, ob, kvs, _, rfl, upd_same, hk, rfl, RepFs.mono sg hv⟩
          have sl := h4 (upd G a (.frz ob (.dK kvs))) (upd H a (.frz ob (.dK kvs))) (.dct false ks ds) (.ref a) [] sg (fun b hb => upd_ne (na b (List.mem_append_left _ hb))) (Rep.of_F rf)
          rw [set_same h1] at sl
          have sub : List.Sublist (fa ++ ([] ++ fb) ++ t) (fa ++ ([a] ++ fb) ++ t) :=
            List.Sublist.append (List.Sublist.append (List.Sublist.refl _) (List.Sublist.append (List.nil_sublist _) (List.Sublist.refl _))) (List.Sublist.refl _)
          refine h (.ref a) [] (upd G a (.frz ob (.dK kvs))) (upd H a (.frz ob (.dK kvs))) (fa ++ ([] ++ fb)) ⟨sl, o.nd.sublist sub, fun b hb => ?_, fun b x e => ?_, fun b hb => ?_⟩ ⟨fun b g1 g2 => ?_, fun b g1 => ?_, sg, fun b g1 g2 => ?_, fun b hb => ?_⟩ (Rep.of_F (H := upd H a (.frz ob (.dK kvs))) rf)
          · rw [upd_ne (na b (by simpa using hb))]; exact o.fr b (sub.subset hb)
          · by_cases z : b = a
            · subst z; rw [upd_same] at e ⊢; exact e
            · rw [upd_ne z] at e ⊢; exact o.gh _ _ e
          · rw [upd_ne (na b (by simp only [List.mem_append]; exact .inr hb))]; exact o.th b hb
          · exact upd_ne fun e => g2 (by simp [e])
          · by_cases z : b = a
            · subst z; rw [upd_same]; simp
            · rw [upd_ne z]; exact g1
          · by_cases z : b = a
            · exact .inl (by simp [z])
            · rw [upd_ne z] at g1; exact absurd g2 g1
          · left; simp only [List.nil_append, List.append_nil, List.mem_append] at hb ⊢
            rcases hb with z | z <;> simp [z]
      | _ => cases hod
    right
    have hod : odD d = false := by simpa using hod
    by_cases hd : d.own = true
    · rw [if_pos hd] at h
      have hf : ∀ a ∈ f1, G a = none := fun a ha => o.fr a (by simp [ha])
      have sg := gHp_same (G := G) (H := H) hf
      have sl := h4 (gHp G H f1) H d.frz v [] sg (fun _ _ => rfl) (Rep.of_F (h2.frz hod hf))
      rw [set_same h1] at sl
      have nd := o.nd
      have sub : List.Sublist (fa ++ ([] ++ fb) ++ t) (fa ++ (f1 ++ fb) ++ t) :=
        List.Sublist.append (List.Sublist.append (List.Sublist.refl _) (List.Sublist.append (List.nil_sublist _) (List.Sublist.refl _))) (List.Sublist.refl _)
      have ho : ∀ a ∈ fa ++ ([] ++ fb) ++ t, a ∉ f1 := by
        intro a ha hx
        simp only [List.nil_append, List.mem_append] at ha
        simp only [List.nodup_append, List.mem_append] at nd
        rcases ha with (z | z) | z
        · exact nd.1.2.2 a z a (.inl hx) rfl
        · exact nd.1.2.1.2.2 a hx a z rfl
        · exact nd.2.2 a (.inr (.inl hx)) a z rfl
      refine h v [] (gHp G H f1) H (fa ++ ([] ++ fb)) ⟨sl, nd.sublist sub, fun a ha => ?_, gHp_in o.gh, o.th⟩ ⟨fun _ _ _ => rfl, fun _ h => h, sg, fun a g1 g2 => ?_, fun a ha => ?_⟩ (Rep.of_F (h2.frz hod hf))
      · unfold gHp; rw [if_neg (ho a ha)]; exact o.fr a (sub.subset ha)
      · by_cases z : a ∈ f1
        · exact .inl (by simp [z])
        · unfold gHp at g1; rw [if_neg z] at g1; exact absurd g2 g1
      · left; simp only [List.nil_append, List.append_nil, List.mem_append] at ha ⊢
        rcases ha with z | z <;> simp [z]
    · have hd' : d.own = false := by simpa using hd
      rw [if_neg hd, D.frz_of hd'] at h
      exact PostE.fin h o (New.same o.gh (h2.F hd').1)
theorem tE_b {s : L2.St} {H : Hp} {Q : VK} {i : Nat} (h : tE X.K cl xa W (evalE P (.b i)) s H Q) : tVar i s H Q := by
  obtain ⟨G, r, f, t, o, h⟩ := h
  unfold evalE at h
  cases e : getS r i with
  | none => simp only [e] at h; exact h.elim
  | some d =>
    simp only [e] at h
    obtain ⟨v, f1, fa, fb, h1, _⟩ := o.sl.at e
    exact ⟨v, h1, h v [] G H f o (by simpa using Ext.refl) ⟨h1, rfl⟩⟩
theorem tE_mv {s : L2.St} {H : Hp} {Q : VK} {i : Nat} (h : tE X.K cl xa W (evalE P (.mv i)) s H Q) : tVar i s H Q := by
  obtain ⟨G, r, f, t, o, h⟩ := h
  unfold evalE at h
  cases e : getS r i with
  | none => simp only [e] at h; exact h.elim
  | some d =>
    simp only [e] at h
    obtain ⟨v, f1, fa, fb, h1, h2, h3, h4, h5⟩ := o.sl.at e
    refine ⟨v, h1, ?_⟩
    subst h3
    have sl := h5 G H (some v) (fun _ _ z => z) (fun _ _ => rfl)
    rw [set_same h1] at sl
    have pm : (fa ++ (f1 ++ fb) ++ t).Perm (fa ++ fb ++ (f1 ++ t)) := by
      simp only [List.append_assoc]
      refine List.Perm.append_left fa ?_
      rw [← List.append_assoc, ← List.append_assoc]
      exact List.Perm.append_right t List.perm_append_comm
    refine h v f1 G H (fa ++ fb) ⟨sl, pm.nodup o.nd, fun a ha => o.fr a (pm.mem_iff.mpr ha), o.gh, fun a ha => ?_⟩ ⟨fun _ _ _ => rfl, fun _ h => h, fun _ _ z => z, fun a g1 g2 => absurd g2 g1, fun a ha => ?_⟩ h2
    · rcases List.mem_append.mp ha with z | z
      · exact h2.there a z
      · exact o.th a z
    · left; simp only [List.mem_append] at ha ⊢
      rcases ha with (z | z) | z <;> simp [z]
theorem se_name {C : CC} {sc : Scope} {n : Nat} {md : Bool} {x : Str} {pos : Pos} {ir : IE} (g : Good C cl xa P n X) (so : ScOk sc X) (h : cName C sc md x = some ir) : SE cl xa W P X (.Name x pos) ir := by
  have key : PE X (.Name x pos) (tE X.K cl xa W (evalE P ir)) := by
    unfold cName at h
    split at h
    · rename_i hd
      obtain ⟨d1, d2⟩ := dbg hd
      split at h
      · rename_i hv
        rw [Option.map_eq_some_iff] at h
        obtain ⟨i, hi, rfl⟩ := h
        have hN : X.N[i]? = some x := by rw [g.hN]; exact ixS_at hi
        cases md with
        | true => exact (pe_var hN (so.vis hv) d1 d2).weak fun s H Q h => tE_b h
        | false => exact (pe_pin (pe_var hN (so.vis hv) d1 d2)).weak fun s H Q h => tE_v h
      · split at h
        · rename_i hg
          split at h
          · rename_i d e
            cases h
            obtain ⟨u, v, h1, h2, h3⟩ := g.con x d e
            exact (pe_glob (so.glo hg) h1 h2 d1).weak fun s H Q ⟨G, r, f, t, o, h⟩ => PostE.fin h o (New.same o.gh (h3 G))
          · cases h
        · cases h
    · cases h
  exact ⟨key, pt_val key, fun _ _ => nofun⟩
end
end GF
namespace GF
open PySem L2 PySem.Spec PyProof.Rows

section
variable {X : Cx} {cl : Cl} {xa : Nat → Value} {W : WX} {P : Phi}
theorem se_tup {es : List Expr} {k : Nat} {pos : Pos} {irs : IEs} (h : PA X es (tL X.K cl xa W (evalL P irs))) : SE cl xa W P X (.Tuple es k pos) (.tup irs) := by
  have key : PE X (.Tuple es k pos) (tE X.K cl xa W (evalE P (.tup irs))) := by
    refine (pe_tupF h).weak fun s H Q ⟨G, r, f, t, o, h⟩ => ⟨G, r, f, t, o, ?_⟩
    unfold evalE at h
    cases hx : evalL P irs r with
    | stuck => simp only [hx] at h; exact h
    | err k r1 => simp only [hx] at h; exact h
    | ok ds r1 =>
      simp only [hx] at h
      intro vs G1 H1 f1 o1 e1 rs
      split at h
      · rename_i hl
        refine ⟨by rw [← rs.len]; exact hl, fun p ob hp ho => ?_⟩
        have h1 := PostE.base (f1 := f1) (fv := []) h (by simpa using e1)
        exact PostE.fin (t := [] ++ t) h1 o1 (New.tup o1.gh rs hp ho)
      · exact h.elim
  exact ⟨key, pt_val key, fun _ _ => nofun⟩
theorem se_lst {es : List Expr} {pos : Pos} {irs : IEs} (h : PA X es (tL X.K cl xa W (evalL P irs))) : SE cl xa W P X (.List es pos) (.lst irs) := by
  have key : PE X (.List es pos) (tE X.K cl xa W (evalE P (.lst irs))) := by
    refine (pe_lst h).weak fun s H Q ⟨G, r, f, t, o, h⟩ => ⟨G, r, f, t, o, ?_⟩
    unfold evalE at h
    cases hx : evalL P irs r with
    | stuck => simp only [hx] at h; exact h
    | err k r1 => simp only [hx] at h; exact h
    | ok ds r1 =>
      simp only [hx] at h
      intro vs G1 H1 f1 o1 e1 rs
      split at h
      · rename_i hl
        refine ⟨by rw [← rs.len]; exact hl, fun p hp => ?_⟩
        have h1 := PostE.base (f1 := f1) (fv := []) h (by simpa using e1)
        exact PostE.fin (t := [] ++ t) h1 o1 (New.lst o1.gh rs hp)
      · exact h.elim
  exact ⟨key, pt_val key, fun _ _ => nofun⟩
/-- the heart of every two-place operation -/
theorem two {x y : IE} {g : D → D → Option D} {s : L2.St} {H : Hp} {Q : VK} {ev : Rho → RE} (h : tE X.K cl xa W ev s H Q)
    (he : ∀ r, ev r = ((evalE P x r).od fun a r1 => (evalE P y r1).od fun b r2 => match a.get r2, b.get r2 with
      | some u, some w => optE (g u w) r2
      | _, _ => .stuck)) : tOp (rOp X.K cl g) (tE X.K cl xa W (evalE P x)) (tE X.K cl xa W (evalE P y)) s H Q := by
  obtain ⟨G, r, f, t, o, h⟩ := h
  rw [he] at h
  refine ⟨G, r, f, t, o, PostE.seq h fun a r1 v1 fv1 G1 H1 f1 hx o1 e1 i1 h1 => ⟨G1, r1, f1, fv1 ++ t, o1, PostE.seq h1 fun b r2 v2 fv2 G2 H2 f2 hy o2 e2 i2 h2 => ?_⟩⟩
  have i1' := i1.keep o1 e2
  cases ea : a.get r2 with
  | none => simp only [ea] at h2; exact h2.elim
  | some u =>
    cases eb : b.get r2 with
    | none => simp only [ea, eb] at h2; exact h2.elim
    | some w =>
      simp only [ea, eb] at h2
      obtain ⟨fx, ru⟩ := i1'.rep o2 ea
      obtain ⟨fy, rw_⟩ := i2.rep o2 eb
      cases ez : g u w with
      | none => rw [ez] at h2; exact h2.elim
      | some z =>
        rw [ez] at h2
        exact ⟨G2, u, w, fx, fy, z, o2.gh, ru, rw_, ez, fun v fv G' H' n => PostE.fin h2 o2 n⟩
theorem se_bin {a b : Expr} {x y : IE} {op : Operator} {o : Op} {pos : Pos} (ho : opOf op = some o) (ha : SE cl xa W P X a x) (hb : SE cl xa W P X b y) : SE cl xa W P X (.BinOp a op b pos) (.op o x y) := by
  have key : PE X (.BinOp a op b pos) (tE X.K cl xa W (evalE P (.op o x y))) :=
    (pe_op (op_binD ho) ha.pe hb.pe).weak fun s H Q h => two h fun r => by first | (rw [evalE]; done) | (rw [evalE]; rfl)
  exact ⟨key, pt_val key, fun _ _ => nofun⟩
theorem se_cmp {a b : Expr} {x y : IE} {op : CmpOp} {pos : Pos} (hu : X.A.units + 65 < cLine) (hm : behindInMarks op b = false) (ha : SE cl xa W P X a x) (hb : SE cl xa W P X b y) : SE cl xa W P X (.Compare a [op] [b] pos) (.op (cmpOf op) x y) := by
  refine ⟨(pe_cmpR (op_cmpAll hu op) ha.pe hb.pe hm).weak fun s H Q h => two h fun r => by first | (rw [evalE]; done) | (rw [evalE]; rfl), (pt_cmpR (op_cmpAll (cl := cl) hu op) ha.pe hb.pe hm).weak fun s H Q h => ?_, fun _ _ => nofun⟩
  exact two (g := opD (cmpOf op)) h fun r => by first | (rw [evalE]; done) | (rw [evalE]; rfl)
theorem cmpD_bl {o : CmpOp} {u w z : D} (h : opD (cmpOf o) u w = some z) : ∃ b, z = .bl b := by
  cases o <;> simp only [cmpOf, opD, Option.map_eq_some_iff] at h <;> obtain ⟨b, _, rfl⟩ := h <;> exact ⟨_, rfl⟩
theorem chn {x y z : IE} {o p : CmpOp} {s : L2.St} {H : Hp} {Q : VK} (h : tE X.K cl xa W (evalE P (.ch (cmpOf o) (cmpOf p) x y z)) s H Q) :
    tChain (rOp X.K cl (opD (cmpOf o))) (rOp X.K cl (opD (cmpOf p))) (tE X.K cl xa W (evalE P x)) (tE X.K cl xa W (evalE P y)) (tE X.K cl xa W (evalE P z)) s H Q := by
  obtain ⟨G, r, f, t, o0, h⟩ := h
  unfold evalE at h
  refine ⟨G, r, f, t, o0, PostE.seq h fun a r1 v1 fv1 G1 H1 f1 hx o1 e1 i1 h1 => ⟨G1, r1, f1, fv1 ++ t, o1, PostE.seq h1 fun b r2 v2 fv2 G2 H2 f2 hy o2 e2 i2 h2 => ?_⟩⟩
  have i1' := i1.keep o1 e2
  cases ea : a.get r2 with
  | none => simp only [ea] at h2; exact h2.elim
  | some u =>
    cases eb : b.get r2 with
    | none => simp only [ea, eb] at h2; exact h2.elim
    | some w =>
      simp only [ea, eb] at h2
      obtain ⟨fx, ru⟩ := i1'.rep o2 ea
      obtain ⟨fy, rw_⟩ := i2.rep o2 eb
      cases ez : opD (cmpOf o) u w with
      | none => simp only [ez] at h2; exact h2.elim
      | some q =>
        obtain ⟨bb, rfl⟩ := cmpD_bl ez
        refine ⟨G2, u, w, fx, fy, _, o2.gh, ru, rw_, ez, fun v fv G' H' n => ?_⟩
        have hv : v = .bl bb := n.rep.bl
        obtain ⟨o3, e3⟩ := o2.new n
        have hfv : fv = [] := n.rep.2
        subst hfv
        refine ⟨bb, hv, ?_⟩
        cases bb with
        | false =>
          simp only [ez] at h2
          show Q (.bl false) H'
          subst hv
          exact PostE.fin h2 o2 n
        | true =>
          simp only [ez] at h2
          show tE X.K cl xa W (evalE P z) s H' _
          have h3 := PostE.base (f1 := f2) (fv := []) h2 e3
          refine ⟨G', r2, f2, fv2 ++ (fv1 ++ t), o3, PostE.seq h3 fun c r4 v4 fv4 G4 H4 f4 hz o4 e4 i4 h4 => ?_⟩
          have i2' : OdIs X.K cl G4 H4 s b v2 fv2 := by
            have k : OdIs X.K cl G' H' s b v2 fv2 := i2.keep o2 (f1 := f2) (by simpa using e3)
            exact k.keep o3 e4
          cases eb4 : b.get r4 with
          | none => simp only [eb4] at h4; exact h4.elim
          | some w4 =>
            cases ec : c.get r4 with
            | none => simp only [eb4, ec] at h4; exact h4.elim
            | some q4 =>
              simp only [eb4, ec] at h4
              obtain ⟨fy4, rw4⟩ := i2'.rep o4 eb4
              obtain ⟨fz4, rq4⟩ := i4.rep o4 ec
              cases ez4 : opD (cmpOf p) w4 q4 with
              | none => rw [ez4] at h4; exact h4.elim
              | some zz =>
                rw [ez4] at h4
                exact ⟨G4, w4, q4, fy4, fz4, zz, o4.gh, rw4, rq4, ez4, fun v fv G' H' n => PostE.fin h4 o4 n⟩
theorem se_chain {a b c : Expr} {x y z : IE} {op op' : CmpOp} {pos : Pos} (hu : X.A.units + 65 < cLine) (hm : behindInMarks op' c = false) (ha : SE cl xa W P X a x) (hb : SE cl xa W P X b y) (hc : SE cl xa W P X c z) :
    SE cl xa W P X (.Compare a [op, op'] [b, c] pos) (.ch (cmpOf op) (cmpOf op') x y z) := by
  refine ⟨(pe_chain (op_cmpAll hu op) (op_cmpAll hu op') ha.pe hb.pe hc.pe hm).weak fun s H Q h => chn h, (pt_chain (op_cmpAll (cl := cl) hu op) (op_cmpAll (cl := cl) hu op') ha.pe hb.pe hc.pe hm).weak fun s H Q h => chn h, fun _ _ => nofun⟩
theorem se_neg {a : Expr} {x : IE} {pos : Pos} (ha : SE cl xa W P X a x) : SE cl xa W P X (.UnaryOp .USub a pos) (.neg x) := by
  have key : PE X (.UnaryOp .USub a pos) (tE X.K cl xa W (evalE P (.neg x))) := by
    refine (pe_un un_neg ha.pe).weak fun s H Q ⟨G, r, f, t, o, h⟩ => ⟨G, r, f, t, o, ?_⟩
    unfold evalE at h
    refine PostE.seqG h fun a r1 d v1 fv1 fx G1 H1 f1 hx ea o1 e1 i1 h1 => ?_
    cases d with
    | int i => rw [i1.int]; exact ⟨i, rfl, PostE.fin h1 o1 (New.int o1.gh _)⟩
    | _ => exact h1.elim
  exact ⟨key, pt_val key, fun _ _ => nofun⟩
theorem se_not {a : Expr} {x : IE} {pos : Pos} (ha : SE cl xa W P X a x) : SE cl xa W P X (.UnaryOp .Not a pos) (.not_ x) := by
  refine ⟨(pe_not ha.pe).weak fun s H Q ⟨G, r, f, t, o, h⟩ => ⟨G, r, f, t, o, ?_⟩, (pt_not ha.pt).weak fun s H Q ⟨G, r, f, t, o, h⟩ => ⟨G, r, f, t, o, ?_⟩, fun _ _ => nofun⟩
  · unfold evalE at h
    refine PostE.seqG h fun a r1 d v1 fv1 fx G1 H1 f1 hx ea o1 e1 i1 h1 => ?_
    cases d with
    | bl i => rw [i1.bl]; exact ⟨i, rfl, PostE.fin h1 o1 (New.bl o1.gh _)⟩
    | _ => exact h1.elim
  · unfold evalE at h
    refine PostE.seqG h fun a r1 d v1 fv1 fx G1 H1 f1 hx ea o1 e1 i1 h1 => ?_
    cases d with
    | bl i =>
      obtain ⟨c, e2, q⟩ := PostE.fin (Q := fun v H' => ∃ c, v = .bl c ∧ Q c H') h1 o1 (New.bl o1.gh _)
      injection e2 with e2
      subst e2
      exact ⟨i, i1.bl, q⟩
    | _ => exact h1.elim
theorem pw_of {op : PySem.BoolOp} {es : List Expr} {pos : Pos} {t : TT} (h : PT X (.BoolOp op es pos) t) : PW X (.BoolOp op es pos) t := ⟨fun _ pins s σ H Q I q => h.run pins s σ H Q I q⟩
theorem se_one {op : PySem.BoolOp} {a : Expr} {pos : Pos} {x : IE} (ha : SE cl xa W P X a x) : SE cl xa W P X (.BoolOp op [a] pos) x := by
  refine ⟨pe_one ha.pe, ?_, fun _ _ => nofun⟩
  cases op with
  | And => exact (pw_and1 ha.pt).pt
  | Or => exact (pw_or1 ha.pt).pt
theorem se_and {a b : Expr} {r : List Expr} {pos : Pos} {x y : IE} (ha : SE cl xa W P X a x) (hb : SE cl xa W P X (.BoolOp .And (b :: r) pos) y) : SE cl xa W P X (.BoolOp .And (a :: b :: r) pos) (.and_ x y) := by
  refine ⟨(pe_and ha.pe hb.pe).weak fun s H Q ⟨G, r, f, t, o, h⟩ => ⟨G, r, f, t, o, ?_⟩, ((pw_and ha.pt (pw_of hb.pt)).pt).weak fun s H Q ⟨G, r, f, t, o, h⟩ => ⟨G, r, f, t, o, ?_⟩, fun _ _ => nofun⟩
  · unfold evalE at h
    refine PostE.seqG h fun a r1 d v1 fv1 fx G1 H1 f1 hx ea o1 e1 i1 h1 => ?_
    cases d with
    | bl i =>
      refine ⟨i, i1.bl, ?_⟩
      cases i with
      | true => exact ⟨G1, r1, f1, _, o1, h1⟩
      | false => exact PostE.fin h1 o1 (New.bl o1.gh _)
    | _ => exact h1.elim
  · unfold evalE at h
    refine PostE.seqG h fun a r1 d v1 fv1 fx G1 H1 f1 hx ea o1 e1 i1 h1 => ?_
    cases d with
    | bl i =>
      refine ⟨i, i1.bl, ?_⟩
      cases i with
      | true => exact ⟨G1, r1, f1, _, o1, h1⟩
      | false =>
        obtain ⟨c, e2, q⟩ := PostE.fin (Q := fun v H' => ∃ c, v = .bl c ∧ Q c H') h1 o1 (New.bl o1.gh _)
        injection e2 with e2
        subst e2
        exact q
    | _ => exact h1.elim
theorem se_or {a b : Expr} {r : List Expr} {pos : Pos} {x y : IE} (ha : SE cl xa W P X a x) (hb : SE cl xa W P X (.BoolOp .Or (b :: r) pos) y) : SE cl xa W P X (.BoolOp .Or (a :: b :: r) pos) (.or_ x y) := by
  refine ⟨(pe_or ha.pe hb.pe).weak fun s H Q ⟨G, r, f, t, o, h⟩ => ⟨G, r, f, t, o, ?_⟩, ((pw_or ha.pt (pw_of hb.pt)).pt).weak fun s H Q ⟨G, r, f, t, o, h⟩ => ⟨G, r, f, t, o, ?_⟩, fun _ _ => nofun⟩
  · unfold evalE at h
    refine PostE.seqG h fun a r1 d v1 fv1 fx G1 H1 f1 hx ea o1 e1 i1 h1 => ?_
    cases d with
    | bl i =>
      refine ⟨i, i1.bl, ?_⟩
      cases i with
      | false => exact ⟨G1, r1, f1, _, o1, h1⟩
      | true => exact PostE.fin h1 o1 (New.bl o1.gh _)
    | _ => exact h1.elim
  · unfold evalE at h
    refine PostE.seqG h fun a r1 d v1 fv1 fx G1 H1 f1 hx ea o1 e1 i1 h1 => ?_
    cases d with
    | bl i =>
      refine ⟨i, i1.bl, ?_⟩
      cases i with
      | false => exact ⟨G1, r1, f1, _, o1, h1⟩
      | true =>
        obtain ⟨c, e2, q⟩ := PostE.fin (Q := fun v H' => ∃ c, v = .bl c ∧ Q c H') h1 o1 (New.bl o1.gh _)
        injection e2 with e2
        subst e2
        exact q
    | _ => exact h1.elim
theorem pt_ife {c a b : Expr} {pos : Pos} {tA tB' tC' : TT} (hc : PT X c tA) (ha : PT X a tB') (hb : PT X b tC') : PT X (.IfExp c a b pos) (fun σ H Q => tA σ H fun k H1 => if k = true then tB' σ H1 Q else tC' σ H1 Q) := by
  refine ⟨fun pins s σ H Q I h => ?_⟩
  refine isTrue_IfExp (thn (hc.run pins s σ H _ I h) fun k s1 ⟨H1, I1, q1⟩ => ?_)
  cases k with
  | true => exact ha.run pins s1 σ H1 Q I1 q1
  | false => exact hb.run pins s1 σ H1 Q I1 q1
theorem se_ite {c a b : Expr} {pos : Pos} {z x y : IE} (hc : SE cl xa W P X c z) (ha : SE cl xa W P X a x) (hb : SE cl xa W P X b y) : SE cl xa W P X (.IfExp c a b pos) (.ite z x y) := by
  have key : ∀ (s : L2.St) (H : Hp) (Q : VK), tE X.K cl xa W (evalE P (.ite z x y)) s H Q → tB (tE X.K cl xa W (evalE P z)) s H fun k H1 => if k = true then tE X.K cl xa W (evalE P x) s H1 Q else tE X.K cl xa W (evalE P y) s H1 Q := by
    intro s H Q ⟨G, r, f, t, o, h⟩
    refine ⟨G, r, f, t, o, ?_⟩
    unfold evalE at h
    refine PostE.seqG h fun a r1 d v1 fv1 fx G1 H1 f1 hx ea o1 e1 i1 h1 => ?_
    cases d with
    | bl i =>
      refine ⟨i, i1.bl, ?_⟩
      cases i with
      | true => exact ⟨G1, r1, f1, _, o1, h1⟩
      | false => exact ⟨G1, r1, f1, _, o1, h1⟩
    | _ => exact h1.elim
  exact ⟨(pe_ifExp hc.pt ha.pe hb.pe).weak fun s H Q h => key s H Q h, (pt_ife hc.pt ha.pt hb.pt).weak fun s H Q h => key s H _ h, fun _ _ => nofun⟩
theorem plain_ix {b : Expr} (h : ∀ lo hi st p, b ≠ .Slice lo hi st p) : PlainIx b := by
  cases b <;> first | exact fun _ _ => rfl | exact absurd rfl (h _ _ _ _)
theorem se_ix (hu : X.A.units + 65 < cLine) {a b : Expr} {pos : Pos} {x y : IE} (hn : ∀ lo hi st p, b ≠ .Slice lo hi st p) (ha : SE cl xa W P X a x) (hb : SE cl xa W P X b y) : SE cl xa W P X (.Subscript a b pos) (.ix x y) := by
  have key : PE X (.Subscript a b pos) (tE X.K cl xa W (evalE P (.ix x y))) :=
    (pe_ix (ix_D (by omega)) ha.pe hb.pe (plain_ix hn)).weak fun s H Q h => two h fun r => by first | (rw [evalE]; done) | (rw [evalE]; rfl)
  exact ⟨key, pt_val key, fun _ _ => nofun⟩
theorem New.dnew {K : PySem.W.Frag} {G H : Hp} {p : Addr} (gh : Same G H) (hp : H p = none) : New K cl G H (.dct true [] []) (.ref p) [p] G (upd H p (.dK [])) :=
  ⟨⟨p, [], rfl, upd_same, rfl, RepFs.nil, rfl⟩, fun a ha => by simp at ha; subst ha; exact ⟨gh.free hp, hp⟩, gh.trans (same_new hp), fun _ _ h => h, same_new hp, fun _ h h' => absurd h' h⟩
theorem se_dnew {pos : Pos} : SE cl xa W P X (.Dict [] [] pos) .dnew := by
  have key : PE X (.Dict [] [] pos) (tE X.K cl xa W (evalE P .dnew)) := pe_dnewK.weak fun s H Q ⟨G, r, f, t, o, h⟩ => by
    unfold evalE at h
    exact fun p hp => PostE.fin h o (New.dnew o.gh hp)
  exact ⟨key, pt_val key, fun _ _ => nofun⟩
end
end GF
namespace GF
open PySem L2 PySem.Spec PyProof.Rows

section
variable {X : Cx} {cl : Cl} {xa : Nat → Value} {W : WX} {P : Phi}
/-- a slice's bound -/
theorem bnd {rec : Expr → Option IE} (hf : ∀ e ir, rec e = some ir → SE cl xa W P X e ir) {lo : Option Expr} {ir : IEs} (h : cO rec lo = some ir) :
    ∃ tl, PO X lo tl ∧ ∀ {s : L2.St} {G H : Hp} {r : Rho} {f t : List Addr} {Q : Option Int → Hp → Prop}, Ok X.K cl G H r s f t →
      (match evalB P ir r with
        | .ok o r1 => ∀ fv G1 H1 f1, Ok X.K cl G1 H1 r1 s f1 (fv ++ t) → Ext f G H (f1 ++ fv) G1 H1 → Q o H1
        | .err k r1 => ∀ G1 H1 f1, Ok X.K cl G1 H1 r1 s f1 t → Ext f G H f1 G1 H1 → W (xa k) none s H1
        | .stuck => False) → tl s H Q := by
  cases lo with
  | none =>
    simp only [cO, Option.some.injEq] at h
    subst h
    refine ⟨tNoPart, po_none, fun {s G H r f t Q} o h => ?_⟩
    simp only [evalB] at h
    exact h [] G H f o (by simpa using Ext.refl)
  | some e =>
    simp only [cO, Option.map_eq_some_iff] at h
    obtain ⟨x, hx, rfl⟩ := h
    have se := hf e x hx
    refine ⟨_, po_some se.pe, fun {s G H r f t Q} o h => ?_⟩
    refine ⟨G, r, f, t, o, ?_⟩
    simp only [evalB] at h
    cases hy : evalE P x r with
    | stuck => rw [hy] at h; exact h
    | err k r1 => rw [hy] at h; exact h
    | ok od r1 =>
      rw [hy] at h
      intro v fv G1 H1 f1 o1 e1 i1
      cases eo : od.get r1 with
      | none => simp only [eo] at h
      | some d =>
        obtain ⟨fx, rd⟩ := i1.rep o1 eo
        cases d with
        | int i =>
          simp only [eo] at h
          exact ⟨i, rd.int, h fv G1 H1 f1 o1 e1⟩
        | _ => simp only [eo] at h
theorem se_sl {rec : Expr → Option IE} (hf : ∀ e ir, rec e = some ir → SE cl xa W P X e ir) {a : Expr} {lo hi : Option Expr} {p pos : Pos} {x : IE} {l h' : IEs} (ha : SE cl xa W P X a x) (hl : cO rec lo = some l) (hh : cO rec hi = some h') :
    SE cl xa W P X (.Subscript a (.Slice lo hi none p) pos) (.sl x l h') := by
  obtain ⟨tl, pl, kl⟩ := bnd hf hl
  obtain ⟨th, ph, kh⟩ := bnd hf hh
  have key : PE X (.Subscript a (.Slice lo hi none p) pos) (tE X.K cl xa W (evalE P (.sl x l h'))) := by
    refine (pe_slice (sl_D (cl := cl)) ha.pe pl ph).weak fun s H Q ⟨G, r, f, t, o, h⟩ => ⟨G, r, f, t, o, ?_⟩
    unfold evalE at h
    refine PostE.seq h fun a r1 v1 fv1 G1 H1 f1 hx o1 e1 i1 h1 => ?_
    refine kl o1 ?_
    cases hlo : evalB P l r1 with
    | stuck => simp only [hlo] at h1; exact h1
    | err k r2 => simp only [hlo] at h1; exact fun G2 H2 f2 o2 e2 => h1 G2 H2 f2 o2 e2
    | ok ol r2 =>
      simp only [hlo] at h1
      intro fv2 G2 H2 f2 o2 e2
      have h2 := PostE.base h1 e2
      have i2 := i1.keep o1 (e2.sub fun z hz => List.mem_append_left _ hz)
      refine kh o2 ?_
      cases hhi : evalB P h' r2 with
      | stuck => simp only [hhi] at h2; exact h2
      | err k r3 => simp only [hhi] at h2; exact fun G3 H3 f3 o3 e3 => h2 G3 H3 f3 o3 e3
      | ok oh r3 =>
        simp only [hhi] at h2
        intro fv3 G3 H3 f3 o3 e3
        have h3 := PostE.base h2 e3
        have i3 : OdIs X.K cl G3 H3 s a v1 fv1 := by
          have o2' : Ok X.K cl G2 H2 r2 s f2 (fv1 ++ t) := o2.tail
          exact i2.keep o2' (e3.sub fun z hz => List.mem_append_left _ hz)
        cases ea : a.get r3 with
        | none => simp only [ea] at h3; exact h3.elim
        | some u =>
          simp only [ea] at h3
          obtain ⟨fx, ru⟩ := i3.rep o3 ea
          cases ez : slD u ol oh with
          | none => rw [ez] at h3; exact h3.elim
          | some z =>
            rw [ez] at h3
            exact ⟨G3, u, fx, z, o3.gh, ru, ez, fun v fv G' H' n => PostE.fin h3 o3 n⟩
  exact ⟨key, pt_val key, fun _ _ => nofun⟩
end
end GF
namespace GF
open PySem L2 PySem.Spec PyProof.Rows

section
variable {X : Cx} {cl : Cl} {xa : Nat → Value} {W : WX} {P : Phi} {C : CC} {n : Nat}
theorem Kept.new {K : PySem.W.Frag} {G H G' H' : Hp} (k : Kept G H G' H') : New K cl G H .non .non [] G' H' := ⟨Rep.of_F (by unfold RepF; rfl), by simp, k.gh, k.gs, k.hs, k.gn⟩
theorem lookN_V {K : PySem.W.Frag} {G : Hp} {i : Nat} {z : D} (inj : ∀ j, cl.fn j = cl.fn i → j = i) : ∀ {ns : List Nat} {ds : List D} {vs : List V}, lookN i ns ds = some z → RepFs K cl G ds vs → i ∈ ns ∧ ∃ v, ((ns.map cl.fn).zip vs).lookup (cl.fn i) = some v ∧ RepF K cl G z v
  | [], ds, vs, e, _ => by unfold lookN at e; cases e
  | j :: ns, [], vs, e, _ => by unfold lookN at e; cases e
  | j :: ns, d :: ds, vs, e, h => by
    unfold lookN at e
    unfold RepFs at h
    obtain ⟨v, r, rfl, h1, h2⟩ := h
    by_cases hj : j = i
    · rw [if_pos hj] at e; cases e
      subst hj
      exact ⟨List.mem_cons_self, v, by simp [List.lookup], h1⟩
    · rw [if_neg hj] at e
      obtain ⟨m, u, h3, h4⟩ := lookN_V inj e h2
      refine ⟨List.mem_cons_of_mem _ m, u, ?_, h4⟩
      have ne : (cl.fn i == cl.fn j) = false := beq_eq_false_iff_ne.mpr fun e => hj (inj j e.symm)
      simp only [List.map_cons, List.zip_cons_cons, List.lookup_cons, ne]
      exact h3
theorem Rep.ins {K : PySem.W.Frag} {G H : Hp} {o : Bool} {k : Nat} {ns : List Nat} {ds : List D} {v : V} {f : List Addr} (gh : Same G H) (h : Rep K cl G H (.ins o k ns ds) v f) :
    ∃ a A dx vs, v = .ref a ∧ cl.ad k = some A ∧ H a = some (.ins A dx ((ns.map cl.fn).zip vs)) ∧ ns.length = vs.length ∧ ns.all (cl.hf k) = true ∧ RepFs K cl G ds vs := by
  cases o with
  | false =>
    have h1 := h.1
    unfold RepF at h1
    obtain ⟨_, a, A, dx, vs, h1, h2, h3, h4, h5⟩ := h1
    exact ⟨a, A, dx, vs, h1, h2, gh _ _ h3, h4.1, h4.2, h5⟩
  | true =>
    obtain ⟨a, A, dx, vs, h1, h2, h3, h4, h5, _⟩ := h
    exact ⟨a, A, dx, vs, h1, h2, h3, h4.1, h4.2, h5⟩
theorem se_fld {o : Expr} {f : Str} {pos : Pos} {x : IE} {i : Nat} (g : Good C cl xa P n X) (hb : isBase o = true) (ho : SE cl xa W P X o x) (hf : C.F.lookup f = some i) : SE cl xa W P X (.Attribute o f pos) (.fld x i) := by
  obtain ⟨rfl, inj⟩ := g.fld f i hf
  have key : PE X (.Attribute o (cl.fn i) pos) (tE X.K cl xa W (evalE P (.fld x i))) := by
    refine (pe_fld ho.pe (base_ok hb)).weak fun s H Q ⟨G, r, f, t, o, h⟩ => ⟨G, r, f, t, o, ?_⟩
    unfold evalE at h
    refine PostE.seqG h fun a r1 d v1 fv1 fx G1 H1 f1 hx ea o1 e1 i1 h1 => ?_
    cases d with
    | ins ow k ns ds =>
      obtain ⟨a, A, dx, vs, rfl, hA, hH, hl, hall, hr⟩ := i1.ins o1.gh
      cases ez : lookN i ns ds with
      | none => simp only [ez] at h1; exact h1.elim
      | some z =>
        simp only [ez] at h1
        obtain ⟨mi, v, hv, rz⟩ := lookN_V inj ez hr
        have hfi : cl.hf k i = true := List.all_eq_true.mp hall i mi
        obtain ⟨c1, c2⟩ := g.att k A i hA hfi
        exact ⟨a, A, dx, _, v, rfl, hH, c1, c2, hv, PostE.fin h1 o1 (New.same o1.gh rz)⟩
    | _ => exact h1.elim
  exact ⟨key, pt_val key, fun _ _ => nofun⟩
theorem Gl_dbg {x : Str} (h : notDbg x = true) : (x == ("__debug__" : Str)) = false := (dbg h).1
theorem Good.roomN (g : Good C cl xa P n X) : Room n X.A := g.room.mono (by omega)
/-- what a call by its promise comes to -/
theorem call_out {s : L2.St} {G H : Hp} {r : Rho} {f t : List Addr} {Q : VK} {g : List D → R} {ds : List D} {vs : List V} (o : Ok X.K cl G H r s f t) (rs : RepFs X.K cl G ds vs)
    (h : PostE X.K cl xa W s G H f t (fun _ _ v _ _ H' _ => Q v H') (resE (g ds) r)) : spF X.K cl xa g vs H Q (WE W s) := by
  refine ⟨G, ds, o.gh, rs, ?_⟩
  cases e : g ds with
  | stuck => rw [e] at h; exact h
  | ok z => rw [e] at h; exact fun v fv G' H' n => PostE.fin h o n
  | err k =>
    rw [e] at h
    intro G' H' kp
    obtain ⟨o1, e1⟩ := o.new (kp.new (K := X.K) (cl := cl))
    exact h G' H' f (by simpa using o1) (by simpa using e1)
theorem se_call {x : Str} {e : Expr} {es : List Expr} {p pos : Pos} {irs : IEs} {fi : Nat} (g : Good C cl xa P n X) (tk : Takes X W) (hg : Gl X x) (hd : notDbg x = true) (hT : C.T.lookup x = some (.fn fi))
    (ha : PA X (e :: es) (tL X.K cl xa W (evalL P irs))) (hn : ∀ z ∈ e :: es, NoStar z) : SE cl xa W P X (.Call (.Name x p) (e :: es) [] pos) (.call fi irs) := by
  have key : PE X (.Call (.Name x p) (e :: es) [] pos) (tE X.K cl xa W (evalE P (.call fi irs))) := by
    obtain ⟨fa, hm, hk, fd, ps, hb, F⟩ := g.fn x fi hT
    refine (pe_callS F g.roomN hg hm hk hb (fun σ => passAt tk σ) ha (Gl_dbg hd) (star_cons (hn e List.mem_cons_self)) (star_any fun z hz => hn z (List.mem_cons_of_mem _ hz))).weak fun s H Q ⟨G, r, f, t, o, h⟩ => ⟨G, r, f, t, o, ?_⟩
    unfold evalE at h
    cases hx : evalL P irs r with
    | stuck => simp only [hx] at h; exact h
    | err k r1 => simp only [hx] at h; exact h
    | ok ds r1 =>
      simp only [hx] at h
      intro vs G1 H1 f1 o1 e1 rs
      have h1 := PostE.base (f1 := f1) (fv := []) h (by simpa using e1)
      exact call_out (t := [] ++ t) o1 rs h1
  exact ⟨key, pt_val key, fun _ _ => nofun⟩
/-- L2.run_make, what is raised wished for at the slots -/
theorem run_makeS {A fi : Addr} {k : Nat} {fd : FuncData} {ps : List Str} {sp : Sp} {E : XK} {pins : List (Addr × Obj)} {σ : L2.St} {H : Hp} {s : Shared} {Q : VK} {us : List Value} {vs : List V} (M : Mk X.K A fi) (F : FnOk X.prog X.w X.K X.mg X.base (L2.CX X.prog X.w) k fi fd ps sp) (hr : Room (k + 1) X.A) (hb : Binds X.K fd ps [])
    (hx : PassesAt (L2.CX X.prog X.w) X σ E) (I : L2.Inv X pins σ H s) (r : Vals vs us)
    (h : ∀ x dx, H x = none → H dx = none → dx ≠ x → sp (.ref x :: vs) (upd (upd H dx (.own x)) x (.ins A dx [])) (fun v H2 => v = .non ∧ Q (.ref x) H2) E) :
    wpAny (model X.prog X.w) X.A (call (.ref A) us) (EP X pins σ Q) X.xe s := by
  have hq := h (s.heap.objs.size + 1) s.heap.objs.size (I.hok.fresh (Nat.le_succ _)) (I.hok.fresh (Nat.le_refl _)) (Nat.ne_of_lt (Nat.lt_succ_self _))
  have I2 := Inv.made (C := A) I
  have r2 : Vals (V.ref (s.heap.objs.size + 1) :: vs) (Value.ref (s.heap.objs.size + 1) :: us) := .cons rfl r
  have hl : (Value.ref (s.heap.objs.size + 1) :: us ++ []).length = ps.length := by
    have e := r2.length
    rw [F.len _ _ _ _ hq] at e
    rw [List.append_nil]
    exact e.symm
  have hb2 := hb _ (Value.ref (s.heap.objs.size + 1) :: us) I2.kIn hl
  rw [List.append_nil] at hb2
  refine wpAny_call (make_map (f := fi) I.kIn M.makes M.init (beq_iff_eq.mp M.fn) (codeAny_mono (F.run _ X.stack _ _ ⟨Value.ref (s.heap.objs.size + 1) :: us, []⟩ (Value.ref (s.heap.objs.size + 1) :: us) _ _ E (hr.make A us [])
    (I2.env0.make A us []) hb2 r2 hq) fun r s' hq' => ?_))
  cases r with
  | error e => exact hx pins _ _ e s' I2 hq'
  | ok fl =>
    cases fl with
    | ret u =>
      obtain ⟨v, H', I3, rv, ev, q3⟩ := I2.after hq'
      subst ev
      exact ⟨rv, ⟨V.ref (s.heap.objs.size + 1), H', I3, rfl, q3⟩⟩
    | next => exact False.elim hq'
    | brk => exact False.elim hq'
    | cont => exact False.elim hq'
theorem pe_makeS {A fi : Addr} {k : Nat} {fd : FuncData} {ps : List Str} {sp : Sp} {x : Str} {e : Expr} {es : List Expr} {p pos : Pos} {t : TA} (M : Mk X.K A fi) (F : FnOk X.prog X.w X.K X.mg X.base (L2.CX X.prog X.w) k fi fd ps sp) (hr : Room (k + 1) X.A) (hb : Binds X.K fd ps []) (tk : Takes X W)
    (hg : Gl X x) (hm : X.mg x = some (.ref A)) (ha : PA X (e :: es) t) (hdb : (x == ("__debug__" : Str)) = false) (he : starEach (e :: es) X.env = (false, eval e X.env) :: starEach es X.env) (hpl : (backTo pos (starEach es X.env)).any (·.1) = false) :
    PE X (.Call (.Name x p) (e :: es) [] pos) (fun σ H Q => t σ H fun vs H1 => ∀ x dx, H1 x = none → H1 dx = none → dx ≠ x → sp (.ref x :: vs) (upd (upd H1 dx (.own x)) x (.ins A dx [])) (fun v H2 => v = .non ∧ Q (.ref x) H2) (WE W σ)) := by
  refine ⟨fun pins s σ H Q I h => ?_⟩
  refine wpAny_Call_Name_kw (ld_glob I hg hm ?_ hdb)
  refine PySem.W.callWith_K (h₀ := X.base) I.ok.mod.kin M.kp (thn (ha.run pos pins s σ H _ I h) fun us s1 ⟨vs, H1, I1, r, q⟩ => ⟨I1.kIn, ?_⟩) he hpl
  exact run_makeS M F hr hb (passAt tk σ) I1 r q
theorem se_new {x : Str} {e : Expr} {es : List Expr} {p pos : Pos} {irs : IEs} {k : Nat} (g : Good C cl xa P n X) (tk : Takes X W) (hg : Gl X x) (hd : notDbg x = true) (hT : C.T.lookup x = some (.cls k))
    (ha : PA X (e :: es) (tL X.K cl xa W (evalL P irs))) (hn : ∀ z ∈ e :: es, NoStar z) : SE cl xa W P X (.Call (.Name x p) (e :: es) [] pos) (.new k irs) := by
  have key : PE X (.Call (.Name x p) (e :: es) [] pos) (tE X.K cl xa W (evalE P (.new k irs))) := by
    obtain ⟨A, fi, hm, hA, M, hk, fd, ps, hb, F⟩ := g.cls x k hT
    refine (pe_makeS M F (g.room.mono (by omega)) hb tk hg hm ha (Gl_dbg hd) (star_cons (hn e List.mem_cons_self)) (star_any fun z hz => hn z (List.mem_cons_of_mem _ hz))).weak fun s H Q ⟨G, r, f, t, o, h⟩ => ⟨G, r, f, t, o, ?_⟩
    unfold evalE at h
    cases hx : evalL P irs r with
    | stuck => simp only [hx] at h; exact h
    | err k r1 => simp only [hx] at h; exact h
    | ok ds r1 =>
      simp only [hx] at h
      intro vs G1 H1 f1 o1 e1 rs
      have h1 := PostE.base (f1 := f1) (fv := []) h (by simpa using e1)
      intro y dy ny ndy ney
      have s1 : Same H1 (upd (upd H1 dy (.own y)) y (.ins A dy [])) := fun b ob e => by
        rw [upd_ne (ne_of_none e ny), upd_ne (ne_of_none e ndy)]; exact e
      refine ⟨y, dy, vs, G1, ds, rfl, upd_same, o1.gh.free ny, o1.gh.trans s1, rs, ?_⟩
      have back : ∀ a, (upd (upd H1 dy (.own y)) y (.ins A dy [])) a = none → H1 a = none := fun a ha => s1.free ha
      cases eg : P.mkI k ds with
      | stuck => rw [eg] at h1; exact h1
      | ok z =>
        rw [eg] at h1
        intro G' H' hrep hGy gh' gs' keep gn'
        refine ⟨rfl, PostE.fin (t := [] ++ t) h1 o1 ⟨hrep, fun a ha => by simp at ha; subst ha; exact ⟨hGy, ny⟩, gh', gs', fun b ob e => ?_, fun a g1 g2 => back a (gn' a g1 g2)⟩⟩
        rw [keep b (by rw [s1 b ob e]; simp) (ne_of_none e ny)]
        exact s1 b ob e
      | err j =>
        rw [eg] at h1
        intro G' H' gh' gs' keep gn'
        have kp : Kept G1 H1 G' H' := ⟨gh', gs', fun b ob e => by
          rw [keep b (by rw [s1 b ob e]; simp) (ne_of_none e ny)]
          exact s1 b ob e, fun a g1 g2 => by
          rcases gn' a g1 g2 with z | z
          · exact back a z
          · subst z; exact ny⟩
        obtain ⟨o2, e2⟩ := o1.new (kp.new (K := X.K) (cl := cl))
        exact h1 G' H' f1 (by simpa using o2) (by simpa using e2)
  exact ⟨key, pt_val key, fun _ _ => nofun⟩
end
end GF
namespace GF
open PySem L2 PySem.Spec PyProof.Rows

/-! ## sorted, min -/
section
variable {K : PySem.W.Frag} {cl : Cl} {G H : Hp}
abbrev RvF (K : PySem.W.Frag) (cl : Cl) (G : Hp) : Value → D → Prop := fun u d => ∃ v, RelV v u ∧ RepF K cl G d v
theorem each_of : ∀ {its : List Value} {vs : List V} {xs : List D}, Vals vs its → RepFs K cl G xs vs → W.EachIs (RvF K cl G) its xs
  | _, _, [], rv, h => by
    unfold RepFs at h
    subst h
    cases rv
    exact .nil
  | _, _, d :: xs, rv, h => by
    unfold RepFs at h
    obtain ⟨v, r, rfl, h1, h2⟩ := h
    cases rv with
    | cons r1 r2 => exact .cons ⟨v, r1, h1⟩ (each_of r2 h2)
theorem of_each : ∀ {out : List Value} {xs : List D}, W.EachIs (RvF K cl G) out xs → ∃ vs, Vals vs out ∧ RepFs K cl G xs vs
  | _, _, .nil => ⟨[], .nil, RepFs.nil⟩
  | _, _, .cons ⟨v, r, h⟩ t => by
    obtain ⟨vs, rv, hs⟩ := of_each t
    exact ⟨v :: vs, .cons r rv, RepFs.cons h hs⟩
theorem pys_map : ∀ {xs : List D} {ps : List PyData}, pysD xs = some ps → xs.map pyOr = ps ∧ ∀ d ∈ xs, d.py = some (pyOr d)
  | [], ps, h => by unfold pysD at h; cases h; exact ⟨rfl, fun _ z => nomatch z⟩
  | d :: xs, ps, h => by
    unfold pysD at h
    cases e1 : d.py with
    | none => rw [e1] at h; cases h
    | some p =>
      cases e2 : pysD xs with
      | none => rw [e1, e2] at h; cases h
      | some qs =>
        rw [e1, e2] at h
        cases h
        obtain ⟨h1, h2⟩ := pys_map e2
        have e3 : pyOr d = p := by unfold pyOr; rw [e1]; rfl
        refine ⟨by rw [List.map_cons, h1, e3], fun z hz => ?_⟩
        rcases List.mem_cons.mp hz with y | y
        · subst y; rw [e1, e3]
        · exact h2 z y
theorem depth_le : ∀ {ps : List PyData} {p : PyData}, p ∈ ps → p.depth ≤ PyData.depthAll ps
  | [], _, h => nomatch h
  | q :: ps, p, h => by
    unfold PyData.depthAll
    rcases List.mem_cons.mp h with y | y
    · subst y; exact Nat.le_max_left ..
    · exact Nat.le_trans (depth_le y) (Nat.le_max_right ..)
structure Srt (xs : List D) (ps : List PyData) : Prop where
  py : pysD xs = some ps
  al : W.AllAlike (xs.map pyOr)
  so : W.Sortable (xs.map pyOr)
  dp : PyData.depthAll ps ≤ 60
  ln : xs.length ≤ sizeLine
theorem sortOk_inv {xs : List D} (h : sortOk xs = true) : ∃ ps, Srt xs ps := by
  unfold sortOk at h
  split at h
  · rename_i ps e
    simp only [Bool.and_eq_true, decide_eq_true_eq] at h
    obtain ⟨⟨⟨h1, h2⟩, h3⟩, h4⟩ := h
    refine ⟨ps, e, ?_, ?_, h3, h4⟩
    · rw [(pys_map e).1]
      unfold alikeL at h1
      intro p hp q hq
      exact List.all_eq_true.mp (List.all_eq_true.mp h1 p hp) q hq
    · rw [(pys_map e).1]
      unfold sortableL at h2
      rw [Bool.or_eq_true] at h2
      rcases h2 with z | z
      · refine .inl fun p hp => ?_
        have := List.all_eq_true.mp z p hp
        unfold tup1 at this
        split at this
        · exact ⟨_, _, rfl⟩
        · cases this
      · refine .inr fun p hp => ?_
        have := List.all_eq_true.mp z p hp
        unfold othP at this
        split at this
        · cases this
        · cases this
        · rename_i n1 n2
          exact ⟨n1, n2⟩
  · cases h
end
section
variable {X : Cx} {cl : Cl} {G H : Hp} {pins : List (Addr × Obj)} {σ : L2.St} {s : Shared}
theorem each_reads (I : L2.Inv X pins σ H s) (gh : Same G H) : ∀ {its : List Value} {xs : List D}, (∀ d ∈ xs, d.py = some (pyOr d)) → W.EachIs (RvF X.K cl G) its xs → W.EachIs (fun u d => ∃ as, Reads s.heap u (pyOr d) as) its xs
  | _, _, _, .nil => .nil
  | _, _, hp, .cons ⟨v, r, h⟩ t => .cons (Dp.reads I _ _ _ (RepF.dp gh h (hp _ List.mem_cons_self)) r) (each_reads I gh (fun d hd => hp d (List.mem_cons_of_mem _ hd)) t)
theorem Srt.bound {xs : List D} {ps : List PyData} {n : Nat} (z : Srt xs ps) (hu : n + 65 < cLine) : ∀ b ∈ xs, n + 2 + (pyOr b).depth < cLine := fun b hb => by
  have := depth_le (ps := ps) (p := pyOr b) (by rw [← (pys_map z.py).1]; exact List.mem_map.mpr ⟨b, hb, rfl⟩)
  have := z.dp
  omega
theorem bi_sorted (hc : X.calm = true) (hu : X.A.units + 65 < cLine) : CallR X (.builtin "sorted") (rBi X.K cl sortedB) := by
  intro pins s σ H xs us Q I r ⟨G, ds, z, gh, h, hz, q⟩
  unfold sortedB at hz
  split at hz
  · rename_i o l
    split at hz <;> cases hz
    rename_i hok
    obtain ⟨ps, S⟩ := sortOk_inv hok
    obtain ⟨v, f, rfl, hv⟩ := h.one
    obtain ⟨a, vs, rfl, k2, k3⟩ := hv.lst gh
    obtain ⟨its, rv, hl, _⟩ := I.list k2
    rw [Vals.ref1 r]
    have e := each_of rv k3
    refine W.sorted_data hl.isList e (each_reads I gh (pys_map S.py).2 e) S.al S.so S.ln (S.bound hu) fun out hlo eo => ?_
    obtain ⟨ws, rw_, hws⟩ := of_each eo
    obtain ⟨ep, he'⟩ := PyProof.Rows.sortedAll_at s.heap its out.toArray
    have hlen : ws.length ≤ sizeLine := by rw [← hws.len, (List.mergeSort_perm l _).length_eq]; exact S.ln
    have fr : H (s.heap.objs.size + 1) = none := I.hok.fresh (Nat.le_succ _)
    exact ⟨.ref _, upd H (s.heap.objs.size + 1) (.lst ws), I.laid (t' := s.toks) (fun _ _ => PyProof.Rows.sortedAll_old) (Nat.le_succ _) ⟨hlen, out, ep, rw_, he'⟩, rfl, q _ _ _ _ (New.lst gh hws fr)⟩
  · rename_i o ks es
    split at hz <;> cases hz
    rename_i hok
    obtain ⟨ps, S⟩ := sortOk_inv hok
    obtain ⟨v, f, rfl, hv⟩ := h.one
    obtain ⟨a, kvs, rfl, hd, hks, _⟩ := hv.dct gh
    rw [Vals.ref1 r]
    obtain ⟨zz, lo, vs, rel, dd⟩ := dk_rd I.hok hd
    obtain ⟨ep, hat⟩ := dd.dictAt
    have k4 := keysD_V (K := X.K) (cl := cl) (G := G) hks
    have hkeys : vs.map (·.1) = kvs.map (·.1) := rel.keys.symm
    have hl : vs.length = ks.length := by
      have e := congrArg List.length hkeys
      rw [List.length_map, List.length_map] at e
      have e2 := k4.len
      rw [List.length_map, List.length_map] at e2
      omega
    refine Calls.call_function_entry PyProof.Rows.kind_sorted PyProof.Rows.plain_sorted PyProof.Rows.entry_sorted (PyProof.Rows.args_sorted1 _) ?_
    unfold Builtin.«sorted»
    refine wpAny_bind (m := checkCount "sorted" 1 1 _) (wpAny_pure ?_)
    refine wpAny_bind (PySem.W.kdu_collect (A := X.A.in1) (PySem.W.kdl_dict (knd := mixKind X.prog X.w) (kvs := vs) (ep := ep) lo) (I.ok.hd hc) hat (by rw [hl]; exact S.ln) fun h' tk acc hk hacc => ?_)
    have hal : acc.toList.length = ks.length := by rw [Array.length_toList, hacc.1, hl]
    have I1 : L2.Inv X pins σ H { s with heap := h', toks := tk } := I.kept hk
    have rv : Vals ((kvs.map (·.1)).map kV) acc.toList := by
      refine vals_of_at (by rw [hal, ← hl, ← hkeys]; simp) fun j x u e1 e2 => ?_
      obtain ⟨k, y, e3, e4⟩ := hacc.2 j u (by rw [← Array.getElem?_toList]; exact e2)
      have e5 : (vs.map (·.1))[j]? = some k := by rw [List.getElem?_map, e3]; rfl
      rw [List.getElem?_map, ← hkeys, e5] at e1
      cases e1
      exact relV_key (show keyIs k u = true from e4)
    refine wpAny_bind (wpAny_newList ?_ (by rw [hal]; exact S.ln))
    have hoL : (h'.push (seqObj "list" acc.toList.toArray 0)).get? h'.objs.size = some (seqObj "list" acc.toList.toArray 0) := Heap.get?_push_size _ rfl
    have e := each_of rv k4
    have hold : ∀ b u, h'.get? b = some u → (W.sortingHeap (h'.push (seqObj "list" acc.toList.toArray 0)) h'.objs.size acc.toList).get? b = some u := fun b u hb =>
      W.sortingHeap_old (Nat.ne_of_lt (Heap.lt_size hb)) (Heap.get?_push_of_some _ hb)
    have er' := (each_reads I1 gh (pys_map S.py).2 e).mono fun _ _ ⟨as, r⟩ => (⟨as, PyProof.Rows.Reads.keeps hold r⟩ : ∃ as, Reads (W.sortingHeap (h'.push (seqObj "list" acc.toList.toArray 0)) h'.objs.size acc.toList) _ _ as)
    refine wpAny_bind (wpAny_holding (wpAny_call_entry PyProof.Rows.slot_list_sort ⟨_, hoL, rfl⟩ PyProof.Rows.entry_list_sort
      (W.list_sort_vals (κ := W.dataKind (W.sortingHeap (h'.push (seqObj "list" acc.toList.toArray 0)) h'.objs.size acc.toList) (ks.map pyOr)) (s := { s with heap := h'.push (seqObj "list" acc.toList.toArray 0), toks := tk }) hoL
        (W.SortsAt.data (s := { s with heap := W.sortingHeap (h'.push (seqObj "list" acc.toList.toArray 0)) h'.objs.size acc.toList, toks := tk }) (W.each_map (R := fun v d => ∃ as, Reads (W.sortingHeap (h'.push (seqObj "list" acc.toList.toArray 0)) h'.objs.size acc.toList) v d as) pyOr er') S.al S.so (W.bound_map (S.bound hu))) (by rw [hal]; exact S.ln) ⟨_, rfl, ?_⟩)
      (PyProof.Rows.args_list_sort _)))
    obtain ⟨ws, rw_, hws⟩ := of_each (W.sortVals_data false e er' S.al)
    obtain ⟨e', he'⟩ := PyProof.Rows.sortedHeap_at (vs := acc.toList) (out := (W.sortVals (W.dataKind (W.sortingHeap (h'.push (seqObj "list" acc.toList.toArray 0)) h'.objs.size acc.toList) (ks.map pyOr)) false acc.toList acc.toList).toArray) hoL
    have hlen : ws.length ≤ sizeLine := by rw [← hws.len, (List.mergeSort_perm ks _).length_eq]; exact S.ln
    have fr : H h'.objs.size = none := I1.hok.fresh (Nat.le_refl _)
    refine wpAny_pure ⟨_, rfl, .ref h'.objs.size, upd H h'.objs.size (.lst ws), I1.laid (t' := tk) (fun b u e => ?_) (Nat.le_refl _)
      (show ObjOk X.prog X.w _ _ _ (.lst ws) from ⟨hlen, _, e', rw_, he'⟩), rfl, q _ _ _ _ (New.lst gh hws fr)⟩
    have hb : b < h'.objs.size := Heap.lt_size e
    rw [PyProof.Rows.sortedHeap_old (Nat.ne_of_lt hb) (by rw [size_push']; exact Nat.lt_succ_of_lt hb)]
    exact Heap.get?_push_of_some _ e
  · cases hz
theorem min_list_i {A : Around} {w : World} {prog : Program} {E : Value → Shared → Prop} {l : Addr} {vs : Array Value} {ps : List PyData} {as : List Addr} {Q : Value → Shared → Prop} (hh : A.handled = none) (hl : s.heap.IsList l vs) (hr : ReadsAll s.heap vs.toList ps as) (ha : W.AlikeAll ps) (hn : 0 < ps.length) (hu : A.units + 1 + PyData.depthAll ps < cLine)
    (h : ∀ v h' tk, vs[argBest (fun i j => W.dataLt (ps.getD i .none) (ps.getD j .none)) (ps.length - 1)]? = some v → (∀ b o, s.heap.get? b = some o → h'.get? b = some o) → Q v { s with heap := h', toks := tk }) :
    wpAny (model prog w) A (call (.builtin "min") [.ref l]) Q E s := by
  have hs : vs.size = ps.length := W.readsAll_len hr
  refine call_min_walkH (W.iter_listW (A := A.in1) hh hl fun s₂ e W' st hfp hw hk => ?_)
  refine ⟨_, _, _, _, _, _, _, s.heap, _, rfl, W', st, hfp, by omega, hw, hk, W.cmpIn_lt (A := A.in1) hr ha (by show A.units + 1 + _ < _; exact hu), fun v s' hP m => ?_⟩
  obtain ⟨h', tk, rfl, hk'⟩ := W.moved_old e rfl m
  rw [hs] at hP
  exact h v h' tk hP hk'
theorem pyOr_getD : ∀ {xs : List D} {i : Nat}, (xs.map pyOr).getD i .none = pyOr (xs.getD i .non)
  | [], i => by simp [pyOr, D.py]
  | d :: xs, 0 => rfl
  | d :: xs, i + 1 => by
    have := pyOr_getD (xs := xs) (i := i)
    simpa using this
theorem each_all {h : Heap} : ∀ {its : List Value} {xs : List D}, W.EachIs (fun u d => ∃ as, Reads h u (pyOr d) as) its xs → ∃ as, ReadsAll h its (xs.map pyOr) as
  | _, _, .nil => ⟨[], .nil⟩
  | _, _, .cons ⟨as, r⟩ t => by
    obtain ⟨bs, rs⟩ := each_all t
    exact ⟨as ++ bs, .cons r rs⟩
theorem RepFs.gt {K : PySem.W.Frag} {cl : Cl} {G : Hp} {ds : List D} {vs : List V} (h : RepFs K cl G ds vs) {i : Nat} {d : D} (e : ds[i]? = some d) : ∃ v, vs[i]? = some v ∧ RepF K cl G d v := h.get e
theorem bi_min (hc : X.calm = true) (hu : X.A.units + 65 < cLine) : CallR X (.builtin "min") (rBi X.K cl minB) := by
  intro pins s σ H xs us Q I r ⟨G, ds, z, gh, h, hz, q⟩
  unfold minB at hz
  split at hz
  · rename_i o x l
    split at hz <;> cases hz
    rename_i hok
    obtain ⟨ps, S⟩ := sortOk_inv hok
    obtain ⟨v, f, rfl, hv⟩ := h.one
    obtain ⟨a, vs, rfl, k2, k3⟩ := hv.lst gh
    obtain ⟨its, rv, hl, _⟩ := I.list k2
    rw [Vals.ref1 r]
    have e := each_of rv k3
    obtain ⟨pm, pd⟩ := pys_map S.py
    obtain ⟨as, ra⟩ := each_all (each_reads I gh pd e)
    rw [pm] at ra
    have hal : W.AlikeAll ps := by
      refine ⟨fun p hp q hq => S.al _ (by rw [pm]; exact hp) _ (by rw [pm]; exact hq), fun p hp => ?_⟩
      rcases S.so with t | t
      · obtain ⟨u, w, rfl⟩ := t p (by rw [pm]; exact hp)
        nofun
      · exact (t p (by rw [pm]; exact hp)).1
    have hpl : ps.length = l.length + 1 := by rw [← pm]; simp
    refine min_list_i (I.ok.hd hc) hl.isList (show ReadsAll s.heap its.toArray.toList ps as from ra) hal (by omega) (by have := S.dp; omega) fun v h' tk hv' hk => ?_
    have hbt : (fun i j => W.dataLt (ps.getD i .none) (ps.getD j .none)) = fun i j => ltD ((x :: l).getD i .non) ((x :: l).getD j .non) := by
      funext i j
      rw [← pm, pyOr_getD, pyOr_getD]
      rfl
    have hpn : ps.length - 1 = l.length := by omega
    rw [hbt, hpn] at hv'
    obtain ⟨hb1, hb2⟩ := W.argBest_fold ltD .non x l l.length (Nat.le_refl _)
    rw [List.take_length] at hb2
    generalize argBest (fun i j => ltD ((x :: l).getD i .non) ((x :: l).getD j .non)) l.length = k at hv' hb1 hb2
    have hk2 : k < (x :: l).length := by rw [List.length_cons]; omega
    have hdk : (x :: l)[k]? = some (minOf x l) := by
      rw [List.getElem?_eq_getElem hk2, ← show (x :: l).getD k .non = minOf x l from hb2, List.getD_eq_getElem?_getD, List.getElem?_eq_getElem hk2]
      rfl
    obtain ⟨v0, hv0, hr0⟩ := k3.get hdk
    obtain ⟨u, hu0, ru⟩ := rv.get hv0
    have : u = v := by
      have hv2 : its[k]? = some v := by simpa using hv'
      rw [hv2] at hu0
      exact (Option.some.inj hu0).symm
    subst this
    exact ⟨v0, H, I.kept (t' := tk) hk, ru, q _ _ _ _ (New.same gh hr0)⟩
  · cases hz
    obtain ⟨v, u, f, g, rfl, hv, hu⟩ := h.two
    rw [hv.int, hu.int] at r
    exact call_min2 hc pins s σ H _ us Q I r ⟨_, _, rfl, q _ _ _ _ (New.int gh _)⟩
  · cases hz
end
end GF
namespace GF
open PySem L2 PySem.Spec PyProof.Rows

section
variable {X : Cx} {cl : Cl} {xa : Nat → Value} {W : WX} {P : Phi} {C : CC} {n : Nat}
theorem few_ok {es : List Expr} {env : Env} {pos : Pos} (hn : ∀ z ∈ es, NoStar z) (hl : es.length < 30) :
    ((backTo pos (starEach es env)).all (fun x => !x.1) && (backToKw pos (keywordEach [] env)).all (fun x => x.1.isSome) && decide (es.length + ([] : List Keyword).length + (if ([] : List Keyword).isEmpty then 0 else 1) < 30)) = true := by
  rw [star_all hn]
  simp [backToKw, keywordEach, hl]
/-- a method call, the method looked up -/
theorem Call_methodU {prog : Program} {w : World} {A : Around} {E : Value → Shared → Prop} {s : Shared} {env : Env} {o : Expr} {name : Str} {apos pos : Pos} {args : List Expr} {Q : Value → Shared → Prop}
    (hbase : attributeBase o name env (eval o env) = eval o env)
    (hfew : ((backTo pos (starEach args env)).all (fun x => !x.1) && (backToKw pos (keywordEach [] env)).all (fun x => x.1.isSome) && decide (args.length + ([] : List Keyword).length + (if ([] : List Keyword).isEmpty then 0 else 1) < 30)) = true)
    (hline : (apos.endLine == pos.line) = true)
    (h : wpAny (model prog w) A (eval o env) (fun ov s₁ => ∀ pl, wpAny (model prog w) A (getMethod ov name pl) (fun fx s₂ => wpAny (model prog w) A (callWith pos fx.1 fx.2 (backTo pos (starEach args env)) (backToKw pos (keywordEach [] env))) Q E s₂) E s₁) E s) :
    wpAny (model prog w) A (eval (.Call (.Attribute o name apos) args [] pos) env) Q E s := by
  rw [arm_eval_Call, hbase]
  refine wpAny_bind (wpAny_mono h (fun ov s₁ h₁ => ?_) fun _ _ e => e)
  refine wpAny_bind (wpAny_standAt ?_)
  have hform : methodCallForm (args.length + ([] : List Keyword).length) (backTo pos (starEach args env)) (backToKw pos (keywordEach [] env)) = true := hfew
  have hpos : methodCallPos true o env apos pos = pure pos := by unfold methodCallPos; simp [hline]
  unfold methodCall
  rw [hform]
  refine wpAny_bind (wpAny_holding ?_)
  show wpAny _ _ (getMethod ov name _) _ _ _
  refine wpAny_mono (h₁ _) (fun fx s2 h2 => ?_) fun _ _ e => e
  exact wpAny_bind (wpAny_of_eq hpos h2)
theorem pe_methD {o e : Expr} {m : Str} {es : List Expr} {apos pos : Pos} {ta : TE} {t : TA} (g : Good C cl xa P n X) (tk : Takes X W) (he : PE X o ta) (hb : isBase o = true) (ha : PA X (e :: es) t) (hn : ∀ z ∈ e :: es, NoStar z) (hl : (e :: es).length < 30) (hline : (apos.endLine == pos.line) = true) :
    PE X (.Call (.Attribute o m apos) (e :: es) [] pos) (fun σ H Q => ta σ H fun x H1 => ∃ a dx fs A fa sp, x = .ref a ∧ H1 a = some (.ins A dx fs) ∧ fs.lookup m = none ∧ Cls X.K A ∧ Meth X.K A m fa ∧ FnG X n fa sp ∧ t σ H1 fun vs H2 => sp (x :: vs) H2 Q (WE W σ)) := by
  refine ⟨fun pins s σ H Q I h => ?_⟩
  refine Call_methodU (base_ok hb) (few_ok hn hl) hline (thn (he.run pins s σ H _ I h) fun u s1 ⟨x, H1, I1, rx, a, dx, fs, A, fa, sp, ex, ea, l, c, hm, fg, q⟩ => fun pl => ?_)
  subst ex
  obtain rfl : u = Value.ref a := rx
  obtain ⟨hk, fd, ps, hb, F⟩ := fg
  refine getmeth_ok I1 ea c hm l ?_
  refine PySem.W.callWith_K (first := [.ref a]) (h₀ := X.base) I.ok.mod.kin hm.kp (thn (ha.run pos pins s1 σ H1 _ I1 q) fun us s2 ⟨vs, H2, I2, r, q2⟩ => ⟨I2.kIn, ?_⟩) (star_cons (hn e List.mem_cons_self)) (star_any fun z hz => hn z (List.mem_cons_of_mem _ hz))
  exact run_fnS (us := .ref a :: us) (vs := .ref a :: vs) (E := WE W) F g.roomN hb (passAt tk σ) I2 (.cons rfl r) q2
theorem look_none {m : Str} : ∀ {ns : List Nat} {vs : List V}, (∀ i ∈ ns, cl.fn i ≠ m) → ((ns.map cl.fn).zip vs).lookup m = none
  | [], _, _ => rfl
  | i :: ns, [], _ => rfl
  | i :: ns, v :: vs, h => by
    have ne : (m == cl.fn i) = false := beq_eq_false_iff_ne.mpr fun e => h i List.mem_cons_self e.symm
    simp only [List.map_cons, List.zip_cons_cons, List.lookup_cons, ne]
    exact look_none fun j hj => h j (List.mem_cons_of_mem _ hj)
theorem se_meth {o e : Expr} {m : Str} {es : List Expr} {apos pos : Pos} {x : IE} {irs : IEs} {j : Nat} (g : Good C cl xa P n X) (tk : Takes X W) (hb : isBase o = true) (hl : (e :: es).length < 30) (hline : (apos.endLine == pos.line) = true) (hM : C.M.lookup m = some j)
    (ho : SE cl xa W P X o x) (ha : PA X (e :: es) (tL X.K cl xa W (evalL P irs))) (hn : ∀ z ∈ e :: es, NoStar z) : SE cl xa W P X (.Call (.Attribute o m apos) (e :: es) [] pos) (.meth x j irs) := by
  have key : PE X (.Call (.Attribute o m apos) (e :: es) [] pos) (tE X.K cl xa W (evalE P (.meth x j irs))) := by
    refine (pe_methD g tk ho.pe hb ha hn hl hline).weak fun s H Q ⟨G, r, f, t, o, h⟩ => ⟨G, r, f, t, o, ?_⟩
    unfold evalE at h
    cases hx : evalE P x r with
    | stuck => simp only [hx, RE.val] at h; exact h
    | err k r1 => simp only [hx, RE.val] at h; exact h
    | ok od r1 =>
      cases od with
      | slot i => simp only [hx, RE.val] at h; exact h.elim
      | val d =>
        simp only [hx, RE.val] at h
        intro v fv G1 H1 f1 o1 e1 i1
        have hod : odD d = false := by
          cases d with
          | dct b ks vs => exact h.elim
          | _ => rfl
        obtain ⟨o2, e2, rf⟩ := o1.frz hod i1
        have e12 := e1.trans e2 fun _ z => z
        have h1 := PostE.base (f1 := f1) (fv := []) h (by simpa using e12)
        cases d with
        | ins ow k ns ds =>
          have rf' : RepF X.K cl (gHp G1 H1 fv) (.ins false k ns ds) v := rf
          have ri := Rep.ins o2.gh (Rep.of_F (H := H1) rf')
          obtain ⟨a, A, dx, vs, rfl, hA, hH, hlen, hall, hr⟩ := ri
          cases emt : P.mt k j with
          | none => simp only [emt] at h1; exact h1.elim
          | some fi =>
            obtain ⟨fa, c, hm, fg, hne⟩ := g.mth m j k fi A hM emt hA
            refine ⟨a, dx, _, A, fa, _, rfl, hH, look_none fun i hi => hne i (List.all_eq_true.mp hall i hi), c, hm, fg, ?_⟩
            refine ⟨_, r1, f1, t, o2, ?_⟩
            simp only [emt] at h1
            cases hy : evalL P irs r1 with
            | stuck => simp only [hy] at h1; exact h1
            | err k r2 => simp only [hy] at h1; exact h1
            | ok es r2 =>
              simp only [hy] at h1
              intro us G3 H3 f3 o3 e3 rs3
              have h3 := PostE.base (f1 := f3) (fv := []) h1 (by simpa using e3)
              exact call_out (t := [] ++ ([] ++ t)) o3 (RepFs.cons (rf'.mono e3.gs) rs3) h3
        | _ => exact h1.elim
  exact ⟨key, pt_val key, fun _ _ => nofun⟩

/-! ### built-in functions -/
theorem mem_look {α : Type} : ∀ {l : List (Str × α)} {x : Str} {a : α}, l.lookup x = some a → (x, a) ∈ l
  | [], _, _, h => by cases h
  | (y, b) :: l, x, a, h => by
    simp only [List.lookup_cons] at h
    split at h
    · rename_i e
      cases h
      have : x = y := by simpa using e
      subst this
      exact List.mem_cons_self
    · exact List.mem_cons_of_mem _ (mem_look h)
theorem rBi_of {s : L2.St} {G H : Hp} {r : Rho} {f t : List Addr} {Q : VK} {g : List D → Option D} {os : List Od} {vs : List V} {fv : List Addr} (o : Ok X.K cl G H r s f t) (rs : OdsIs X.K cl s G H os vs fv)
    (h : PostE X.K cl xa W s G H f t (fun _ _ v _ _ H' _ => Q v H') (match getAll r os with | some ds => optE (g ds) r | none => .stuck)) : rBi X.K cl g vs H Q := by
  cases e : getAll r os with
  | none => simp only [e] at h; exact h.elim
  | some ds =>
    simp only [e] at h
    cases ez : g ds with
    | none => rw [ez] at h; exact h.elim
    | some z =>
      rw [ez] at h
      exact ⟨G, ds, z, o.gh, rs.reps o e, ez, fun v fv G' H' n => PostE.fin h o n⟩
theorem bi_key {t : TA} {irs : IEs} {b : BI} (ht : t = tO X.K cl xa W (evalO P irs)) (s : L2.St) (H : Hp) (Q : VK) (h : tE X.K cl xa W (evalE P (.bi b irs)) s H Q) : tCB (rBi X.K cl (biD b)) t s H Q := by
  subst ht
  obtain ⟨G, r, f, t, o, h⟩ := h
  refine ⟨G, r, f, t, o, ?_⟩
  unfold evalE at h
  cases hx : evalO P irs r with
  | stuck => simp only [hx] at h; exact h
  | err k r1 => simp only [hx] at h; exact h
  | ok os r1 =>
    simp only [hx] at h
    intro vs fv G1 H1 f1 o1 e1 i1
    exact rBi_of o1 i1 (PostE.base h e1)
theorem se_bi {x : Str} {e : Expr} {es : List Expr} {p pos : Pos} {irs : IEs} {b : BI} (g : Good C cl xa P n X) (hg : Gl X x) (hd : notDbg x = true) (hT : C.B.contains x = true) (hb : biOf.lookup x = some b)
    (ha : PA X (e :: es) (tO X.K cl xa W (evalO P irs))) (hn : ∀ z ∈ e :: es, NoStar z) : SE cl xa W P X (.Call (.Name x p) (e :: es) [] pos) (.bi b irs) := by
  have key : PE X (.Call (.Name x p) (e :: es) [] pos) (tE X.K cl xa W (evalE P (.bi b irs))) := by
    have s1 := star_cons (env := X.env) (es := es) (hn e List.mem_cons_self)
    have s2 := star_any (env := X.env) (pos := pos) (es := es) fun z hz => hn z (List.mem_cons_of_mem _ hz)
    have m := mem_look hb
    have nb : X.mg x = none := g.blt x hT
    unfold biOf at m
    simp only [List.mem_cons, List.not_mem_nil, or_false, Prod.mk.injEq] at m
    rcases m with ⟨rfl, rfl⟩ | ⟨rfl, rfl⟩ | ⟨rfl, rfl⟩ | ⟨rfl, rfl⟩ | ⟨rfl, rfl⟩ | ⟨rfl, rfl⟩ | ⟨rfl, rfl⟩ | ⟨rfl, rfl⟩ | ⟨rfl, rfl⟩ | ⟨rfl, rfl⟩ | ⟨rfl, rfl⟩
    · exact (pe_callB bi_len hg nb (by decide +kernel) ha (by decide +kernel) (by decide +kernel) s1 s2).weak fun s H Q h => bi_key rfl s H Q h
    · exact (pe_callTy bi_int hg nb (by decide +kernel) ha (by decide +kernel) (by decide +kernel) s1 s2).weak fun s H Q h => bi_key rfl s H Q h
    · exact (pe_callB bi_abs hg nb (by decide +kernel) ha (by decide +kernel) (by decide +kernel) s1 s2).weak fun s H Q h => bi_key rfl s H Q h
    · exact (pe_callTy bi_tuple hg nb (by decide +kernel) ha (by decide +kernel) (by decide +kernel) s1 s2).weak fun s H Q h => bi_key rfl s H Q h
    · exact (pe_callTy (bi_list g.calm) hg nb (by decide +kernel) ha (by decide +kernel) (by decide +kernel) s1 s2).weak fun s H Q h => bi_key rfl s H Q h
    · exact (pe_callB (bi_all g.calm) hg nb (by decide +kernel) ha (by decide +kernel) (by decide +kernel) s1 s2).weak fun s H Q h => bi_key rfl s H Q h
    · exact (pe_callB (bi_any g.calm) hg nb (by decide +kernel) ha (by decide +kernel) (by decide +kernel) s1 s2).weak fun s H Q h => bi_key rfl s H Q h
    · exact (pe_callB (bi_sum g.calm) hg nb (by decide +kernel) ha (by decide +kernel) (by decide +kernel) s1 s2).weak fun s H Q h => bi_key rfl s H Q h
    · exact (pe_callB (bi_min g.calm (by have := g.room.un; omega)) hg nb (by decide +kernel) ha (by decide +kernel) (by decide +kernel) s1 s2).weak fun s H Q h => bi_key rfl s H Q h
    · exact (pe_callB (bi_max g.calm) hg nb (by decide +kernel) ha (by decide +kernel) (by decide +kernel) s1 s2).weak fun s H Q h => bi_key rfl s H Q h
    · exact (pe_callB (bi_sorted g.calm (by have := g.room.un; omega)) hg nb (by decide +kernel) ha (by decide +kernel) (by decide +kernel) s1 s2).weak fun s H Q h => bi_key rfl s H Q h
  exact ⟨key, pt_val key, fun _ _ => nofun⟩

theorem se_isi {t : Str} {a : Expr} {p q pos : Pos} {x : IE} {ty : Ty} (g : Good C cl xa P n X) (hg : Gl X "isinstance") (hT : C.B.contains ("isinstance" : Str) = true) (hgt : Gl X t) (hd : notDbg t = true) (hTt : C.B.contains t = true) (ht : tyOf.lookup t = some ty)
    (ha : SE cl xa W P X a x) : SE cl xa W P X (.Call (.Name "isinstance" p) [a, .Name t q] [] pos) (.isi x ty) := by
  have key : PE X (.Call (.Name "isinstance" p) [a, .Name t q] [] pos) (tE X.K cl xa W (evalE P (.isi x ty))) := by
    have hv : bootBuiltins t = some (.type (tyName ty)) ∧ t ≠ "__name__" := by
      have m := mem_look ht
      unfold tyOf at m
      simp only [List.mem_cons, List.not_mem_nil, or_false, Prod.mk.injEq] at m
      rcases m with ⟨rfl, rfl⟩ | ⟨rfl, rfl⟩ | ⟨rfl, rfl⟩ | ⟨rfl, rfl⟩ | ⟨rfl, rfl⟩ | ⟨rfl, rfl⟩ <;> exact ⟨by decide +kernel, by decide +kernel⟩
    have hm : X.mg t = none := g.blt t hTt
    have pt' : PE X (.Name t q) (tC (.ty (tyName ty))) := pe_bltn hgt hm hv.1 (show RelV (.ty (tyName ty)) (.type (tyName ty)) from rfl) hv.2 (Gl_dbg hd)
    have pa : PA X [a, .Name t q] (tCons (tE X.K cl xa W (evalE P x)) (tCons (tC (.ty (tyName ty))) tNil)) := pa_cons ha.pe (pa_cons pt' pa_nil) (star_cons ha.ns)
    refine (pe_callB call_isi hg (g.blt _ hT) (by decide +kernel) pa (by decide +kernel) (by decide +kernel) (star_cons ha.ns) (by rfl)).weak fun s H Q ⟨G, r, f, t, o, h⟩ => ⟨G, r, f, t, o, ?_⟩
    unfold evalE at h
    refine PostE.seqG h fun a r1 d v1 fv1 fx G1 H1 f1 hx ea o1 e1 i1 h1 => ?_
    cases eb : isTy d ty with
    | none => simp only [eb] at h1; exact h1.elim
    | some b =>
      simp only [eb] at h1
      obtain ⟨u, hu, hk⟩ := isTy_kit o1.gh i1 eb
      exact ⟨v1, .ty (tyName ty), u, .type (tyName ty), b, rfl, .ty _, hu, hk, PostE.fin h1 o1 (New.bl o1.gh _)⟩
  exact ⟨key, pt_val key, fun _ _ => nofun⟩

/-! ### methods of built-in types -/
def TyN (K : PySem.W.Frag) (x : V) (H : Hp) (T : String) : Prop := (∃ a vs, x = .ref a ∧ T = "list" ∧ SqL K H a vs) ∨ (∃ a vs, x = .ref a ∧ T = "tuple" ∧ SqX K H a vs) ∨ ∃ z, x = .str z ∧ T = "str"
theorem TyN.is {pins : List (Addr × Obj)} {σ : L2.St} {H : Hp} {s : Shared} {T : String} {x : V} {v : Value} (I : L2.Inv X pins σ H s) (r : RelV x v) (ty : TyN X.K x H T) :
    s.TypeIs v T ∧ ∀ a, v = .ref a → ∃ ob, s.heap.get? a = some ob ∧ ob.dict = none := by
  rcases ty with ⟨a, vs, rfl, rfl, h⟩ | ⟨a, vs, rfl, rfl, h⟩ | ⟨z, rfl, rfl⟩
  · cases r
    obtain ⟨its, _, ⟨o, n, e, c, d, _⟩, _⟩ := I.list h
    exact ⟨⟨o, e, c⟩, fun b eb => by cases eb; exact ⟨o, e, d⟩⟩
  · cases r
    have h2 := h
    rcases h with ⟨o, h, hd⟩ | ⟨o, its, n, h, hc, hd, _⟩
    · have ho := I.hok a _ h
      obtain ⟨e, _⟩ := ho
      obtain ⟨its, _, p, _⟩ := I.tuple h2.t
      exact ⟨p.typeIs, fun b eb => by cases eb; exact ⟨o, e, hd⟩⟩
    · exact ⟨⟨o, I.kIn a o h, hc⟩, fun b eb => by cases eb; exact ⟨o, I.kIn a o h, hd⟩⟩
  · obtain ⟨t, rfl⟩ := r
    exact ⟨typeIs_str s z t, fun _ e => nomatch e⟩
theorem pe_bmN {o e : Expr} {m : Str} {apos pos : Pos} {ta : TE} {t : TA} (he : PE X o ta) (hb : isBase o = true) (ha : PA X [e] t) (hn : NoStar e) (hline : (apos.endLine == pos.line) = true) :
    PE X (.Call (.Attribute o m apos) [e] [] pos) (fun σ H Q => ta σ H fun x H1 => ∃ (T id : String) (R : V → List V → Hp → VK → Prop), PlainAttrs T ∧ Slot T m id ∧ typeOf (.builtin id) = pure (.type "method_descriptor") ∧ MtR X id R ∧ TyN X.K x H1 T ∧ t σ H1 fun vs H2 => R x vs H2 Q) := by
  refine ⟨fun pins s σ H Q I h => ?_⟩
  refine wpAny_Call_method_late (base_ok hb) (few_ok (fun z hz => by simp at hz; subst hz; exact hn) (by simp)) hline rfl (thn (he.run pins s σ H _ I h) fun v s1 ⟨x, H1, I1, r1, T, id, R, pa, slot, hty, hm, ty, q1⟩ => ?_)
  obtain ⟨h1, h2⟩ := ty.is I1 r1
  refine ⟨T, id, pa, slot, hty, h1, h2, ?_⟩
  have hA := ha.run pos pins s1 σ H1 _ I1 q1
  have hs : starEach [e] X.env = (false, eval e X.env) :: starEach [] X.env := star_cons hn
  rw [hs] at hA ⊢
  refine Calls.callWith_builtin (by rfl) (Calls.evalArgs_plain ?_)
  exact thn hA fun us s2 ⟨vs, H2, I2, r2, q2⟩ => hm pins s2 σ H2 x vs v us Q I2 r1 r2 q2
theorem Reps.one' {K : PySem.W.Frag} {G H : Hp} {d : D} {v : V} {f : List Addr} (h : Rep K cl G H d v f) : Reps K cl G H [d] [v] := by
  unfold Reps; exact ⟨v, [], f, rfl, h, rfl⟩
theorem bm_join : MtR X "str.join" (rBm X.K cl joinM) := by
  intro pins s σ H x xs v us Q I rx rxs ⟨G, d, ds, f, z, gh, hd, hs, hz, q⟩
  unfold joinM at hz
  split at hz
  · split at hz
    · rename_i ys e
      split at hz <;> cases hz
      rename_i hl
      obtain ⟨w, g, rfl, hw⟩ := hs.one
      obtain ⟨a, vs, rfl, k2, k3⟩ := hw.lst gh
      obtain rfl := strsD_V e k3
      obtain rfl := hd.str
      exact mt_join pins s σ H _ _ v us Q I rx rxs ⟨_, a, ys, rfl, rfl, .inl k2, hl, q _ _ _ _ (New.str gh _)⟩
    · cases hz
  · cases hz
def RtI (K : PySem.W.Frag) (cl : Cl) : V → List V → Hp → VK → Prop := fun x xs H Q => ∃ G ds es f z, Same G H ∧ Rep K cl G H (.tup ds) x f ∧ Reps K cl G H es xs ∧ indexM (.tup ds) es = some z ∧ ∀ v fv G' H', New K cl G H z v fv G' H' → Q v H'
def RlI (K : PySem.W.Frag) (cl : Cl) : V → List V → Hp → VK → Prop := fun x xs H Q => ∃ G o ds es f z, Same G H ∧ Rep K cl G H (.lst o ds) x f ∧ Reps K cl G H es xs ∧ indexM (.lst o ds) es = some z ∧ ∀ v fv G' H', New K cl G H z v fv G' H' → Q v H'
theorem bm_tupI (hu : X.A.units + 65 < cLine) : MtR X "tuple.index" (RtI X.K cl) :=
  fun pins s σ H x xs v us Q I rx rxs ⟨G, ds, es, f, z, gh, hd, hs, hz, q⟩ => bm_tup_index hu I rx rxs gh hd hs hz q
theorem bm_lstI (hu : X.A.units + 65 < cLine) : MtR X "list.index" (RlI X.K cl) :=
  fun pins s σ H x xs v us Q I rx rxs ⟨G, o, ds, es, f, z, gh, hd, hs, hz, q⟩ => bm_list_index hu I rx rxs gh hd hs hz q
theorem Rep.sqx {K : PySem.W.Frag} {G H : Hp} {ds : List D} {v : V} {f : List Addr} (gh : Same G H) (h : Rep K cl G H (.tup ds) v f) : ∃ a vs, v = .ref a ∧ SqX K H a vs := by
  obtain ⟨a, vs, e, h1, _, _⟩ := h.tup gh
  exact ⟨a, vs, e, h1.mono gh⟩
theorem se_bm {o e : Expr} {m : Str} {apos pos : Pos} {x : IE} {irs : IEs} {b : BM} (hu : X.A.units + 65 < cLine) (hb : isBase o = true) (hline : (apos.endLine == pos.line) = true) (hM : bmOf.lookup m = some b)
    (ho : SE cl xa W P X o x) (ha : PA X [e] (tO X.K cl xa W (evalO P irs))) (hn : NoStar e) : SE cl xa W P X (.Call (.Attribute o m apos) [e] [] pos) (.bm x b irs) := by
  have key : PE X (.Call (.Attribute o m apos) [e] [] pos) (tE X.K cl xa W (evalE P (.bm x b irs))) := by
    refine (pe_bmN ho.pe hb ha hn hline).weak fun s H Q ⟨G, r, f, t, o, h⟩ => ⟨G, r, f, t, o, ?_⟩
    unfold evalE at h
    refine PostE.seq h fun a r1 v1 fv1 G1 H1 f1 hx o1 e1 i1 h1 => ?_
    cases ea : a.get r1 with
    | none => simp only [ea, Option.bind_none] at h1; exact h1.elim
    | some d1 =>
      simp only [ea, Option.bind_some] at h1
      obtain ⟨fx, rd1⟩ := i1.rep o1 ea
      cases ek : kindD d1 with
      | none => simp only [ek] at h1; exact h1.elim
      | some T =>
        simp only [ek] at h1
        cases hok : okBm b T with
        | false => simp only [hok] at h1; exact h1.elim
        | true =>
        simp only [hok, if_true] at h1
        have cont : ∀ (R : V → List V → Hp → VK → Prop), (∀ G2 H2 d2 ds vs fx z, kindD d2 = some T → Same G2 H2 → Rep X.K cl G2 H2 d2 v1 fx → Reps X.K cl G2 H2 ds vs → bmD b d2 ds = some z → (∀ v fv G' H', New X.K cl G2 H2 z v fv G' H' → Q v H') → R v1 vs H2 Q) →
            tO X.K cl xa W (evalO P irs) s H1 fun vs H2 => R v1 vs H2 Q := by
          intro R hR
          refine ⟨G1, r1, f1, fv1 ++ t, o1, ?_⟩
          cases hy : evalO P irs r1 with
          | stuck => simp only [hy] at h1; exact h1
          | err k r2 => simp only [hy] at h1; exact h1
          | ok os r2 =>
            simp only [hy] at h1
            intro vs fv2 G2 H2 f2 o2 e2 i2
            have i1' := i1.keep o1 e2
            have h2 := PostE.base h1 e2
            cases ea2 : a.get r2 with
            | none => simp only [ea2] at h2; exact h2.elim
            | some d2 =>
              cases eg : getAll r2 os with
              | none => simp only [ea2, eg] at h2; exact h2.elim
              | some ds =>
                simp only [ea2, eg] at h2
                obtain ⟨fx2, rd2⟩ := i1'.rep o2 ea2
                split at h2
                · rename_i hk
                  cases ez : bmD b d2 ds with
                  | none => rw [ez] at h2; exact h2.elim
                  | some z =>
                    rw [ez] at h2
                    exact hR G2 H2 d2 ds vs fx2 z hk o2.gh rd2 (i2.reps o2 eg) ez fun v fv G' H' n => PostE.fin h2 o2 n
                · exact h2.elim
        have m' := mem_look hM
        unfold bmOf at m'
        simp only [List.mem_cons, List.not_mem_nil, or_false, Prod.mk.injEq] at m'
        rcases m' with ⟨rfl, rfl⟩ | ⟨rfl, rfl⟩ | ⟨rfl, rfl⟩
        · cases d1 with
          | str z =>
            cases ek
            exact ⟨"str", "str.join", rBm X.K cl joinM, PySem.F.plainAttrs_str, PySem.F.slot_str_join, PySem.F.type_str_join, bm_join (cl := cl), .inr (.inr ⟨z, rd1.str, rfl⟩), cont _ fun G2 H2 d2 ds vs fx z hk gh rd rs ez q => ⟨G2, d2, ds, fx, z, gh, rd, rs, ez, q⟩⟩
          | _ => simp only [kindD, Option.some.injEq, reduceCtorEq] at ek <;> subst ek <;> cases hok
        · cases d1 with
          | tup es =>
            cases ek
            obtain ⟨a', vs', e', hx'⟩ := rd1.sqx o1.gh
            exact ⟨"tuple", "tuple.index", RtI X.K cl, PySem.F.plainAttrs_tuple, PySem.F.slot_tuple_index, PySem.F.type_tuple_index, bm_tupI (cl := cl) hu, .inr (.inl ⟨a', vs', e', rfl, hx'⟩), cont _ fun G2 H2 d2 ds vs fx z hk gh rd rs ez q => by
              cases d2 <;> cases hk
              exact ⟨G2, _, ds, fx, z, gh, rd, rs, ez, q⟩⟩
          | lst o' es =>
            cases ek
            obtain ⟨a', vs', e', hx', _⟩ := rd1.lst o1.gh
            exact ⟨"list", "list.index", RlI X.K cl, PySem.F.plainAttrs_list, PySem.F.slot_list_index, PySem.F.type_list_index, bm_lstI (cl := cl) hu, .inl ⟨a', vs', e', rfl, hx'⟩, cont _ fun G2 H2 d2 ds vs fx z hk gh rd rs ez q => by
              cases d2 <;> cases hk
              exact ⟨G2, _, _, ds, fx, z, gh, rd, rs, ez, q⟩⟩
          | _ => simp only [kindD, Option.some.injEq, reduceCtorEq] at ek <;> subst ek <;> cases hok
        · cases T <;> cases hok
  exact ⟨key, pt_val key, fun _ _ => nofun⟩
end
end GF
namespace GF
open PySem L2 PySem.Spec PyProof.Rows

/-! ## targets -/
def lenT : Tgs → Nat
  | .nil => 0
  | .cons _ r => lenT r + 1
section
variable (K : PySem.W.Frag)
mutual
def gT : Tg → TG
  | .n i => gName i
  | .t l => gTup K (lenT l) (gTs l)
def gTs : Tgs → TGs
  | .nil => gNil
  | .cons x r => gCons (gT x) (gTs r)
end
end
section
variable {X : Cx} {C : CC} {sc : Scope}
theorem each_cons {e : Expr} {tg : Tg} (h : cT C sc e = some tg) (es : List Expr) : assignEach (e :: es) X.env = (false, assign e X.env) :: assignEach es X.env := by
  cases e <;> first | rfl | (unfold cT at h; cases h)
mutual
theorem pg_cT (hc : X.calm = true) (nd : X.N.Nodup) (hN : X.N = C.N) (so : ScOk sc X) : ∀ (e : Expr) (tg : Tg), cT C sc e = some tg → PG X e (gT X.K tg)
  | .Name x _, tg, h => by
    unfold cT at h
    split at h
    · rename_i hl
      rw [Option.map_eq_some_iff] at h
      obtain ⟨i, hi, rfl⟩ := h
      unfold gT
      exact pg_name nd (by rw [hN]; exact ixS_at hi) (so.loc hl).1 (so.loc hl).2
    · cases h
  | .Tuple es _ _, tg, h => by
    unfold cT at h
    rw [Option.map_eq_some_iff] at h
    obtain ⟨l, hl, rfl⟩ := h
    unfold gT
    obtain ⟨p, a, b⟩ := pgs_cT hc nd hN so es l hl
    exact pg_tup hc p a b
  | .BoolOp .., _, h => by unfold cT at h; cases h
  | .NamedExpr .., _, h => by unfold cT at h; cases h
  | .BinOp .., _, h => by unfold cT at h; cases h
  | .UnaryOp .., _, h => by unfold cT at h; cases h
  | .Lambda .., _, h => by unfold cT at h; cases h
  | .IfExp .., _, h => by unfold cT at h; cases h
  | .Dict .., _, h => by unfold cT at h; cases h
  | .Set .., _, h => by unfold cT at h; cases h
  | .ListComp .., _, h => by unfold cT at h; cases h
  | .SetComp .., _, h => by unfold cT at h; cases h
  | .DictComp .., _, h => by unfold cT at h; cases h
  | .GeneratorExp .., _, h => by unfold cT at h; cases h
  | .Await .., _, h => by unfold cT at h; cases h
  | .Yield .., _, h => by unfold cT at h; cases h
  | .YieldFrom .., _, h => by unfold cT at h; cases h
  | .Compare .., _, h => by unfold cT at h; cases h
  | .Call .., _, h => by unfold cT at h; cases h
  | .FormattedValue .., _, h => by unfold cT at h; cases h
  | .JoinedStr .., _, h => by unfold cT at h; cases h
  | .Constant .., _, h => by unfold cT at h; cases h
  | .Attribute .., _, h => by unfold cT at h; cases h
  | .Subscript .., _, h => by unfold cT at h; cases h
  | .Starred .., _, h => by unfold cT at h; cases h
  | .List .., _, h => by unfold cT at h; cases h
  | .Slice .., _, h => by unfold cT at h; cases h
theorem pgs_cT (hc : X.calm = true) (nd : X.N.Nodup) (hN : X.N = C.N) (so : ScOk sc X) : ∀ (es : List Expr) (l : Tgs), cTs C sc es = some l → PGs X es (gTs X.K l) ∧ (assignEach es X.env).length = lenT l ∧ (assignEach es X.env).findIdx? (·.1) = none
  | [], l, h => by
    unfold cTs at h; cases h
    unfold gTs
    exact ⟨pgs_nil, rfl, rfl⟩
  | e :: es, l, h => by
    unfold cTs at h
    cases h1 : cT C sc e with
    | none => rw [h1] at h; cases h
    | some x =>
      cases h2 : cTs C sc es with
      | none => rw [h1, h2] at h; cases h
      | some r =>
        rw [h1, h2] at h; cases h
        obtain ⟨p, a, b⟩ := pgs_cT hc nd hN so es r h2
        have q := pg_cT hc nd hN so e x h1
        have ec := each_cons (X := X) h1 es
        unfold gTs
        refine ⟨pgs_cons q p (by rw [ec]; rfl), by rw [ec]; simp [lenT, a], ?_⟩
        rw [ec, List.findIdx?_cons]
        simp only [b, Bool.false_eq_true, if_false, Option.map_none]
end
theorem cT_t {e : Expr} {l : Tgs} (h : cT C sc e = some (.t l)) : ∃ es k p, e = .Tuple es k p := by
  cases e <;> unfold cT at h <;> first | exact ⟨_, _, _, rfl⟩ | (split at h <;> first | (rw [Option.map_eq_some_iff] at h; obtain ⟨_, _, h⟩ := h; cases h) | cases h) | cases h
end

section
variable {K : PySem.W.Frag} {cl : Cl} {G H : Hp} {f t : List Addr} {r r1 : Rho} {s : L2.St}
theorem wipe_set2 : ∀ {vs : List Nat} {s : L2.St} {i : Nat} {x y : Option V}, (wipe (s.set i x) vs).set i y = (wipe s vs).set i y
  | [], s, i, x, y => by unfold wipe; simp
  | v :: vs, s, i, x, y => by
    unfold wipe
    by_cases h : v = i
    · subst h; rw [List.set_set, List.set_set]; exact wipe_set2
    · rw [List.set_comm _ _ h, List.set_comm _ _ h, wipe_set2]
theorem wipe_set : ∀ {vs : List Nat} {s : L2.St} {i : Nat} {x : Option V}, i ∈ vs → wipe (s.set i x) vs = wipe s vs
  | [], _, _, _, h => nomatch h
  | v :: vs, s, i, x, h => by
    unfold wipe
    by_cases e : v = i
    · subst e; exact wipe_set2
    · rcases List.mem_cons.mp h with h | h
      · exact absurd h.symm e
      · rw [wipe_set h]
/-- a slot takes a value -/
theorem Ok.put {i : Nat} {d : D} {v : V} {fv : List Addr} (o : Ok K cl G H r s f (fv ++ t)) (h : Rep K cl G H d v fv) (hi : i < r.length) : ∃ f1, Ok K cl G H (r.set i (some d)) (s.set i (some v)) f1 t ∧ ∀ a ∈ f1, a ∈ f ∨ a ∈ fv := by
  obtain ⟨f0, fa, fb, rfl, h4, _⟩ := o.sl.any hi
  have sl := h4 G H d v fv (fun _ _ z => z) (fun _ _ => rfl) h
  have sub : ∀ a ∈ fa ++ (fv ++ fb), a ∈ fa ++ (f0 ++ fb) ∨ a ∈ fv := fun a ha => by
    simp only [List.mem_append] at ha ⊢
    rcases ha with z | z | z <;> simp [z]
  have sub2 : ∀ a ∈ fa ++ (fv ++ fb) ++ t, a ∈ fa ++ (f0 ++ fb) ++ (fv ++ t) := fun a ha => by
    simp only [List.mem_append] at ha ⊢
    rcases ha with (z | z | z) | z <;> simp [z]
  have nd : (fa ++ (fv ++ fb) ++ t).Nodup := by
    have pm : (fa ++ (f0 ++ fb) ++ (fv ++ t)).Perm (f0 ++ (fa ++ (fv ++ fb) ++ t)) := by
      simp only [← List.append_assoc]
      refine List.Perm.append_right t ?_
      have e1 : (fa ++ f0 ++ fb ++ fv).Perm (f0 ++ fa ++ (fv ++ fb)) := by
        rw [List.append_assoc (fa ++ f0)]
        exact List.Perm.append List.perm_append_comm List.perm_append_comm
      simpa only [List.append_assoc] using e1
    exact ((pm.nodup o.nd).sublist (List.sublist_append_right _ _))
  exact ⟨_, ⟨sl, nd, fun a ha => o.fr a (sub2 a ha), o.gh, o.tail.th⟩, sub⟩
theorem gTup_of {n : Nat} {g : TGs} {a : Addr} {vs : List V} {Q : L2.St → Hp → Prop} (h : SqT K H a vs) (hl : vs.length = n) (hg : g vs s H Q) : gTup K n g (.ref a) s H Q := ⟨a, vs, rfl, h, hl, hg⟩
abbrev TgEnd (K : PySem.W.Frag) (cl : Cl) (G H : Hp) (f : List Addr) (t : List Addr) (s : L2.St) (Q : L2.St → Hp → Prop) (r1 : Rho) (ow : List Nat → Bool) : Prop :=
  ∀ s1 f1, Ok K cl G H r1 s1 f1 t → (∀ a ∈ f1, a ∈ f) → (∀ vs, ow vs = true → wipe s1 vs = wipe s vs) → Q s1 H
mutual
theorem bind_F : ∀ (tg : Tg) (d : D) (v : V) (r r1 : Rho) (s : L2.St) (f : List Addr) (Q : L2.St → Hp → Prop), Ok K cl G H r s f t → RepF K cl G d v → bindT tg d r = some r1 → TgEnd K cl G H f t s Q r1 (fun vs => tgIn vs tg) → gT K tg v s H Q
  | .n i, d, v, r, r1, s, f, Q, o, h, e, q => by
    unfold bindT at e
    split at e
    · rename_i hi
      cases e
      unfold gT gName
      obtain ⟨f1, o1, sub⟩ := Ok.put (fv := []) (by simpa using o) (Rep.of_F h) hi
      exact q _ f1 o1 (fun a ha => by simpa using sub a ha) fun vs hv => wipe_set (by unfold tgIn at hv; simpa using hv)
    · cases e
  | .t l, d, v, r, r1, s, f, Q, o, h, e, q => by
    cases d with
    | tup ds =>
      unfold bindT at e
      unfold RepF at h
      obtain ⟨a, vs, rfl, h1, h2⟩ := h
      obtain ⟨b1, b2⟩ := bind_Fs l ds vs r r1 s f Q o h2 e fun s1 f1 o1 e1 e2 => q s1 f1 o1 e1 fun vs hv => e2 vs (by unfold tgIn at hv; exact hv)
      unfold gT
      exact gTup_of ((h1.mono o.gh).t) b1 b2
    | _ => unfold bindT at e; cases e
theorem bind_Fs : ∀ (l : Tgs) (ds : List D) (vs : List V) (r r1 : Rho) (s : L2.St) (f : List Addr) (Q : L2.St → Hp → Prop), Ok K cl G H r s f t → RepFs K cl G ds vs → bindTs l ds r = some r1 → TgEnd K cl G H f t s Q r1 (fun vs => tgsIn vs l) → vs.length = lenT l ∧ gTs K l vs s H Q
  | .nil, ds, vs, r, r1, s, f, Q, o, h, e, q => by
    cases ds with
    | nil =>
      unfold bindTs at e; cases e
      unfold RepFs at h; subst h
      unfold gTs
      exact ⟨rfl, rfl, q s f o (fun _ z => z) fun _ _ => rfl⟩
    | cons d ds => unfold bindTs at e; cases e
  | .cons x l, ds, vs, r, r1, s, f, Q, o, h, e, q => by
    cases ds with
    | nil => unfold bindTs at e; cases e
    | cons d ds =>
      unfold bindTs at e
      cases e1 : bindT x d r with
      | none => simp only [e1] at e; cases e
      | some r2 =>
        simp only [e1] at e
        unfold RepFs at h
        obtain ⟨v, vr, rfl, h1, h2⟩ := h
        -- the length does not hang on the slots
        have hl : ∀ (l : Tgs) (ds : List D) (r r1 : Rho), bindTs l ds r = some r1 → ds.length = lenT l := by
          intro l
          induction l using Tgs.rec (motive_1 := fun _ => True) with
          | nil => intro ds r r1 e; cases ds with
            | nil => rfl
            | cons d ds => unfold bindTs at e; cases e
          | cons x l _ ih => intro ds r r1 e; cases ds with
            | nil => unfold bindTs at e; cases e
            | cons d ds =>
              unfold bindTs at e
              cases e1 : bindT x d r with
              | none => simp only [e1] at e; cases e
              | some r2 => simp only [e1] at e; simp [lenT, ih ds r2 r1 e]
          | _ => trivial
        unfold gTs
        refine ⟨?_, v, vr, rfl, ?_⟩
        · simp [lenT, ← h2.len, hl l ds r2 r1 e]
        · refine bind_F x d v r r2 s f _ o h1 e1 fun s1 f1 o1 u1 w1 => ?_
          refine (bind_Fs l ds vr r2 r1 s1 f1 Q o1 h2 e fun s2 f2 o2 u2 w2 => q s2 f2 o2 (fun a ha => u1 a (u2 a ha)) fun vs hv => ?_).2
          unfold tgsIn at hv
          simp only [Bool.and_eq_true] at hv
          exact (w2 vs hv.2).trans (w1 vs hv.1)
end
/-- a target takes a value, owned or not -/
theorem bind_ok {tg : Tg} {d : D} {v : V} {fv : List Addr} {Q : L2.St → Hp → Prop} (o : Ok K cl G H r s f (fv ++ t)) (h : Rep K cl G H d v fv) (e : bindT tg d r = some r1)
    (q : ∀ s1 f1, Ok K cl G H r1 s1 f1 t → (∀ a ∈ f1, a ∈ f ∨ a ∈ fv) → (∀ vs, tgIn vs tg = true → wipe s1 vs = wipe s vs) → Q s1 H) : gT K tg v s H Q := by
  cases tg with
  | n i =>
    unfold bindT at e
    split at e
    · rename_i hi
      cases e
      unfold gT gName
      obtain ⟨f1, o1, sub⟩ := Ok.put o h hi
      exact q _ f1 o1 sub fun vs hv => wipe_set (by unfold tgIn at hv; simpa using hv)
    · cases e
  | t l =>
    have ho : d.own = false := by
      cases d <;> unfold bindT at e <;> first | rfl | cases e
    obtain ⟨h1, rfl⟩ := h.F ho
    exact bind_F _ d v r r1 s f Q (by simpa using o) h1 e fun s1 f1 o1 e1 w => q s1 f1 o1 (fun a ha => .inl (e1 a ha)) w
end
end GF
namespace GF
open PySem L2 PySem.Spec PyProof.Rows

/-! ## enumerate(tuple) -/
def IteT (K : PySem.W.Frag) (a : Addr) : It :=
  ⟨fun i H => ∃ (xs : List V) (x : V), SqT K H a xs ∧ xs[i]? = some x, fun i H v H' => ∃ T x, v = .ref T ∧ H T = none ∧ H' = upd H T (.tup [.int (i : Nat), x]) ∧ ∀ xs, SqT K H a xs → xs[i]? = some x, fun i H => ∃ xs : List V, SqT K H a xs ∧ xs.length ≤ i⟩
theorem enumT_item {prog : Program} {w : World} {A : Around} {E : Value → Shared → Prop} {s : Shared} {e it t : Addr} {i : Nat} {items : Array Value} {x old : Value} {Q : Option Value → Shared → Prop} (hh : A.handled = none)
    (he : IsEnum s.heap e it i old) (hit : s.heap.IsTupleIter it t i) (ht : s.heap.IsTuple t items) (hx : items[i]? = some x) (hne : e ≠ it) (het : e ≠ t) (hti : t ≠ it)
    (hQ : ∀ h' tk, IsEnumOut h' e it ((i : Int) + 1) x s.heap.objs.size → h'.IsTupleIter it t (i + 1) →
      h'.get? s.heap.objs.size = some { cls := .type "tuple", data := .seq #[.int i tk, x] } → h'.objs.size = s.heap.objs.size + 1 →
      (∀ b o, b ≠ e → b ≠ it → s.heap.get? b = some o → h'.get? b = some o) → Q (some (.ref s.heap.objs.size)) { s with heap := h', toks := tk + 1 }) :
    wpAny (model prog w) A (pyNext (.ref e)) Q E s := by
  have hi : i < items.size := by
    rcases Nat.lt_or_ge i items.size with z | z
    · exact z
    · rw [Array.getElem?_eq_none z] at hx; cases hx
  exact wpAny_pyNext_enum_itemD (Draws.tuple (A := A.in1) hh it t hti items) he ⟨hit, ht⟩ hi hne (by simp [hne, het]) fun y h' tk hy ho st hT hsz hk => by
    have : y = x := by rw [hx] at hy; cases hy; rfl
    subst this
    exact hQ h' tk ho st.1 hT hsz hk
theorem enumT_end {prog : Program} {w : World} {A : Around} {E : Value → Shared → Prop} {s : Shared} {e it t : Addr} {i : Nat} {items : Array Value} {old : Value} {Q : Option Value → Shared → Prop} (hh : A.handled = none)
    (he : IsEnum s.heap e it (i : Nat) old) (hit : s.heap.IsTupleIter it t i) (ht : s.heap.IsTuple t items) (hx : items[i]? = none)
    (hQ : ∀ h', Heap.ExtBut it s.heap h' → Q none { s with heap := h' }) : wpAny (model prog w) A (pyNext (.ref e)) Q E s := by
  have hT : s.TypeIs (.ref e) "enumerate" := ⟨_, he, rfl⟩
  unfold pyNext
  refine wpAny_bind (wpAny_attempt (wpAny_callSpecial?_slot (name := Str.ofString "__next__") hT F.slot_enumerate_next
    (wpAny_call_entry F.slot_enumerate_next hT F.entry_enumerate_next ?_ (F.args_enumerate_next_1 _))))
  show wpAny _ _ (field (.ref e) 2 >>= _) _ _ _
  refine wpAny_bind (wpAny_field he rfl (x := .ref it) rfl ?_)
  refine wpAny_bind (wpAny_nextOf_tuple_end hh hit ht hx fun h' x he' hx' => ?_)
  obtain ⟨o, ho, hc⟩ := hx'
  refine wpAny_bind (wpAny_isInstance (T := "StopIteration") (b := true) ⟨o, ho, hc⟩ isSubtype_stop ?_)
  exact wpAny_pure (hQ _ he')
theorem meets_enumerate_newB1 {v : Value} {o : Obj} {H : Heap → Prop} (B : Begins v o H) :
    Meets (Builtin.«enumerate.__new__» ⟨[.type "enumerate", v], []⟩) (fun _ R s => H s.heap ∧
      R (.ok (.ret (.ref (s.heap.push o).objs.size))) { s with heap := (s.heap.push o).push { cls := .type "enumerate", data := .fields #[.none, .bool false, .ref s.heap.objs.size, rawInt 0, .none, .none] } }) :=
  .of_wp fun prog w A R s h => by
    obtain ⟨hp, g, d, tk, os⟩ := s; obtain ⟨h1, h⟩ := h
    have hsub := sub_enumerate
    have q1 : ∀ {A' : Around} {E : Value → Shared → Prop} {Q : Value → Shared → Prop}, Q (.ref hp.objs.size) ⟨hp.push o, g, d, tk, os⟩ → wpAny (model prog w) A' (pyIter v) Q E ⟨hp, g, d, tk, os⟩ :=
      fun q => B.iter prog w _ _ ⟨hp, g, d, tk, os⟩ _ h1 q
    wp_walk using q1
    refine wpAny_stack_any fun st => wpAny_pure ?_
    split
    · rename_i c _ _ _ _ _
      cases (c == Value.type "enumerate")
      · wp_walk using q1
        exact ⟨_, rfl, h⟩
      · wp_walk using q1
        exact ⟨_, rfl, h⟩
    · wp_walk using q1
      exact ⟨_, rfl, h⟩
theorem call_enumT {prog : Program} {w : World} {A : Around} {E : Value → Shared → Prop} {s : Shared} {v : Value} {o : Obj} {H : Heap → Prop} {Q : Value → Shared → Prop} (B : Begins v o H) (h1 : H s.heap)
    (h : ∀ h', IsEnum h' (s.heap.objs.size + 1) s.heap.objs.size 0 .none → h'.get? s.heap.objs.size = some o → h'.objs.size = s.heap.objs.size + 2 →
      (∀ b o, s.heap.get? b = some o → h'.get? b = some o) → Q (.ref (s.heap.objs.size + 1)) { s with heap := h' }) :
    wpAny (model prog w) A (call (.type "enumerate") [v]) Q E s := by
  refine callType_new F.called_enumerate (by decide) (F.typeCall_enumerate_1 _) (F.newCall_enumerate_1 _) (fun obj => F.args_object_init_2 obj _) F.entry_enumerate_new
    (meets_enumerate_newB1 B) ⟨h1, ?_⟩
  have hz : (s.heap.push o).objs.size = s.heap.objs.size + 1 := Heap.size_push ..
  show _ ∧ _
  rw [hz]
  have he : IsEnum ((s.heap.push o).push { cls := .type "enumerate", data := .fields #[.none, .bool false, .ref s.heap.objs.size, rawInt 0, .none, .none] }) (s.heap.objs.size + 1) s.heap.objs.size 0 .none := by
    have := Heap.get?_push_size (s.heap.push o) (o := { cls := .type "enumerate", data := .fields #[.none, .bool false, .ref s.heap.objs.size, rawInt 0, .none, .none] }) rfl
    rw [hz] at this; exact this
  refine ⟨⟨_, he, rfl⟩, h _ he (Heap.get?_push_of_some _ (Heap.get?_push_size _ B.free)) (by rw [Heap.size_push, hz]) fun b o x => Heap.get?_push_of_some _ (Heap.get?_push_of_some _ x)⟩
theorem turn_enumT {P : Program} {w : World} {K : PySem.W.Frag} {elts : List Expr} {kk : Nat} {tpos : Pos} (a e it : Addr) :
    Turn P w K (.Tuple elts kk tpos) (IteT K a) [e, it] e (fun i h => (∃ old, IsEnum h e it ((i : Nat) : Int) old) ∧ h.IsTupleIter it a i ∧ e ≠ it) where
  mem := by simp
  obj := fun i h st b hb => by
    obtain ⟨⟨old, he⟩, ⟨o, ho, hc, hd⟩, _⟩ := st
    have e' : b = e ∨ b = it := by simpa using hb
    rcases e' with z | z
    · rw [z]; exact ⟨_, he, fun v q => nomatch q⟩
    · rw [z]; exact ⟨o, ho, fun v q => by rw [hd] at q; cases q⟩
  keep := fun i h h' st k => let ⟨⟨old, he⟩, hi, hne⟩ := st; ⟨⟨old, k e (by simp) _ he⟩, hi.at fun o q => k it (by simp) o q, hne⟩
  item := by
    intro X hP hw hK hc i pins s σ H E I hf st hg
    subst hP hw hK
    obtain ⟨⟨old, he⟩, hit, hne⟩ := st
    obtain ⟨xs, x, hq, hx⟩ := hg
    obtain ⟨its, rv, p, hz⟩ := I.tuple hq
    obtain ⟨u, hu, ru⟩ := rv.get hx
    have hel : e < s.heap.objs.size := Heap.lt_size he
    have hil : it < s.heap.objs.size := by obtain ⟨_, q, _⟩ := hit; exact Heap.lt_size q
    have het : e ≠ a := fun z => by
      obtain ⟨o, ho, _, n, hd⟩ := p
      rw [← z] at ho
      have he' : s.heap.get? e = _ := he
      rw [he'] at ho
      cases ho
      cases hd
    have hti : a ≠ it := fun z => by
      obtain ⟨o, ho, _, n, hd⟩ := p
      obtain ⟨o2, ho2, _, hd2⟩ := hit
      rw [z, ho2] at ho
      cases ho
      rw [hd2] at hd
      cases hd
    refine enumT_item (I.ok.hd hc) he hit (show s.heap.IsTuple a its.toArray from p) (x := u) (by simpa using hu) hne het hti fun h' tk ho hit' hT hsz hk => ?_
    refine ⟨_, rfl, wpAny_letOwnedTupleGo_enum (s := { s with heap := h', toks := tk + 1 }) ho fun h'' he' sb => ?_⟩
    have hT2 : h''.get? s.heap.objs.size = some { cls := .type "tuple", data := .seq #[.int i tk, u] } := (sb.2 _ (Nat.ne_of_gt hel)).trans hT
    have new : ObjOk X.prog X.w (upd H s.heap.objs.size (.tup [.int (i : Nat), x])) h'' s.heap.objs.size (.tup [.int (i : Nat), x]) :=
      ⟨by show 2 ≤ sizeLine; decide, [.int i tk, u], .cons ⟨_, rfl⟩ (.cons ru .nil), ⟨_, hT2, rfl, _, rfl⟩⟩
    have I1 : L2.Inv X pins σ (upd H s.heap.objs.size (.tup [.int (i : Nat), x])) { s with heap := h'', toks := tk + 1 } :=
      I.turnedNew (ch := [e, it]) (fun b ob hb q => (sb.2 b (fun z => hb (by simp [z]))).trans (hk b ob (fun z => hb (by simp [z])) (fun z => hb (by simp [z])) q)) hf (Nat.le_refl _) new
    refine ⟨.ref s.heap.objs.size, _, I1, rfl, ⟨_, x, rfl, I.hok.fresh (Nat.le_refl _), rfl, fun ys hy => by rw [I.tuple_inj hy hq]; exact hx⟩, ⟨⟨u, ?_⟩, hit'.at fun o q => (sb.2 it (Ne.symm hne)).trans q, hne⟩, fun b hb => ?_⟩
    · have e1 : ((i + 1 : Nat) : Int) = (i : Int) + 1 := by omega
      rw [e1]; exact he'
    · have hb' : b < s.heap.objs.size := by
        have e' : b = e ∨ b = it := by simpa using hb
        rcases e' with z | z
        · rw [z]; exact hel
        · rw [z]; exact hil
      rw [upd_ne (Nat.ne_of_lt hb')]
      exact (hf b hb).1
  done := by
    intro X hP hw hK hc i pins s σ H E I hf st hg
    subst hP hw hK
    obtain ⟨⟨old, he⟩, hit, hne⟩ := st
    obtain ⟨xs, hq, hx⟩ := hg
    obtain ⟨its, rv, p, hz⟩ := I.tuple hq
    obtain ⟨f0, f1, f2, f3, f4, f5⟩ := hf it (by simp)
    have hl := rv.length
    exact enumT_end (I.ok.hd hc) he hit (show s.heap.IsTuple a its.toArray from p) (by simp; omega) fun h' eb => ⟨rfl, I.turned (t' := s.toks) (fun b o hb q => eb b o hb q) f0 f1 f3 f4 f5⟩
  self := fun A i s Q E st h => let ⟨⟨_, he⟩, _⟩ := st; wpAny_pyIter_enum he h
/-- enumerate of a list or a tuple -/
def iEnumA (K : PySem.W.Frag) (ta : TA) : TI := fun σ H R => ta σ H fun vs H1 => ∃ a xs, vs = [.ref a] ∧ ((SqL K H1 a xs ∧ R (Ite K a) H1) ∨ (SqT K H1 a xs ∧ R (IteT K a) H1))
theorem pi_enumA {X : Cx} {e : Expr} {ta : TA} {p pos tpos : Pos} {elts : List Expr} {kk : Nat} (hg : Gl X "enumerate") (hm : X.mg "enumerate" = none) (ha : PA X [e] ta) (hs : starEach [e] X.env = [(false, eval e X.env)] := by rfl) :
    PI X (.Tuple elts kk tpos) (.Call (.Name "enumerate" p) [e] [] pos) (iEnumA X.K ta) := by
  refine ⟨fun pins s σ H R I h => ?_⟩
  refine Call_ (ld_blt I hg hm boot_enumerate (PyProof.Rows.callWith_type1 (thn (ha.run pos pins s σ H _ I h) fun us s1 ⟨vs, H1, I1, r1, q1⟩ => ?_) hs rfl))
  obtain ⟨a, xs, ex, q1⟩ := q1
  subst ex
  cases r1 with
  | cons r rr =>
    cases rr
    cases r
    have fresh2 : ∀ b, b ∈ [s1.heap.objs.size + 1, s1.heap.objs.size] → FpOk X pins H1 b := fun b hb => by
      have e' : b = s1.heap.objs.size + 1 ∨ b = s1.heap.objs.size := by simpa using hb
      have hle : s1.heap.objs.size ≤ b := by
        rcases e' with z | z
        · rw [z]; exact Nat.le_add_right _ _
        · rw [z]; exact Nat.le_refl _
      exact I1.fpOk hle (I1.hok.fresh hle)
    rcases q1 with ⟨hq, q⟩ | ⟨hq, q⟩
    · obtain ⟨its, rv, p', hz⟩ := I1.list hq
      refine call_enumerate_list p'.isList fun h' he hit hsz hk => wpAny_pyIter_enum he ?_
      have I2 : L2.Inv X pins σ H1 { s1 with heap := h' } := I1.kept (t' := s1.toks) hk
      exact ⟨s1.heap.objs.size + 1, [s1.heap.objs.size + 1, s1.heap.objs.size], _, _, H1, rfl, I2, turn_enum a (s1.heap.objs.size + 1) s1.heap.objs.size, ⟨⟨.none, he⟩, hit, Nat.succ_ne_self _⟩, fresh2, q⟩
    · obtain ⟨its, rv, p', hz⟩ := I1.tuple hq
      refine call_enumT (begins_tuple a its.toArray) (show s1.heap.IsTuple a its.toArray from p') fun h' he hit hsz hk => wpAny_pyIter_enum he ?_
      have I2 : L2.Inv X pins σ H1 { s1 with heap := h' } := I1.kept (t' := s1.toks) hk
      exact ⟨s1.heap.objs.size + 1, [s1.heap.objs.size + 1, s1.heap.objs.size], _, _, H1, rfl, I2, turn_enumT a (s1.heap.objs.size + 1) s1.heap.objs.size, ⟨⟨.none, he⟩, ⟨_, hit, rfl, rfl⟩, Nat.succ_ne_self _⟩, fresh2, q⟩
theorem walk_enumT {K : PySem.W.Frag} {a : Addr} {xs : List V} : Walk (IteT K a) xs.length (fun H => SqT K H a xs) (YPair (fun i => some (.int (i : Nat))) (fun i => xs[i]?)) := by
  refine ⟨fun i _ hi q => ⟨xs, xs[i], q, by simp [hi]⟩, fun _ q => ⟨xs, q, Nat.le_refl _⟩, fun i H v H' _ q y => ?_⟩
  obtain ⟨T, x, g1, g2, g3, g4⟩ := y
  exact ⟨T, _, x, g1, g2, g3, rfl, g4 xs q⟩
end GF
namespace GF
open PySem L2 PySem.Spec PyProof.Rows

/-! ## what is walked -/
def isT : Tg → Bool
  | .t _ => true
  | .n _ => false
section
variable (K : PySem.W.Frag) (cl : Cl)
/-- an item: it stands, or it is a new pair -/
def ItemOk (p : Bool) (G : Hp) (d : D) (H : Hp) (x : V) (H' : Hp) : Prop :=
  (H' = H ∧ RepF K cl G d x) ∨ (p = true ∧ ∃ T a b y z, x = .ref T ∧ H T = none ∧ H' = upd H T (.tup [y, z]) ∧ d = .tup [a, b] ∧ RepF K cl G a y ∧ RepF K cl G b z)
abbrev WD (p : Bool) (J : It) (G : Hp) (ds : List D) : Prop := Walk J ds.length (fun H => Same G H) fun i H x H' => ∃ d, ds[i]? = some d ∧ ItemOk K cl p G d H x H'
variable (xa : Nat → Value) (W : WX)
abbrev QI := List D → Rho → It → Hp → Hp → List Addr → Prop
def PostI (p : Bool) (s : L2.St) (G H : Hp) (f t : List Addr) (Q : QI) : RL → Prop
  | .ok ds r => ∀ J G' H' f', Ok K cl G' H' r s f' t → Ext f G H f' G' H' → WD K cl p J G' ds → Q ds r J G' H' f'
  | .err k r => ∀ G' H' f', Ok K cl G' H' r s f' t → Ext f G H f' G' H' → W (xa k) none s H'
  | .stuck => False
def tI (p : Bool) (ev : Rho → RL) : TI := fun s H R => ∃ G r f t, Ok K cl G H r s f t ∧ PostI K cl xa W p s G H f t (fun _ _ J _ H' _ => R J H') (ev r)
end
section
variable {K : PySem.W.Frag} {cl : Cl} {G : Hp} {p : Bool}
theorem RepFs.nth {ds : List D} {vs : List V} (h : RepFs K cl G ds vs) {i : Nat} {x : V} (e : vs[i]? = some x) : ∃ d, ds[i]? = some d ∧ RepF K cl G d x := by
  have hl := h.len
  have hi : i < ds.length := by
    rw [hl]
    exact (List.getElem?_eq_some_iff.mp e).1
  obtain ⟨v, h1, h2⟩ := h.get (List.getElem?_eq_getElem hi)
  rw [e] at h1; cases h1
  exact ⟨_, List.getElem?_eq_getElem hi, h2⟩
theorem wd_at {J : It} {ds : List D} {vs : List V} {P : Hp → Prop} (w : Walk J vs.length P (YAt vs)) (h : RepFs K cl G ds vs) (hp : ∀ H, Same G H → P H) : WD K cl p J G ds := by
  unfold WD
  rw [h.len]
  refine w.mono hp fun i H x H' hi hs y => ?_
  obtain ⟨d, h1, h2⟩ := h.nth y.2
  exact ⟨d, h1, .inl ⟨y.1, h2⟩⟩
theorem wd_list {a : Addr} {ds : List D} {vs : List V} (h1 : SqL K G a vs) (h : RepFs K cl G ds vs) : WD K cl p (Itl K a) G ds := wd_at walk_list h fun H s => s.seq h1
theorem wd_tup {a : Addr} {ds : List D} {vs : List V} (h1 : SqT K G a vs) (h : RepFs K cl G ds vs) : WD K cl p (Itt K a) G ds := wd_at walk_tup h fun H s => sqT_mono s h1
theorem wd_str {z : Str} : WD K cl p (Its z) G (z.cps.toList.map fun c => .str ⟨#[c]⟩) := by
  unfold WD
  rw [List.length_map, Array.length_toList]
  refine walk_str.mono (fun _ _ => trivial) fun i H x H' hi hs y => ?_
  obtain ⟨e, c, h1, rfl⟩ := y
  exact ⟨.str ⟨#[c]⟩, by simp [h1], .inl ⟨e, by unfold RepF; rfl⟩⟩
theorem wd_range {lo : Int} {n : Nat} : WD K cl p (Itr lo n) G ((List.range n).map fun k => .int (lo + (k : Nat))) := by
  unfold WD
  rw [List.length_map, List.length_range]
  refine walk_range.mono (fun _ _ => trivial) fun i H x H' hi hs y => ?_
  exact ⟨.int (lo + (i : Nat)), by simp [hi], .inl ⟨y.1, by unfold RepF; exact y.2⟩⟩
theorem enumD_len : ∀ {ds : List D} {k : Nat}, (enumD ds k).length = ds.length
  | [], _ => rfl
  | d :: ds, k => by simp [enumD, enumD_len]
theorem enumD_at : ∀ {ds : List D} {k i : Nat}, (enumD ds k)[i]? = ds[i]?.map fun d => .tup [.int ((k + i : Nat)), d]
  | [], _, _ => by simp [enumD]
  | d :: ds, k, 0 => by simp [enumD]
  | d :: ds, k, i + 1 => by
    simp only [enumD, List.getElem?_cons_succ, enumD_at]
    rw [show k + 1 + i = k + (i + 1) by omega]
theorem zipD_len : ∀ {ds es : List D}, (zipD ds es).length = min ds.length es.length
  | [], _ => by simp [zipD]
  | d :: ds, [] => by simp [zipD]
  | d :: ds, e :: es => by simp [zipD, zipD_len]
theorem zipD_at : ∀ {ds es : List D} {i : Nat} {d e : D}, ds[i]? = some d → es[i]? = some e → (zipD ds es)[i]? = some (.tup [d, e])
  | [], _, _, _, _, h, _ => by simp at h
  | d :: ds, [], _, _, _, _, h => by simp at h
  | d :: ds, e :: es, 0, _, _, h, h2 => by simp at h h2; subst h; subst h2; simp [zipD]
  | d :: ds, e :: es, i + 1, _, _, h, h2 => by simp [zipD]; exact zipD_at (by simpa using h) (by simpa using h2)
theorem wd_pair {J : It} {n : Nat} {l : List D} {xs ys : Nat → Option V} {P : Hp → Prop} (w : Walk J n P (YPair xs ys)) (hn : n = l.length) (hp : ∀ H, Same G H → P H)
    (hl : ∀ i y z, i < n → xs i = some y → ys i = some z → ∃ a b, l[i]? = some (.tup [a, b]) ∧ RepF K cl G a y ∧ RepF K cl G b z) : WD K cl true J G l := by
  unfold WD
  rw [← hn]
  refine w.mono hp fun i H x H' hi hs y => ?_
  obtain ⟨T, u, z, h1, h2, h3, h4, h5⟩ := y
  obtain ⟨a, b, e1, e2, e3⟩ := hl i u z hi h4 h5
  exact ⟨_, e1, .inr ⟨rfl, T, a, b, u, z, h1, h2, h3, rfl, e2, e3⟩⟩
theorem wd_enum {a : Addr} {ds : List D} {vs : List V} (h1 : SqL K G a vs) (h : RepFs K cl G ds vs) : WD K cl true (Ite K a) G (enumD ds 0) := by
  refine wd_pair (walk_enum (xs := vs)) (by rw [enumD_len, h.len]) (fun H s => s.seq h1) fun i y z hi e1 e2 => ?_
  obtain ⟨d, h3, h4⟩ := h.nth e2
  cases e1
  exact ⟨.int (i : Nat), d, by rw [enumD_at, h3]; simp, by unfold RepF; rfl, h4⟩
theorem wd_enumT {a : Addr} {ds : List D} {vs : List V} (h1 : SqT K G a vs) (h : RepFs K cl G ds vs) : WD K cl true (IteT K a) G (enumD ds 0) := by
  refine wd_pair (walk_enumT (xs := vs)) (by rw [enumD_len, h.len]) (fun H s => sqT_mono s h1) fun i y z hi e1 e2 => ?_
  obtain ⟨d, h3, h4⟩ := h.nth e2
  cases e1
  exact ⟨.int (i : Nat), d, by rw [enumD_at, h3]; simp, by unfold RepF; rfl, h4⟩
theorem wd_keys {a : Addr} {ob : Obj} {ks : List D} {kvs : List (Key × V)} (h1 : G a = some (.frz ob (.dK kvs))) (h : keysD ks = some (kvs.map (·.1))) : WD K cl p (Itk a ob kvs) G ks := by
  have k4 : RepFs K cl G ks ((kvs.map (·.1)).map kV) := keysD_V h
  unfold WD
  have hl : ks.length = kvs.length := by rw [k4.len]; simp
  rw [hl]
  refine walk_keys.mono (fun H s => s a _ h1) fun i H x H' hi hs y => ?_
  obtain ⟨e, k, v, e1, rfl⟩ := y
  obtain ⟨d, h2, h3⟩ := k4.nth (i := i) (x := kV k) (by simp [e1])
  exact ⟨d, h2, .inl ⟨e, h3⟩⟩
theorem wd_zip {a b : Addr} {ds es : List D} {vs us : List V} (h1 : SqL K G a vs) (h2 : SqL K G b us) (h : RepFs K cl G ds vs) (h' : RepFs K cl G es us) : WD K cl true (Itz K a b) G (zipD ds es) := by
  refine wd_pair (walk_zip (xs := vs) (ys := us) rfl) (by rw [zipD_len, h.len, h'.len]) (fun H s => ⟨s.seq h1, s.seq h2⟩) fun i y z hi e1 e2 => ?_
  obtain ⟨d, h3, h4⟩ := h.nth e1
  obtain ⟨e, h5, h6⟩ := h'.nth e2
  exact ⟨d, e, zipD_at h3 h5, h4, h6⟩
theorem walk_zipT {a b : Addr} {xs ys : List V} : Walk (RZ.ItzT K a b) (min xs.length ys.length) (fun H => SqT K H a xs ∧ SqT K H b ys) (YPair (fun i => xs[i]?) (fun i => ys[i]?)) := by
  refine ⟨fun i _ hi q => ?_, fun _ q => ⟨xs, ys, q.1, q.2, by omega⟩, fun i H v H' _ q y => ?_⟩
  · have g1 : i < xs.length := by omega
    have g2 : i < ys.length := by omega
    exact ⟨xs, ys, xs[i], ys[i], q.1, q.2, by simp [g1], by simp [g2]⟩
  · obtain ⟨T, x, z, g1, g2, g3, g4, g5⟩ := y
    exact ⟨T, x, z, g1, g2, g3, g4 xs q.1, g5 ys q.2⟩
theorem wd_zipT {a b : Addr} {ds es : List D} {vs us : List V} (h1 : SqT K G a vs) (h2 : SqT K G b us) (h : RepFs K cl G ds vs) (h' : RepFs K cl G es us) : WD K cl true (RZ.ItzT K a b) G (zipD ds es) := by
  refine wd_pair (walk_zipT (xs := vs) (ys := us)) (by rw [zipD_len, h.len, h'.len]) (fun H s => ⟨sqT_mono s h1, sqT_mono s h2⟩) fun i y z hi e1 e2 => ?_
  obtain ⟨d, h3, h4⟩ := h.nth e1
  obtain ⟨e, h5, h6⟩ := h'.nth e2
  exact ⟨d, e, zipD_at h3 h5, h4, h6⟩
end

section
variable {X : Cx} {cl : Cl} {xa : Nat → Value} {W : WX} {P : Phi} {C : CC} {n : Nat} {tg : Expr} {p : Bool}
/-- a list, a tuple or a text, whatever came -/
theorem pi_any {l : Expr} {tl : TE} (hl : PE X l tl) : PI X tg l (fun σ H R => tl σ H fun x H1 => ∃ J, R J H1 ∧
    ((∃ a xs, x = .ref a ∧ SqL X.K H1 a xs ∧ J = Itl X.K a) ∨ (∃ a xs, x = .ref a ∧ SqT X.K H1 a xs ∧ J = Itt X.K a) ∨ (∃ z, x = .str z ∧ J = Its z) ∨ ∃ a ob kvs, x = .ref a ∧ H1 a = some (.frz ob (.dK kvs)) ∧ J = Itk a ob kvs)) := by
  refine ⟨fun pins s σ H R I h => thn (hl.run pins s σ H _ I h) fun v s1 ⟨x, H1, I1, r1, J, q, k⟩ => ?_⟩
  rcases k with ⟨a, xs, rfl, hs, rfl⟩ | ⟨a, xs, rfl, hs, rfl⟩ | ⟨z, rfl, rfl⟩ | ⟨a, ob, kvs, rfl, hd, rfl⟩
  · cases r1
    obtain ⟨_, _, ls, _⟩ := I1.list hs
    exact wpAny_pyIter_list ls.isList (pi_one (tk := s1.toks) I1 _ (turn_list a _) ⟨_, Heap.get?_push_size _ rfl, rfl, rfl⟩ q)
  · cases r1
    obtain ⟨its, _, ts, _⟩ := I1.tuple hs
    have ts : s1.heap.IsTuple a its.toArray := ts
    exact wpAny_pyIter_tuple ts (pi_one (tk := s1.toks) I1 _ (turn_tuple a _) ⟨_, Heap.get?_push_size _ rfl, rfl, rfl⟩ q)
  · obtain ⟨tk, rfl⟩ := r1
    by_cases hz : z.cps.all (· < 128) = true
    · exact wpAny_pyIter_ascii hz (pi_one (tk := s1.toks) I1 _ (turn_str _ z tk _ (.inl rfl)) ⟨_, Heap.get?_push_size _ rfl, rfl, rfl⟩ q)
    · have hz : z.cps.all (· < 128) = false := by simpa using hz
      exact wpAny_pyIter_wide hz (pi_one (tk := s1.toks) I1 _ (turn_str _ z tk _ (.inr rfl)) ⟨_, Heap.get?_push_size _ rfl, rfl, rfl⟩ q)
  · cases r1
    obtain ⟨hs, hgd, hx, es, ep, vs, hdt, hsz, kv, hm⟩ := I1.frzK hd
    refine iter_keys hs hgd hx hdt (pi_one (tk := s1.toks) I1 _ (turn_keys _ hdt) ⟨_, Heap.get?_push_size _ rfl, rfl, ?_⟩ q)
    rw [hsz] <;> rfl
theorem si_seq {e : Expr} {x : IE} (he : SE cl xa W P X e x) : PI X tg e (tI X.K cl xa W p (evalI P (.seq x))) := by
  refine ⟨fun pins s σ H R I h => (pi_any he.pe).run pins s σ H R I ?_⟩
  obtain ⟨G, r, f, t, o, h⟩ := h
  refine ⟨G, r, f, t, o, ?_⟩
  unfold evalI at h
  cases hx : evalE P x r with
  | stuck => simp only [hx] at h; exact h
  | err k r1 => simp only [hx] at h; exact h
  | ok od r1 =>
    cases od with
    | slot i => simp only [hx] at h; exact h.elim
    | val d =>
      simp only [hx] at h
      intro v fv G1 H1 f1 o1 e1 i1
      cases hi : itemsD d with
      | none => simp only [hi] at h; exact h.elim
      | some ds =>
        simp only [hi] at h
        have hod : odD d = false := by
          cases d with
          | dct b ks vs =>
            cases b with
            | false => rfl
            | true => cases hi
          | _ => rfl
        obtain ⟨o2, e2, rf⟩ := o1.frz hod i1
        have e3 := e1.trans e2 fun _ z => z
        cases d with
        | tup es =>
          cases hi
          change RepF X.K cl _ (.tup ds) v at rf
          unfold RepF at rf
          obtain ⟨a, vs, rfl, h1, h2⟩ := rf
          exact ⟨_, h (Itt X.K a) _ H1 f1 o2 e3 (wd_tup h1.t h2), .inr (.inl ⟨a, vs, rfl, (h1.mono o2.gh).t, rfl⟩)⟩
        | lst b es =>
          cases hi
          change RepF X.K cl _ (.lst false ds) v at rf
          unfold RepF at rf
          obtain ⟨_, a, vs, rfl, h1, h2⟩ := rf
          exact ⟨_, h (Itl X.K a) _ H1 f1 o2 e3 (wd_list h1 h2), .inl ⟨a, vs, rfl, sqL_mono o2.gh h1, rfl⟩⟩
        | str z =>
          cases hi
          change RepF X.K cl _ (.str z) v at rf
          unfold RepF at rf
          subst rf
          exact ⟨_, h (Its z) _ H1 f1 o2 e3 wd_str, .inr (.inr (.inl ⟨z, rfl, rfl⟩))⟩
        | dct b ks vs =>
          cases b with
          | true => cases hi
          | false =>
            cases hi
            change RepF X.K cl _ (.dct false ds vs) v at rf
            unfold RepF at rf
            obtain ⟨_, a, ob, kvs, us, rfl, h1, h2, rfl, h3⟩ := rf
            exact ⟨_, h (Itk a ob kvs) _ H1 f1 o2 e3 (wd_keys h1 h2), .inr (.inr (.inr ⟨a, ob, kvs, rfl, o2.gh _ _ h1, rfl⟩))⟩
        | _ => cases hi
theorem small_of {i : Int} (h : small62 i = true) : -(2 ^ 62) ≤ i ∧ i < 2 ^ 62 := by
  unfold small62 at h
  simpa using h
theorem star1 {e : Expr} {env : Env} (h : NoStar e) : starEach [e] env = [(false, eval e env)] := star_cons h
def lenI : IEs → Nat
  | .nil => 0
  | .cons _ r => lenI r + 1
theorem evalO_len : ∀ {es : IEs} {r r1 : Rho} {os : List Od}, evalO P es r = .ok os r1 → os.length = lenI es
  | .nil, r, r1, os, h => by unfold evalO at h; cases h; rfl
  | .cons x es, r, r1, os, h => by
    unfold evalO at h
    split at h
    · split at h
      · rename_i e; cases h; simp [lenI, evalO_len e]
      · cases h
      · cases h
    · cases h
    · cases h
theorem evalL_len : ∀ {es : IEs} {r r1 : Rho} {os : List D}, evalL P es r = .ok os r1 → os.length = lenI es
  | .nil, r, r1, os, h => by unfold evalL at h; cases h; rfl
  | .cons x es, r, r1, os, h => by
    unfold evalL at h
    split at h
    · split at h
      · rename_i e; cases h; simp [lenI, evalL_len e]
      · cases h
      · cases h
    · cases h
    · cases h
    · cases h
theorem getAll_len : ∀ {os : List Od} {r : Rho} {ds : List D}, getAll r os = some ds → ds.length = os.length
  | [], r, ds, h => by unfold getAll at h; cases h; rfl
  | o :: os, r, ds, h => by
    unfold getAll at h
    split at h
    · rename_i e; cases h; simp [getAll_len e]
    · cases h
theorem cL_len {f : Expr → Option IE} : ∀ {es : List Expr} {irs : IEs}, cL f es = some irs → lenI irs = es.length
  | [], irs, h => by unfold cL at h; cases h; rfl
  | e :: es, irs, h => by
    unfold cL at h
    split at h
    · rename_i e; cases h; simp [lenI, cL_len e]
    · cases h
theorem PostL.mono {s : L2.St} {G H : Hp} {f t : List Addr} {Q Q' : QL} {x : RL} (h : PostL X.K cl xa W s G H f t Q x) (k : ∀ o r v G' H' f', Q o r v G' H' f' → Q' o r v G' H' f') : PostL X.K cl xa W s G H f t Q' x := by
  cases x with
  | ok o r => exact fun v G' H' f' a b c => k _ _ _ _ _ _ (h v G' H' f' a b c)
  | err k r => exact h
  | stuck => exact h
theorem PostO.mono {s : L2.St} {G H : Hp} {f t : List Addr} {Q Q' : QO} {x : RO} (h : PostO X.K cl xa W s G H f t Q x) (k : ∀ o r v fv G' H' f', Q o r v fv G' H' f' → Q' o r v fv G' H' f') : PostO X.K cl xa W s G H f t Q' x := by
  cases x with
  | ok o r => exact fun v fv G' H' f' a b c => k _ _ _ _ _ _ _ (h v fv G' H' f' a b c)
  | err k r => exact h
  | stuck => exact h
theorem tO_mono {ev : Rho → RO} {s : L2.St} {H : Hp} {Q Q' : List V → Hp → Prop} (h : tO X.K cl xa W ev s H Q) (k : ∀ vs H1, Q vs H1 → Q' vs H1) : tO X.K cl xa W ev s H Q' := by
  obtain ⟨G, r, f, t, o, h⟩ := h
  exact ⟨G, r, f, t, o, PostO.mono h fun _ _ v _ _ H' _ q => k v H' q⟩
theorem tL_mono {ev : Rho → RL} {s : L2.St} {H : Hp} {Q Q' : List V → Hp → Prop} (h : tL X.K cl xa W ev s H Q) (k : ∀ vs H1, Q vs H1 → Q' vs H1) : tL X.K cl xa W ev s H Q' := by
  obtain ⟨G, r, f, t, o, h⟩ := h
  exact ⟨G, r, f, t, o, PostL.mono h fun _ _ v _ H' _ q => k v H' q⟩
theorem rng_key {irs : IEs} {s : L2.St} {H : Hp} {R : It → Hp → Prop} (h : tI X.K cl xa W p (evalI P (.rng irs)) s H R) : tO X.K cl xa W (evalO P irs) s H fun vs H1 => ∃ ds l G, ds.length = lenI irs ∧ rangeD ds = some l ∧ Same G H1 ∧ Reps X.K cl G H1 ds vs ∧ ∀ J, WD X.K cl p J G l → R J H1 := by
  obtain ⟨G, r, f, t, o, h⟩ := h
  refine ⟨G, r, f, t, o, ?_⟩
  unfold evalI at h
  cases hx : evalO P irs r with
  | stuck => simp only [hx] at h; exact h
  | err k r1 => simp only [hx] at h; exact h
  | ok os r1 =>
    simp only [hx] at h
    intro vs fv G1 H1 f1 o1 e1 i1
    cases eg : getAll r1 os with
    | none => simp only [eg] at h; exact h.elim
    | some ds =>
      simp only [eg] at h
      cases el : rangeD ds with
      | none => simp only [el] at h; exact h.elim
      | some l =>
        simp only [el] at h
        have e2 := e1.sub (f2 := f1) fun a ha => List.mem_append_left _ ha
        exact ⟨ds, l, G1, by rw [getAll_len eg, evalO_len hx], el, o1.gh, i1.reps o1 eg, fun J w => h J G1 H1 f1 o1.tail e2 w⟩
theorem si_rng1 {a : Expr} {q pos : Pos} {irs : IEs} (g : Good C cl xa P n X) (hg : Gl X "range") (hT : C.B.contains ("range" : Str) = true) (ha : PA X [a] (tO X.K cl xa W (evalO P irs))) (hn : ∀ z ∈ [a], NoStar z) (hl : lenI irs = 1) :
    PI X tg (.Call (.Name "range" q) [a] [] pos) (tI X.K cl xa W p (evalI P (.rng irs))) := by
  refine ⟨fun pins s σ H R I h => (pi_range1 hg (g.blt _ hT) (ha.weak fun s H Q h => h) (star1 (hn a (by simp)))).run pins s σ H R I ?_⟩
  refine tO_mono (rng_key h) fun vs H1 ⟨ds, l, G, k, e, gh, rs, w⟩ => ?_
  rw [hl] at k
  match ds, k with
  | [d], _ =>
    unfold rangeD at e
    split at e
    · rename_i j ed
      cases ed
      split at e
      · rename_i hs
        cases e
        obtain ⟨v, f, rfl, h1⟩ := rs.one
        exact ⟨j, by rw [h1.int], (small_of hs).1, (small_of hs).2, w _ wd_range⟩
      · cases e
    · rename_i ed; cases ed
    · rename_i ed; cases ed
    · cases e
theorem si_rng2 {a b : Expr} {q pos : Pos} {irs : IEs} (g : Good C cl xa P n X) (hg : Gl X "range") (hT : C.B.contains ("range" : Str) = true) (ha : PA X [a, b] (tO X.K cl xa W (evalO P irs))) (hn : ∀ z ∈ [a, b], NoStar z) (hl : lenI irs = 2) :
    PI X tg (.Call (.Name "range" q) [a, b] [] pos) (tI X.K cl xa W p (evalI P (.rng irs))) := by
  refine ⟨fun pins s σ H R I h => (pi_range2 hg (g.blt _ hT) (ha.weak fun s H Q h => h) (by rw [star_cons (hn a (by simp)), star1 (hn b (by simp))]) (star1 (hn b (by simp)))).run pins s σ H R I ?_⟩
  refine tO_mono (rng_key h) fun vs H1 ⟨ds, l, G, k, e, gh, rs, w⟩ => ?_
  rw [hl] at k
  match ds, k with
  | [d, d'], _ =>
    unfold rangeD at e
    split at e
    · rename_i ed; cases ed
    · rename_i i j ed
      cases ed
      split at e
      · rename_i hs
        cases e
        simp only [Bool.and_eq_true] at hs
        unfold Reps at rs
        obtain ⟨v, r', f, rfl, h1, rs⟩ := rs
        obtain ⟨v2, f2, rfl, h2⟩ := rs.one
        exact ⟨i, j, by rw [h1.int, h2.int], ⟨(small_of hs.1).1, (small_of hs.1).2, (small_of hs.2).1, (small_of hs.2).2⟩, w _ wd_range⟩
      · cases e
    · rename_i ed; cases ed
    · cases e
theorem wd_rangeC {K : PySem.W.Frag} {lo c : Int} {n : Nat} : WD K cl p (Itc lo c n) G ((List.range n).map fun k => .int (lo + (k : Nat) * c)) := by
  unfold WD
  rw [List.length_map, List.length_range]
  refine walk_rangeC.mono (fun _ _ => trivial) fun i H x H' hi hs y => ?_
  exact ⟨.int (lo + (i : Nat) * c), by simp [hi], .inl ⟨y.1, by unfold RepF; exact y.2⟩⟩
theorem size_down (i j : Int) : Builtin.Range.rangeSize i j (-1) = ((i - j).toNat : Nat) := by
  unfold Builtin.Range.rangeSize
  have h1 : ¬ (-1 : Int) > 0 := by decide
  simp only [h1, if_false, show (- -1 : Int) = 1 from by decide, Int.ediv_one]
  split <;> omega
theorem rgC_down {i j : Int} (h1 : small62 i = true) (h2 : small62 j = true) : RgC i j (-1) (i - j).toNat := by
  have a := small_of h1
  have b := small_of h2
  exact ⟨by decide, by decide, PySem.W.small_down a.1 a.2 b.1 b.2, size_down i j⟩
theorem si_rng3 {a b c : Expr} {q pos : Pos} {irs : IEs} (g : Good C cl xa P n X) (hg : Gl X "range") (hT : C.B.contains ("range" : Str) = true) (ha : PA X [a, b, c] (tO X.K cl xa W (evalO P irs))) (hn : ∀ z ∈ [a, b, c], NoStar z) (hl : lenI irs = 3) :
    PI X tg (.Call (.Name "range" q) [a, b, c] [] pos) (tI X.K cl xa W p (evalI P (.rng irs))) := by
  refine ⟨fun pins s σ H R I h => (pi_range3 hg (g.blt _ hT) (ha.weak fun s H Q h => h) (star_cons (hn a (by simp))) (by rw [star_cons (hn b (by simp)), star1 (hn c (by simp))]; rfl)).run pins s σ H R I ?_⟩
  refine tO_mono (rng_key h) fun vs H1 ⟨ds, l, G, k, e, gh, rs, w⟩ => ?_
  rw [hl] at k
  match ds, k with
  | [d, d', d''], _ =>
    unfold rangeD at e
    split at e
    · rename_i ed; cases ed
    · rename_i ed; cases ed
    · rename_i i j c ed
      cases ed
      split at e
      · rename_i hs
        cases e
        simp only [Bool.and_eq_true, decide_eq_true_eq] at hs
        obtain ⟨⟨s1, s2⟩, rfl⟩ := hs
        unfold Reps at rs
        obtain ⟨v, r', f, rfl, h1, rs⟩ := rs
        unfold Reps at rs
        obtain ⟨v', r'', f', rfl, h1', rs⟩ := rs
        obtain ⟨v2, f2, rfl, h2⟩ := rs.one
        exact ⟨i, j, -1, _, by rw [h1.int, h1'.int, h2.int], rgC_down s1 s2, w _ wd_rangeC⟩
      · cases e
    · cases e
theorem zip_key {irs : IEs} {z : List D → Option (List D)} {s : L2.St} {H : Hp} {R : It → Hp → Prop} {ev : Rho → RL} (h : tI X.K cl xa W p ev s H R) (he : ∀ r, ev r = match evalL P irs r with
      | .ok ds r1 => match z ds with
        | some l => .ok l r1
        | none => .stuck
      | .err k r1 => .err k r1
      | .stuck => .stuck) : tL X.K cl xa W (evalL P irs) s H fun vs H1 => ∃ ds l G, z ds = some l ∧ Same G H1 ∧ RepFs X.K cl G ds vs ∧ ∀ J, WD X.K cl p J G l → R J H1 := by
  obtain ⟨G, r, f, t, o, h⟩ := h
  refine ⟨G, r, f, t, o, ?_⟩
  rw [he] at h
  cases hx : evalL P irs r with
  | stuck => simp only [hx] at h; exact h
  | err k r1 => simp only [hx] at h; exact h
  | ok ds r1 =>
    simp only [hx] at h
    intro vs G1 H1 f1 o1 e1 rs
    cases el : z ds with
    | none => simp only [el] at h; exact h.elim
    | some l =>
      simp only [el] at h
      exact ⟨ds, l, G1, el, o1.gh, rs, fun J w => h J G1 H1 f1 o1 e1 w⟩
theorem si_zip {a b : Expr} {q pos tpos : Pos} {elts : List Expr} {kk : Nat} {irs : IEs} (g : Good C cl xa P n X) (hg : Gl X "zip") (hT : C.B.contains ("zip" : Str) = true) (ha : PA X [a, b] (tL X.K cl xa W (evalL P irs))) (hn : ∀ z ∈ [a, b], NoStar z) :
    PI X (.Tuple elts kk tpos) (.Call (.Name "zip" q) [a, b] [] pos) (tI X.K cl xa W true (evalI P (.zip irs))) := by
  refine ⟨fun pins s σ H R I h => (RZ.pi_zipA hg (g.blt _ hT) (ha.weak fun s H Q h => h) (star_cons (hn a (by simp))) (star_any fun z hz => hn z (List.mem_cons_of_mem _ hz))).run pins s σ H R I ?_⟩
  refine tL_mono (zip_key (z := zipK) h fun r => by first | (rw [evalI]; done) | (rw [evalI]; rfl)) fun vs H1 ⟨ds, l, G, e, gh, rs, w⟩ => ?_
  unfold zipK at e
  split at e
  · rename_i o1 xs o2 ys
    cases e
    unfold RepFs at rs
    obtain ⟨v, r', rfl, h1, rs⟩ := rs
    unfold RepFs at rs
    obtain ⟨v2, r'', rfl, h2, rs⟩ := rs
    unfold RepFs at rs
    subst rs
    unfold RepF at h1 h2
    obtain ⟨_, x, us, rfl, k1, k2⟩ := h1
    obtain ⟨_, y, ws, rfl, k3, k4⟩ := h2
    exact ⟨x, y, us, ws, rfl, .inl ⟨sqL_mono gh k1, sqL_mono gh k3, w _ (wd_zip k1 k3 k2 k4)⟩⟩
  · rename_i xs ys
    cases e
    unfold RepFs at rs
    obtain ⟨v, r', rfl, h1, rs⟩ := rs
    unfold RepFs at rs
    obtain ⟨v2, r'', rfl, h2, rs⟩ := rs
    unfold RepFs at rs
    subst rs
    unfold RepF at h1 h2
    obtain ⟨x, us, rfl, k1, k2⟩ := h1
    obtain ⟨y, ws, rfl, k3, k4⟩ := h2
    exact ⟨x, y, us, ws, rfl, .inr ⟨sqT_mono gh k1.t, sqT_mono gh k3.t, w _ (wd_zipT k1.t k3.t k2 k4)⟩⟩
  · cases e
theorem si_enum {a : Expr} {q pos tpos : Pos} {elts : List Expr} {kk : Nat} {irs : IEs} (g : Good C cl xa P n X) (hg : Gl X "enumerate") (hT : C.B.contains ("enumerate" : Str) = true) (ha : PA X [a] (tL X.K cl xa W (evalL P irs))) (hn : ∀ z ∈ [a], NoStar z) :
    PI X (.Tuple elts kk tpos) (.Call (.Name "enumerate" q) [a] [] pos) (tI X.K cl xa W true (evalI P (.enum irs))) := by
  refine ⟨fun pins s σ H R I h => (pi_enumA hg (g.blt _ hT) (ha.weak fun s H Q h => h) (star1 (hn a (by simp)))).run pins s σ H R I ?_⟩
  refine tL_mono (zip_key (z := enumK) h fun r => by first | (rw [evalI]; done) | (rw [evalI]; rfl)) fun vs H1 ⟨ds, l, G, e, gh, rs, w⟩ => ?_
  unfold enumK at e
  split at e
  · cases e
    unfold RepFs at rs
    obtain ⟨v, r', rfl, h1, rs⟩ := rs
    unfold RepFs at rs
    subst rs
    unfold RepF at h1
    obtain ⟨_, x, us, rfl, k1, k2⟩ := h1
    exact ⟨x, us, rfl, .inl ⟨sqL_mono gh k1, w _ (wd_enum k1 k2)⟩⟩
  · cases e
    unfold RepFs at rs
    obtain ⟨v, r', rfl, h1, rs⟩ := rs
    unfold RepFs at rs
    subst rs
    unfold RepF at h1
    obtain ⟨x, us, rfl, k1, k2⟩ := h1
    exact ⟨x, us, rfl, .inr ⟨sqT_mono gh k1.t, w _ (wd_enumT k1.t k2)⟩⟩
  · cases e
theorem si_cI_any {sc : Scope} {rec : Scope → Bool → Expr → Option IE} {e : Expr} {ii : II} {t : Tg} (g : Good C cl xa P n X) (so : ScOk sc X) (hf : ∀ md e ir, rec sc md e = some ir → SE cl xa W P X e ir)
    (h : cI C rec sc e = some ii) (ht : ∀ l, t = .t l → ∃ es k p, tg = .Tuple es k p) (ok : okTg t ii = true) : PI X tg e (tI X.K cl xa W (isT t) (evalI P ii)) ∧ ∀ x, foldedSetIterable e X.env x = pure x := by
  have seq : ∀ x, rec sc false e = some x → ∀ p, PI X tg e (tI X.K cl xa W p (evalI P (.seq x))) := fun x hx p => si_seq (hf false e x hx)
  have tup := ht
  unfold cI at h
  split at h
  · rename_i x p es pos
    refine ⟨?_, fun _ => rfl⟩
    split at h
    · rename_i hc
      simp only [Bool.and_eq_true] at hc
      obtain ⟨⟨⟨h1, h2⟩, h3⟩, h4⟩ := hc
      have hg := so.glo h1
      split at h
      · rename_i hx
        subst hx
        split at h
        · rw [Option.map_eq_some_iff] at h
          obtain ⟨irs, h, rfl⟩ := h
          obtain ⟨pa, ns⟩ := sndO (P := P) (W := W) (xa := xa) (cl := cl) (X := X) (hf true) h
          exact si_rng1 g hg h3 pa ns (cL_len h)
        · rw [Option.map_eq_some_iff] at h
          obtain ⟨irs, h, rfl⟩ := h
          obtain ⟨pa, ns⟩ := sndO (P := P) (W := W) (xa := xa) (cl := cl) (X := X) (hf true) h
          exact si_rng2 g hg h3 pa ns (cL_len h)
        · rw [Option.map_eq_some_iff] at h
          obtain ⟨irs, h, rfl⟩ := h
          obtain ⟨pa, ns⟩ := sndO (P := P) (W := W) (xa := xa) (cl := cl) (X := X) (hf true) h
          exact si_rng3 g hg h3 pa ns (cL_len h)
        · cases h
      · split at h
        · rename_i hx
          subst hx
          split at h
          · rw [Option.map_eq_some_iff] at h
            obtain ⟨irs, h, rfl⟩ := h
            obtain ⟨pa, ns⟩ := sndL (P := P) (W := W) (xa := xa) (cl := cl) (X := X) (hf false) h
            cases t with
            | n i => cases ok
            | t l =>
              obtain ⟨es, k, p', rfl⟩ := tup l rfl
              exact si_zip g hg h3 pa ns
          · cases h
        · rename_i hx1 hx2
          split at h
          · rw [Option.map_eq_some_iff] at h
            obtain ⟨irs, h, rfl⟩ := h
            obtain ⟨pa, ns⟩ := sndL (P := P) (W := W) (xa := xa) (cl := cl) (X := X) (hf false) h
            cases t with
            | n i => cases ok
            | t l =>
              obtain ⟨es, k, p', rfl⟩ := tup l rfl
              have hx : x = "enumerate" := by simpa [hx1, hx2] using h4
              subst hx
              exact si_enum g hg h3 pa ns
          · cases h
    · rw [Option.map_eq_some_iff] at h
      obtain ⟨y, h, rfl⟩ := h
      exact seq y h _
  · cases h
  · rename_i hns
    rw [Option.map_eq_some_iff] at h
    obtain ⟨y, h, rfl⟩ := h
    refine ⟨seq y h _, fun x => ?_⟩
    cases e <;> first | rfl | exact absurd rfl (hns _ _ _)
end
end GF
namespace GF
open PySem L2 PySem.Spec PyProof.Rows

/-! ## many new things at once -/
def putF (H : Hp) (l : List (Addr × HO)) : Hp := fun b => match l.lookup b with
  | some o => some o
  | none => H b
theorem putF_off {H : Hp} {l : List (Addr × HO)} {b : Addr} (h : ∀ p ∈ l, p.1 ≠ b) : putF H l b = H b := by
  unfold putF
  have : l.lookup b = none := by
    rw [List.lookup_eq_none_iff]
    intro p hp
    have := h p hp
    exact bne_iff_ne.mpr (Ne.symm this)
  rw [this]
theorem lookup_mem' : ∀ {l : List (Addr × HO)} {b : Addr} {o : HO}, l.lookup b = some o → (b, o) ∈ l
  | [], _, _, h => by cases h
  | (a, u) :: l, b, o, h => by
    rw [List.lookup_cons] at h
    by_cases e : b = a
    · subst e
      simp at h
      subst h
      exact List.mem_cons_self
    · have : (b == a) = false := beq_eq_false_iff_ne.mpr e
      rw [this] at h
      exact List.mem_cons_of_mem _ (lookup_mem' h)
theorem putF_in {H : Hp} {l : List (Addr × HO)} (nd : (l.map (·.1)).Nodup) {b : Addr} {o : HO} (h : (b, o) ∈ l) : putF H l b = some o := by
  unfold putF
  have : l.lookup b = some o := by
    induction l with
    | nil => cases h
    | cons p l ih =>
      rw [List.map_cons, List.nodup_cons] at nd
      rw [List.lookup_cons]
      rcases List.mem_cons.mp h with e | e
      · subst e; simp
      · have : (b == p.1) = false := beq_eq_false_iff_ne.mpr fun z => nd.1 (by rw [← z]; exact List.mem_map.mpr ⟨_, e, rfl⟩)
        rw [this]
        exact ih nd.2 e
  rw [this]
theorem putF_cases {H : Hp} {l : List (Addr × HO)} {b : Addr} {o : HO} (h : putF H l b = some o) : (b, o) ∈ l ∨ (H b = some o ∧ l.lookup b = none) := by
  unfold putF at h
  cases e : l.lookup b with
  | none => rw [e] at h; exact .inr ⟨h, rfl⟩
  | some u => rw [e] at h; cases h; exact .inl (lookup_mem' e)
theorem putF_same {H : Hp} {l : List (Addr × HO)} (h : ∀ p ∈ l, H p.1 = none) : Same H (putF H l) := fun b o e => by
  rw [putF_off fun p hp z => ?_]
  · exact e
  · have := h p hp
    rw [z, e] at this
    cases this
section
variable {X : Cx} {pins : List (Addr × Obj)} {σ : L2.St} {H : Hp} {s : Shared} {h' : Heap} {tk : Nat}
/-- new things, all tracked -/
theorem Inv_many (I : L2.Inv X pins σ H s) {l : List (Addr × HO)} (hk : ∀ b o, s.heap.get? b = some o → h'.get? b = some o) (hl : ∀ p ∈ l, s.heap.objs.size ≤ p.1)
    (ok : ∀ p ∈ l, ObjOk X.prog X.w (putF H l) h' p.1 p.2) : L2.Inv X pins σ (putF H l) { s with heap := h', toks := tk } := by
  have new : ∀ p ∈ l, H p.1 = none := fun p hp => I.hok.fresh (hl p hp)
  have low : ∀ b o, s.heap.get? b = some o → ∀ p ∈ l, p.1 ≠ b := fun b o e p hp z => by
    have h1 := Heap.lt_size e
    have h2 := hl p hp
    rw [z] at h2
    exact absurd h1 (Nat.not_lt.mpr h2)
  have kp := putF_same new
  refine I.call' (ch := []) rfl ⟨fun b o q _ _ _ => hk b o q, fun b o q _ _ _ => ⟨o.slots, hk b o q⟩, fun b o q n _ => ?_, fun b o q _ => ⟨o, hk b o q⟩, fun b xs q => kp b _ q, fun b o u q => kp b _ q, fun b ps q => ⟨#[], by rw [kp b _ q]; simp⟩⟩ (fun b u q => ?_) I.bare fun b z => by simp at z
  · rw [putF_off (low b o q)]
    exact n
  · rcases putF_cases q with z | ⟨z, _⟩
    · exact ok _ z
    · exact (I.hok b u z).stay (fun d v _ y => hk d v y) (fun d y => kp d _ y) fun d xs y => kp d _ y
end

/-! ## sorted(d.items()) -/
section
variable {X : Cx} {cl : Cl} {G H : Hp} {pins : List (Addr × Obj)} {σ : L2.St} {s : Shared}
/-- the tuples (key, value), new -/
structure PairT (K : PySem.W.Frag) (cl : Cl) (P : Program) (w : World) (G : Hp) (h' : Heap) (lo : Nat) (as : List Addr) (ks vs : List D) (l : List (Addr × HO)) : Prop where
  fs : l.map (·.1) = as
  nd : as.Nodup
  lo : ∀ a ∈ as, lo ≤ a
  ok : ∀ H', ∀ p ∈ l, ObjOk P w H' h' p.1 p.2
  rep : ∀ G', Same G G' → (∀ p ∈ l, G' p.1 = some p.2) → W.EachIs (RvF K cl G') (as.map Value.ref) (pairsD ks vs)
theorem pt_of {K : PySem.W.Frag} {cl : Cl} {P : Program} {w : World} {h' : Heap} {lo : Nat} : ∀ (as : List Addr) (ks vs : List D) (ku vu : List V) (es : List (Value × Value)),
    as.Pairwise (· < ·) → (∀ a ∈ as, lo ≤ a) → RepFs K cl G ks ku → RepFs K cl G vs vu → Vals ku (es.map (·.1)) → Vals vu (es.map (·.2)) → as.length = es.length →
    (∀ (j : Nat) (a : Addr), as[j]? = some a → ∃ e, es[j]? = some e ∧ h'.get? a = some { cls := .type "tuple", data := .seq #[e.1, e.2] }) → ∃ l, PairT K cl P w G h' lo as ks vs l
  | [], ks, vs, ku, vu, es, _, _, hk, hv, rk, rv, hl, _ => by
    have : es = [] := List.eq_nil_of_length_eq_zero hl.symm
    subst this
    cases rk
    have := hk.nilD
    subst this
    refine ⟨[], rfl, List.nodup_nil, fun _ h => (nomatch h), fun _ _ h => (nomatch h), fun G' _ _ => ?_⟩
    unfold pairsD
    exact .nil
  | a :: as, ks, vs, ku, vu, [], _, _, _, _, _, _, hl, _ => by simp at hl
  | a :: as, ks, vs, ku, vu, e :: es, hp, hlo, hk, hv, rk, rv, hl, hat => by
    rw [List.map_cons] at rk rv
    cases rk with
    | cons rk1 rk2 =>
      rename_i k0 ku'
      cases rv with
      | cons rv1 rv2 =>
        rename_i v0 vu'
        cases ks with
        | nil => have := hk.nilV; cases this
        | cons kd ks =>
          cases vs with
          | nil => have := hv.nilV; cases this
          | cons vd vs =>
            unfold RepFs at hk hv
            obtain ⟨_, _, ek, hk1, hk2⟩ := hk
            cases ek
            obtain ⟨_, _, ev, hv1, hv2⟩ := hv
            cases ev
            have hp' := List.pairwise_cons.mp hp
            obtain ⟨l, p⟩ := pt_of (K := K) (cl := cl) (P := P) (w := w) (h' := h') (lo := lo) as ks vs ku' vu' es hp'.2 (fun a ha => hlo a (List.mem_cons_of_mem _ ha)) hk2 hv2 rk2 rv2 (by simpa using hl) fun j b hj => by
              obtain ⟨e', h1, h2⟩ := hat (j + 1) b (by simpa using hj)
              exact ⟨e', by simpa using h1, h2⟩
            obtain ⟨e', h1, h2⟩ := hat 0 a rfl
            have : e' = e := by simpa using h1.symm
            subst this
            refine ⟨(a, .frz { cls := .type "tuple", data := .seq #[e'.1, e'.2] } (.tup [k0, v0])) :: l, by rw [List.map_cons, p.fs], List.nodup_cons.mpr ⟨fun z => Nat.lt_irrefl _ (hp'.1 a z), p.nd⟩, hlo, fun H' q hq => ?_, fun G' sg hG => ?_⟩
            · rcases List.mem_cons.mp hq with z | z
              · subst z
                exact ⟨h2, by show 2 ≤ sizeLine; decide, [e'.1, e'.2], .cons rk1 (.cons rv1 .nil), ⟨_, h2, rfl, _, rfl⟩⟩
              · exact p.ok H' q z
            · unfold pairsD
              rw [List.map_cons]
              refine .cons ⟨.ref a, rfl, ?_⟩ (p.rep G' sg fun q hq => hG q (List.mem_cons_of_mem _ hq))
              unfold RepF
              exact ⟨a, [k0, v0], rfl, .inl ⟨_, hG _ List.mem_cons_self, rfl⟩, RepFs.cons (RepF.mono sg hk1) (RepFs.cons (RepF.mono sg hv1) RepFs.nil)⟩
/-- new: a list whose items are new, too -/
theorem New.lstN {K : PySem.W.Frag} {ds : List D} {vs : List V} {p : Addr} {l : List (Addr × HO)} (gh : Same G H) (hl : ∀ q ∈ l, H q.1 = none) (hp : H p = none) (hpl : p ∉ l.map (·.1)) (h : RepFs K cl (putF G l) ds vs) :
    New K cl G H (.lst true ds) (.ref p) [p] (putF G l) (upd (putF H l) p (.lst vs)) := by
  have gl : ∀ q ∈ l, G q.1 = none := fun q hq => gh.free (hl q hq)
  have off : ∀ q ∈ l, q.1 ≠ p := fun q hq z => hpl (List.mem_map.mpr ⟨q, hq, z⟩)
  refine ⟨⟨p, vs, rfl, upd_same, h, rfl⟩, fun a ha => ?_, fun b o e => ?_, putF_same gl, fun b o e => ?_, fun b h1 h2 => ?_⟩
  · simp at ha
    subst ha
    exact ⟨by rw [putF_off off]; exact gh.free hp, hp⟩
  · have hb : b ≠ p := fun z => by
      subst z
      rw [putF_off off, gh.free hp] at e
      cases e
    rw [upd_ne hb]
    unfold putF at e ⊢
    cases z : l.lookup b with
    | none => rw [z] at e; exact gh _ _ e
    | some u => rw [z] at e; exact e
  · have hb : b ≠ p := fun z => by subst z; rw [hp] at e; cases e
    rw [upd_ne hb]
    exact putF_same hl b o e
  · cases z : putF G l b with
    | none => exact absurd z h1
    | some u =>
      rcases putF_cases z with y | ⟨y, _⟩
      · exact hl _ y
      · rw [h2] at y; cases y
end

def rUn (K : PySem.W.Frag) (cl : Cl) (u : Un) : V → Hp → VK → Prop := fun x H Q => ∃ G d f z, Same G H ∧ Rep K cl G H d x f ∧ unD u d = some z ∧ ∀ v fv G' H', New K cl G H z v fv G' H' → Q v H'
def tUn (K : PySem.W.Frag) (cl : Cl) (u : Un) (te : TE) : TE := fun σ H Q => te σ H fun x H1 => rUn K cl u x H1 Q
theorem sitems_inv {ks vs : List D} {z : D} (h : sitemsU ks vs = some z) : ks.length = vs.length ∧ sortOk (pairsD ks vs) = true ∧ z = .lst true ((pairsD ks vs).mergeSort leD) := by
  unfold sitemsU at h
  split at h
  · rename_i e
    cases h
    exact ⟨e.1, e.2, rfl⟩
  · cases h
theorem pairsD_len : ∀ (ks vs : List D), ks.length = vs.length → (pairsD ks vs).length = ks.length
  | [], _, _ => rfl
  | _ :: _, [], h => by simp at h
  | k :: ks, v :: vs, h => by
    unfold pairsD
    rw [List.length_cons, List.length_cons, pairsD_len ks vs (by simpa using h)]
section
variable {X : Cx} {cl : Cl} {e : Expr} {te : TE} {p apos cpos pos : Pos}
theorem pe_sitems (hc : X.calm = true) (hu : X.A.units + 65 < cLine) (he : PE X e te) (hg : Gl X "sorted") (hm : X.mg "sorted" = none) (hbase : attributeBase e "items" X.env (eval e X.env) = eval e X.env) (hline : (apos.endLine == cpos.line) = true)
    (hs : starEach [.Call (.Attribute e "items" apos) [] [] cpos] X.env = (false, eval (.Call (.Attribute e "items" apos) [] [] cpos) X.env) :: starEach [] X.env := by rfl) :
    PE X (.Call (.Name "sorted" p) [.Call (.Attribute e "items" apos) [] [] cpos] [] pos) (tUn X.K cl .sitems te) := by
  refine ⟨fun pins s σ H Q I hq => ?_⟩
  refine Call_ (ld_blt I hg hm boot_sorted ?_)
  refine PyProof.Rows.callWith_builtin1 (PyProof.Rows.args_cons ?_ rfl) rfl rfl
  refine wpAny_Call_method (T := "dict") (id := "dict.items") hbase rfl hline PySem.F.plainAttrs_dict PySem.F.slot_dict_items PySem.F.type_dict_items (thn (he.run pins s σ H _ I hq) fun u s1 ⟨x, H1, I1, rx, G, d, f, z, gh, hd, hz, q⟩ => ?_)
  cases d with
  | dct o ks vs =>
    obtain ⟨hlen, hok, rfl⟩ := sitems_inv hz
    obtain ⟨a0, kvs, rfl, hrd, hks, hvs⟩ := hd.dct gh
    obtain rfl : u = Value.ref a0 := rx
    obtain ⟨zz, lo, us, rel, dd⟩ := dk_rd I1.hok hrd
    obtain ⟨es, ep, raw, hsz, hent⟩ := dd.raw
    refine ⟨dd.typeIs, dd.mapOf.noDict, ?_⟩
    have I2 : L2.Inv X pins σ H1 { s1 with heap := s1.heap.push { cls := .type "dict_items", data := .fields #[.ref a0] } } := I1.kept (t' := s1.toks) fun b ob q => Heap.get?_push_of_some _ q
    show wpAny _ _ (callWith cpos (.builtin "dict.items") [.ref a0] [] []) _ X.xe s1
    refine method_meetsIn PySem.F.slot_dict_items PySem.F.entry_dict_items rfl (PySem.evalArgs_none ⟨rfl, dd.typeIs, PySem.F.args_dict_items_1 _, _, meets_dict_items (mixKind X.prog X.w) a0 lo, ⟨us, dd⟩, ?_⟩)
    refine PyProof.Rows.args_nil ?_
    obtain ⟨ps, S⟩ := sortOk_inv hok
    have hul : us.length = kvs.length := (Paired.length rel).symm
    have hkl : ks.length = kvs.length := by
      have h1 := (keysD_V (K := X.K) (cl := cl) (G := G) hks).len
      simpa using h1
    have hpl := pairsD_len ks vs hlen
    refine Calls.call_function_entry PyProof.Rows.kind_sorted PyProof.Rows.plain_sorted PyProof.Rows.entry_sorted (PyProof.Rows.args_sorted1 _) ?_
    unfold Builtin.«sorted»
    refine wpAny_bind (m := checkCount "sorted" 1 1 _) (wpAny_pure ?_)
    refine wpAny_bind (PySem.W.dil_collect (A := X.A.in1) (I1.ok.hd hc) ⟨_, Heap.get?_push_size _ rfl, rfl, rfl⟩ (raw.at fun o e => Heap.get?_push_of_some _ e) (by rw [hsz, hul]; exact zz) fun h' tk as hk hal hG => ?_)
    -- the tuples
    have hku := keysD_V (K := X.K) (cl := cl) (G := G) hks
    let es2 : List (Value × Value) := es.toList.map fun z => (z.key, z.val)
    have hes2 : es2.length = kvs.length := by simp [es2, hsz, hul]
    have hat2 : ∀ (j : Nat) (kv : Key × V), kvs[j]? = some kv → ∃ z, es2[j]? = some z ∧ RelV (kV kv.1) z.1 ∧ RelV kv.2 z.2 := fun j kv hj => by
      obtain ⟨hjl, _⟩ := List.getElem?_eq_some_iff.mp hj
      have hje : j < es.size := by rw [hsz, hul]; exact hjl
      obtain ⟨uv, hu1, hu2, hu3⟩ := LiI.paired_get rel hj
      obtain ⟨h1, h2⟩ := hent j hje uv.1 uv.2 hu1
      refine ⟨(es[j].key, es[j].val), by simp [es2, hje], ?_, by rw [h2]; exact hu3⟩
      rw [hu2]
      exact relV_key (show keyIs uv.1 es[j].key = true from h1)
    have rk : Vals ((kvs.map (·.1)).map kV) (es2.map (·.1)) := by
      refine vals_of_at (by simp [hes2]) fun j x u e1 e2 => ?_
      rw [List.map_map, List.getElem?_map] at e1
      rw [List.getElem?_map] at e2
      cases hj : kvs[j]? with
      | none => rw [hj] at e1; cases e1
      | some kv =>
        rw [hj] at e1; cases e1
        obtain ⟨z, hz1, hz2, _⟩ := hat2 j kv hj
        rw [hz1] at e2; cases e2
        exact hz2
    have rv : Vals (kvs.map (·.2)) (es2.map (·.2)) := by
      refine vals_of_at (by simp [hes2]) fun j x u e1 e2 => ?_
      rw [List.getElem?_map] at e1 e2
      cases hj : kvs[j]? with
      | none => rw [hj] at e1; cases e1
      | some kv =>
        rw [hj] at e1; cases e1
        obtain ⟨z, hz1, _, hz3⟩ := hat2 j kv hj
        rw [hz1] at e2; cases e2
        exact hz3
    obtain ⟨l, P⟩ := pt_of (K := X.K) (P := X.prog) (w := X.w) (h' := h') (lo := s1.heap.objs.size) (G := G) as ks vs _ _ es2 hG.rise (fun a ha => by have z : (s1.heap.push { cls := .type "dict_items", data := .fields #[.ref a0] }).objs.size < a := hG.above a ha; rw [Heap.size_push] at z; exact Nat.le_of_lt (Nat.lt_of_succ_lt z)) hku hvs rk rv (by rw [hal, hes2, hsz, hul]) fun j b hj => by
      obtain ⟨hje, h1⟩ := hG.pairs j b hj
      exact ⟨(es[j].key, es[j].val), by simp [es2, hje], h1⟩
    have hkeep : ∀ b ob, s1.heap.get? b = some ob → h'.get? b = some ob := fun b ob hb => hk b ob (Heap.get?_push_of_some _ hb)
    have hlo : ∀ q ∈ l, s1.heap.objs.size ≤ q.1 := fun q hq => P.lo q.1 (by rw [← P.fs]; exact List.mem_map.mpr ⟨q, hq, rfl⟩)
    have hnew : ∀ q ∈ l, H1 q.1 = none := fun q hq => I1.hok.fresh (hlo q hq)
    have I3 : L2.Inv X pins σ (putF H1 l) { s1 with heap := h', toks := tk } := Inv_many I1 hkeep hlo fun q hq => P.ok _ q hq
    have gl : ∀ q ∈ l, G q.1 = none := fun q hq => gh.free (hnew q hq)
    have gh3 : Same (putF G l) (putF H1 l) := fun b o e => by
      unfold putF at e ⊢
      cases z : l.lookup b with
      | none => rw [z] at e; exact gh _ _ e
      | some u => rw [z] at e; exact e
    have ndl : (l.map (·.1)).Nodup := by rw [P.fs]; exact P.nd
    have e0 := P.rep (putF G l) (putF_same gl) fun q hq => putF_in ndl hq
    generalize hacc : as.map Value.ref = acc at e0
    have hal2 : acc.length = (pairsD ks vs).length := by rw [← hacc, List.length_map, hal, hsz, hul, hpl, hkl]
    have hsl : (pairsD ks vs).length ≤ sizeLine := S.ln
    refine wpAny_bind (wpAny_newList ?_ (by rw [hal2]; exact S.ln))
    have hoL : (h'.push (seqObj "list" acc.toArray 0)).get? h'.objs.size = some (seqObj "list" acc.toArray 0) := Heap.get?_push_size _ rfl
    have hold : ∀ b u, h'.get? b = some u → (W.sortingHeap (h'.push (seqObj "list" acc.toArray 0)) h'.objs.size acc).get? b = some u := fun b u hb =>
      W.sortingHeap_old (Nat.ne_of_lt (Heap.lt_size hb)) (Heap.get?_push_of_some _ hb)
    have er' := (each_reads I3 gh3 (pys_map S.py).2 e0).mono fun _ _ ⟨as, r⟩ => (⟨as, PyProof.Rows.Reads.keeps hold r⟩ : ∃ as, Reads (W.sortingHeap (h'.push (seqObj "list" acc.toArray 0)) h'.objs.size acc) _ _ as)
    refine wpAny_bind (wpAny_holding (wpAny_call_entry PyProof.Rows.slot_list_sort ⟨_, hoL, rfl⟩ PyProof.Rows.entry_list_sort
      (W.list_sort_vals (κ := W.dataKind (W.sortingHeap (h'.push (seqObj "list" acc.toArray 0)) h'.objs.size acc) ((pairsD ks vs).map pyOr)) (s := { s1 with heap := h'.push (seqObj "list" acc.toArray 0), toks := tk }) hoL
        (W.SortsAt.data (s := { s1 with heap := W.sortingHeap (h'.push (seqObj "list" acc.toArray 0)) h'.objs.size acc, toks := tk }) (W.each_map (R := fun v d => ∃ as, Reads (W.sortingHeap (h'.push (seqObj "list" acc.toArray 0)) h'.objs.size acc) v d as) pyOr er') S.al S.so (W.bound_map (S.bound hu))) (by rw [hal2]; exact S.ln) ⟨_, rfl, ?_⟩)
      (PyProof.Rows.args_list_sort _)))
    obtain ⟨ws, rw_, hws⟩ := of_each (W.sortVals_data false e0 er' S.al)
    obtain ⟨e', he'⟩ := PyProof.Rows.sortedHeap_at (vs := acc) (out := (W.sortVals (W.dataKind (W.sortingHeap (h'.push (seqObj "list" acc.toArray 0)) h'.objs.size acc) ((pairsD ks vs).map pyOr)) false acc acc).toArray) hoL
    have hlen : ws.length ≤ sizeLine := by rw [← hws.len, (List.mergeSort_perm (pairsD ks vs) _).length_eq]; exact S.ln
    have hnp : ∀ q ∈ l, q.1 ≠ h'.objs.size := fun q hq => Nat.ne_of_lt (P.ok (putF H1 l) q hq).lt
    have fr : H1 h'.objs.size = none := by
      have := I3.hok.fresh (Nat.le_refl h'.objs.size)
      rwa [putF_off hnp] at this
    refine wpAny_pure ⟨_, rfl, .ref h'.objs.size, upd (putF H1 l) h'.objs.size (.lst ws), I3.laid (t' := tk) (fun b u e => ?_) (Nat.le_refl _)
      (show ObjOk X.prog X.w _ _ _ (.lst ws) from ⟨hlen, _, e', rw_, he'⟩), rfl, q _ _ _ _ (New.lstN gh hnew fr (fun z => by obtain ⟨q, hq, e⟩ := List.mem_map.mp z; exact hnp q hq e) hws)⟩
    have hb : b < h'.objs.size := Heap.lt_size e
    rw [PyProof.Rows.sortedHeap_old (Nat.ne_of_lt hb) (by rw [size_push']; exact Nat.lt_succ_of_lt hb)]
    exact Heap.get?_push_of_some _ e
  | _ => cases hz
end
end GF
namespace GF
open PySem L2 PySem.Spec PyProof.Rows

/-! ## set(xs), xs of ints and texts -/
section
variable {α : Type} [DecidableEq α]
def stepN (acc : List α) (k : α) : List α := if acc.any (fun j => decide (j = k)) then acc else acc ++ [k]
theorem nubK_snoc (l : List α) (k : α) : nubK (l ++ [k]) = stepN (nubK l) k := by
  unfold nubK
  rw [List.foldl_append]
  rfl
theorem nubK_len : ∀ l : List α, (nubK l).length ≤ l.length := fun l => by
  have : ∀ (l acc : List α), (l.foldl stepN acc).length ≤ acc.length + l.length := by
    intro l
    induction l with
    | nil => intro acc; simp
    | cons x l ih =>
      intro acc
      rw [List.foldl_cons, List.length_cons]
      have h1 := ih (stepN acc x)
      have h2 : (stepN acc x).length ≤ acc.length + 1 := by
        unfold stepN
        split <;> simp
      omega
  show (l.foldl stepN []).length ≤ l.length
  simpa using this l []
end
section
variable {prog : Program} {w : World} {A : Around} {R : Result → Shared → Prop} {I : Addr} {fp wr : List Addr} {G : Array GenState → Array GenState → Prop} {n : Nat} {P : Nat → Value → Prop} {St : Nat → Shared → Prop}
theorem set_loopK (W : WalksS prog w A.in1 I fp wr G n P St) (S : Addr) (hSf : S ∉ fp) (ks : List Key) (hval : ∀ i v, P i v → ∃ k, ks[i]? = some k ∧ (mixKind prog w).is k v = true ∧ v.scannable = true) (hb : n + 1 < scanBound) :
    ∀ (m i : Nat) (s : Shared), n - i = m → i ≤ n → St i s → s.heap.SetOf (mixKind prog w) S (fun j => (nubK (ks.take i)).any (fun x => decide (x = j))) (nubK (ks.take i)).length →
      (∀ s', Moved (S :: wr) G s s' → s'.heap.SetOf (mixKind prog w) S (fun j => (nubK (ks.take n)).any (fun x => decide (x = j))) (nubK (ks.take n)).length → R (.ok (.ret .none)) s') →
      codeAny (model prog w) A (.builtin "set.update.loop" ⟨[.ref S, .ref I], []⟩) R s := by
  have hSw : S ∉ wr := fun h => hSf (W.sub _ h)
  have hsub : ∀ b ∈ wr, b ∈ S :: wr := fun b hb => List.mem_cons_of_mem _ hb
  intro m
  induction m with
  | zero =>
    intro i s hm hi hst hS hR
    obtain rfl : i = n := by omega
    refine codeAny_builtin PyProof.Rows.F.entry_set_update_loop ?_
    rw [Around.under_plainId PyProof.Rows.F.plain_set_update_loop _]
    show wpAny _ A.in1 (pyNext (.ref I) >>= _) _ _ s
    refine wpAny_bind (W.done s _ _ hst fun s' hv => ?_)
    show wpAny _ A.in1 (ret Value.none) _ _ s'
    refine wpAny_pure (hR s' (hv.mono hsub) ?_)
    obtain ⟨o, es, ep, t, ho, rest⟩ := hS
    exact ⟨o, es, ep, t, hv.heap S _ hSw ho, rest⟩
  | succ m ih =>
    intro i s hm hi hst hS hR
    have hlt : i < n := by omega
    refine codeAny_builtin PyProof.Rows.F.entry_set_update_loop ?_
    rw [Around.under_plainId PyProof.Rows.F.plain_set_update_loop _]
    show wpAny _ A.in1 (pyNext (.ref I) >>= _) _ _ s
    refine wpAny_bind (W.item i s _ _ hlt hst fun v s' hP hst' hv => ?_)
    obtain ⟨k, hk, hkey, hsc⟩ := hval i v hP
    have hS' : s'.heap.SetOf (mixKind prog w) S (fun j => (nubK (ks.take i)).any (fun x => decide (x = j))) (nubK (ks.take i)).length := by
      obtain ⟨o, es, ep, tb, ho, rest⟩ := hS
      exact ⟨o, es, ep, tb, hv.heap S _ hSw ho, rest⟩
    show wpAny _ A.in1 (holding [v] (setAdd S v) >>= _) _ _ s'
    refine wpAny_bind (wpAny_holding ?_)
    unfold setAdd
    refine wpAny_holding ?_
    refine wpAny_bind ((mixKind prog w).pyHash (k := k) hkey ?_)
    have hle : (nubK (ks.take i)).length ≤ i := Nat.le_trans (nubK_len _) (by rw [List.length_take]; exact Nat.min_le_left ..)
    have htk : ks.take (i + 1) = ks.take i ++ [k] := by rw [List.take_add_one, hk]; rfl
    refine wpAny_setAddHashed_of (knd := mixKind prog w) hkey hsc (show Heap.SetOf (mixKind prog w) _ S _ _ from hS') (by omega) fun h' hsb hS2 => ?_
    have e1 : (fun j => (nubK (ks.take (i + 1))).any (fun x => decide (x = j))) = fun k' => (nubK (ks.take i)).any (fun x => decide (x = k')) || decide (k' = k) := by
      funext j
      rw [htk, nubK_snoc]
      unfold stepN
      by_cases h : (nubK (ks.take i)).any (fun x => decide (x = k)) = true
      · rw [if_pos h]
        by_cases e : j = k
        · subst e; rw [h]; rfl
        · simp [e]
      · rw [if_neg h, List.any_append]
        congr 1
        by_cases e : j = k
        · subst e; simp
        · have : ¬ k = j := fun z => e z.symm
          simp [e, this]
    have e2 : (nubK (ks.take (i + 1))).length = if (nubK (ks.take i)).any (fun x => decide (x = k)) = true then (nubK (ks.take i)).length else (nubK (ks.take i)).length + 1 := by
      rw [htk, nubK_snoc]
      unfold stepN
      split <;> simp
    refine wpAny_pure ⟨plainId_quiet PyProof.Rows.F.plain_set_update_loop _, ih (i + 1) _ (by omega) hlt (W.frame _ s' _ _ hst' (Nat.le_add_right _ _) fun b hb o e => ?_) (by rw [e1, e2]; exact hS2) fun s'' hm'' hS'' => ?_⟩
    · rw [hsb.2 b (fun h : b = S => hSf (by rw [← h]; exact hb))]; exact e
    · refine hR s'' (Moved.trans W.gtrans ((hv.mono hsub).then_heap (Nat.le_add_right _ _) fun b o hb e => ?_) hm'') hS''
      rw [hsb.2 b (fun h : b = S => hb (by rw [h]; exact List.mem_cons_self))]; exact e
end
theorem vals_back : ∀ {xs : List V} {us : List Value}, Vals xs us → ∀ {i : Nat} {u : Value}, us[i]? = some u → ∃ x, xs[i]? = some x ∧ RelV x u
  | _, _, .cons r _, 0, u, e => by
    simp at e
    subst e
    exact ⟨_, rfl, r⟩
  | _, _, .cons _ t, i + 1, u, e => by simpa using vals_back t (i := i) (by simpa using e)

def IsSq (T : String) (h : Heap) (l : Addr) (items : Array Value) : Prop := ∃ o, h.get? l = some o ∧ o.cls = .type T ∧ ∃ n, o.data = .seq items n
theorem IsSq.push {T : String} {h : Heap} {l : Addr} {items : Array Value} (x : IsSq T h l items) (o : Obj) : IsSq T (h.push o) l items := let ⟨ob, e, r⟩ := x; ⟨ob, Heap.get?_push_of_some _ e, r⟩
set_option maxHeartbeats 8000000 in
theorem call_setK_gen {T IT : String} {StI : Addr → Nat → Heap → Prop} {prog : Program} {w : World} {A : Around} {E : Value → Shared → Prop} {s : Shared} {l : Addr} {items : Array Value} {ks : List Key} {Q : Value → Shared → Prop} (hh : A.handled = none) (hl : IsSq T s.heap l items)
    (hsls : isSubtype (.type T) (.type "set") = pure false) (hslf : isSubtype (.type T) (.type "frozenset") = pure false) (hne : (Value.type T == Value.type "dict") = false)
    (hiter : ∀ {A : Around} {E : Value → Shared → Prop} {s : Shared} {Q : Value → Shared → Prop}, IsSq T s.heap l items → Q (.ref s.heap.objs.size) { s with heap := s.heap.push { cls := .type IT, data := .fields #[.ref l, .int 0 0] } } → wpAny (model prog w) A (pyIter (.ref l)) Q E s)
    (hwalk : ∀ {A : Around}, A.handled = none → ∀ I, l ≠ I → Walks prog w A I [I, l] [I] items.size (fun i v => items[i]? = some v) (StI I))
    (hst : ∀ h I, h.get? I = some { cls := .type IT, data := .fields #[.ref l, .int 0 0] } → IsSq T h l items → StI I 0 h) (hi : Vals (ks.map kV) items.toList) (hb : items.size + 1 < scanBound)
    (h : ∀ (h' : Heap) (tk : Nat), h'.SetOf (mixKind prog w) s.heap.objs.size (fun j => (nubK ks).any (fun x => decide (x = j))) (nubK ks).length →
      (∀ b o, b < s.heap.objs.size → s.heap.get? b = some o → h'.get? b = some o) → Q (.ref s.heap.objs.size) { s with heap := h', toks := tk }) :
    wpAny (model prog w) A (call (.type "set") [.ref l]) Q E s := by
  have hks : ks.length = items.size := by have := hi.length; rw [List.length_map, Array.length_toList] at this; exact this
  have htake : ks.take items.size = ks := by rw [← hks]; exact List.take_length
  obtain ⟨c, tl, hmro⟩ := PySem.F.called_set.mro
  have hmade := PySem.F.called_set.made
  have hsub := PySem.F.called_set.sub
  refine wpAny_call (codeAny_of_tree ?_)
  show wpAny _ _ (callAny (.type "set") _) _ _ _
  refine wpAny_pure ⟨Code.quiet_builtin _ (by decide +kernel), codeAny_builtin PySem.F.entry_type_call ?_⟩
  rw [Around.under_plain (weight_type_call_type "set" [.ref l] []) rfl]
  have h1 := PySem.F.called_set.notType
  have h2 := PySem.F.called_set.canCreate
  have hct := PySem.F.typeCall_set_1 (.ref l)
  repeat (any_goals (first | assumption | wp_step))
  refine codeAny_mono (code_set_new_1 (.ref l) (E := E) (Q₁ := fun obj s₁ => ∃ led : Bool, obj = .ref s.heap.objs.size ∧ s₁ = { s with heap := s.heap.push { cls := .type "set", dict := none, data := .set #[] 0 (.fresh 0 0 led) } }) fun led => ⟨led, rfl, rfl⟩) fun r s₁ hr => ?_
  cases r with
  | error e => exact hr
  | ok fl =>
    cases fl with
    | ret obj =>
      obtain ⟨led, rfl, rfl⟩ := hr
      have hS : (s.heap.push { cls := .type "set", dict := none, data := .set #[] 0 (.fresh 0 0 led) }).get? s.heap.objs.size = some { cls := .type "set", dict := none, data := .set #[] 0 (.fresh 0 0 led) } := Heap.get?_push_size _ rfl
      have hT : Shared.TypeIs { s with heap := s.heap.push { cls := .type "set", dict := none, data := .set #[] 0 (.fresh 0 0 led) } } (.ref s.heap.objs.size) "set" := ⟨_, hS, rfl⟩
      have hli := PySem.F.called_set.init.lookup
      have hbi := PySem.F.called_set.init.bind (.ref s.heap.objs.size)
      repeat (any_goals (first | assumption | wp_step))
      refine codeAny_mono (codeAny_call_builtin (R := wants (fun r s₂ => r = .none ∧ ∃ h' tk, s₂ = { s with heap := h', toks := tk } ∧
          h'.SetOf (mixKind prog w) s.heap.objs.size (fun j => (nubK ks).any (fun x => decide (x = j))) (nubK ks).length ∧
          (∀ b o, b < s.heap.objs.size → s.heap.get? b = some o → h'.get? b = some o)) E) PySem.F.called_set.init.plain PySem.F.entry_set_init (check_set_init_1 hT ?_)) fun r₂ s₂ hr₂ => ?_
      · obtain ⟨ol, hol, hcl, nl, hdl⟩ := hl
        obtain ⟨ocls, odict, odata, oslots⟩ := ol
        simp only at hcl hdl
        subst hcl; subst hdl
        have hol' : (s.heap.push { cls := .type "set", dict := none, data := .set #[] 0 (.fresh 0 0 led) }).get? l = some { cls := .type T, dict := odict, data := .seq items nl, slots := oslots } := Heap.get?_push_of_some _ hol
        have hl1 : IsSq T (s.heap.push { cls := .type "set", dict := none, data := .set #[] 0 (.fresh 0 0 led) }) l items := ⟨_, hol', rfl, nl, rfl⟩
        unfold Builtin.«set.__init__» noKeywords Builtin.Frozenset.updateFrom
        generalize hPI : pyIter = PI
        wp_walk
        subst hPI
        refine hiter hl1 ?_
        refine wpAny_bind (wpAny_runValue ?_)
        have hlS : l < s.heap.objs.size := Heap.lt_size hol
        have hh3 : A.in1.in1.in1.handled = none := by simp [hh]
        have hneI : l ≠ (s.heap.push { cls := .type "set", dict := none, data := .set #[] 0 (.fresh 0 0 led) }).objs.size := by
          rw [Heap.size_push]; exact Nat.ne_of_lt (Nat.lt_succ_of_lt hlS)
        have hSf : s.heap.objs.size ∉ [(s.heap.push { cls := .type "set", dict := none, data := .set #[] 0 (.fresh 0 0 led) }).objs.size, l] := by
          rw [Heap.size_push]; simp only [List.mem_cons, List.mem_singleton, List.not_mem_nil, or_false, not_or]
          exact ⟨Nat.ne_of_lt (Nat.lt_succ_self _), Nat.ne_of_gt hlS⟩
        have hval : ∀ (i : Nat) (v : Value), items[i]? = some v → ∃ k, ks[i]? = some k ∧ (mixKind prog w).is k v = true ∧ v.scannable = true := fun i v hv => by
          have hv' : items.toList[i]? = some v := by rw [Array.getElem?_toList]; exact hv
          obtain ⟨x, hx, rx⟩ := vals_back hi hv'
          rw [List.getElem?_map] at hx
          cases hki : ks[i]? with
          | none => rw [hki] at hx; cases hx
          | some k =>
            rw [hki] at hx; cases hx
            exact ⟨k, rfl, kV_is rx, key_scan rx⟩
        refine set_loopK ((hwalk hh3 _ hneI).toS) s.heap.objs.size
          hSf ks hval hb (items.size - 0) 0 _ (by omega) (Nat.zero_le _)
          (hst _ _ (Heap.get?_push_size _ rfl) (hl1.push _)) ?hS0 ?hR
        case hS0 =>
          have hget : ((s.heap.push { cls := .type "set", dict := none, data := .set #[] 0 (.fresh 0 0 led) }).push { cls := .type IT, data := .fields #[.ref l, .int 0 0] }).get? s.heap.objs.size
              = some { cls := .type "set", dict := none, data := .set #[] 0 (.fresh 0 0 led) } := Heap.get?_push_of_some _ hS
          exact ⟨_, #[], 0, _, hget, ⟨rfl, rfl, rfl⟩, rfl, (fun e he => by simp at he), (fun k => by simp [nubK]), (by decide), (by rfl), by simp [nubK]⟩
        case hR =>
          intro s' hm hS'
          obtain ⟨h', g', d', tk', os'⟩ := s'
          have eg : g' = s.gens := hm.gens
          have ed : d' = s.drawn := hm.drawn
          have eo : os' = s.os := hm.os
          subst eg; subst ed; subst eo
          show wpAny _ _ _ _ _ _
          refine wpAny_pure ?_
          show wpAny _ _ (ret Value.none) _ _ _
          rw [htake] at hS'
          refine wpAny_pure ⟨rfl, h', tk', rfl, hS', fun b o hb e => ?_⟩
          have hb1 : b ≠ s.heap.objs.size := Nat.ne_of_lt hb
          have hb2 : b ≠ (s.heap.push { cls := .type "set", dict := none, data := .set #[] 0 (.fresh 0 0 led) }).objs.size := by
            rw [Heap.size_push]; exact Nat.ne_of_lt (Nat.lt_succ_of_lt hb)
          exact hm.heap b o (by simp only [List.mem_cons, List.mem_singleton, List.not_mem_nil, or_false, not_or]; exact ⟨hb1, hb2⟩) (Heap.get?_push_of_some _ (Heap.get?_push_of_some _ e))
      · cases r₂ with
        | error e => exact hr₂
        | ok fl₂ =>
          cases fl₂ with
          | ret r =>
            obtain ⟨rfl, h', tk, rfl, hS', hk'⟩ := hr₂
            repeat (any_goals (first | assumption | wp_step))
            exact h _ _ hS' hk'
          | _ => exact hr₂.elim
    | _ => exact hr.elim


section
variable {prog : Program} {w : World} {A : Around} {E : Value → Shared → Prop} {s : Shared} {l : Addr} {items : Array Value} {ks : List Key} {Q : Value → Shared → Prop}
theorem call_setK_list (hh : A.handled = none) (hl : s.heap.IsList l items) (hi : Vals (ks.map kV) items.toList) (hb : items.size + 1 < scanBound)
    (h : ∀ (h' : Heap) (tk : Nat), h'.SetOf (mixKind prog w) s.heap.objs.size (fun j => (nubK ks).any (fun x => decide (x = j))) (nubK ks).length → (∀ b o, b < s.heap.objs.size → s.heap.get? b = some o → h'.get? b = some o) → Q (.ref s.heap.objs.size) { s with heap := h', toks := tk }) :
    wpAny (model prog w) A (call (.type "set") [.ref l]) Q E s :=
  call_setK_gen (T := "list") (IT := "list_iterator") (StI := fun I i h => h.IsListIter I l i ∧ h.IsList l items) hh hl PySem.F.sub_list_set PySem.F.sub_list_frozenset (by decide) (fun h1 h2 => wpAny_pyIter_list h1 h2) (fun hh I hne => Walks.list hh I l hne items) (fun h I e x => ⟨⟨_, e, rfl, rfl⟩, x⟩) hi hb h
theorem call_setK_tuple (hh : A.handled = none) (hl : s.heap.IsTuple l items) (hi : Vals (ks.map kV) items.toList) (hb : items.size + 1 < scanBound)
    (h : ∀ (h' : Heap) (tk : Nat), h'.SetOf (mixKind prog w) s.heap.objs.size (fun j => (nubK ks).any (fun x => decide (x = j))) (nubK ks).length → (∀ b o, b < s.heap.objs.size → s.heap.get? b = some o → h'.get? b = some o) → Q (.ref s.heap.objs.size) { s with heap := h', toks := tk }) :
    wpAny (model prog w) A (call (.type "set") [.ref l]) Q E s :=
  call_setK_gen (T := "tuple") (IT := "tuple_iterator") (StI := fun I i h => h.IsTupleIter I l i ∧ h.IsTuple l items) hh hl PySem.F.sub_tuple_set PySem.F.sub_tuple_frozenset (by decide) (fun h1 h2 => wpAny_pyIter_tuple h1 h2) (fun hh I hne => Walks.tuple hh I l hne items) (fun h I e x => ⟨⟨_, e, rfl, rfl⟩, x⟩) hi hb h
end
end GF
namespace GF
open PySem L2 PySem.Spec PyProof.Rows

/-! ## len(set(xs)) -/
theorem keysD_Vf {K : PySem.W.Frag} {cl : Cl} {G : Hp} : ∀ {ds : List D} {vs : List V} {js : List Key}, keysD ds = some js → RepFs K cl G ds vs → vs = js.map kV
  | [], vs, js, e, h => by
    unfold keysD at e; cases e
    exact h.nilV
  | d :: ds, vs, js, e, h => by
    unfold keysD at e
    cases e1 : keyD d with
    | none => rw [e1] at e; cases e
    | some j =>
      cases e2 : keysD ds with
      | none => rw [e1, e2] at e; cases e
      | some js' =>
        rw [e1, e2] at e; cases e
        unfold RepFs at h
        obtain ⟨v, r, rfl, h1, h2⟩ := h
        rw [keyD_V (H := G) (Rep.of_F h1) e1, keysD_Vf e2 h2]
        rfl
section
variable {X : Cx} {cl : Cl} {a : Expr} {te : TE} {p p2 q pos : Pos}
theorem lsetU_inv {xs : List D} {z : D} (h : lsetU xs = some z) : ∃ js, keysD xs = some js ∧ xs.length < 4000 ∧ z = .int ((nubK js).length : Nat) := by
  unfold lsetU at h
  split at h
  · rename_i js e
    split at h
    · rename_i hl
      cases h
      exact ⟨js, e, hl, rfl⟩
    · cases h
  · cases h
theorem keysD_len : ∀ {ds : List D} {js : List Key}, keysD ds = some js → js.length = ds.length
  | [], js, e => by unfold keysD at e; cases e; rfl
  | d :: ds, js, e => by
    unfold keysD at e
    cases e1 : keyD d with
    | none => rw [e1] at e; cases e
    | some j =>
      cases e2 : keysD ds with
      | none => rw [e1, e2] at e; cases e
      | some js' =>
        rw [e1, e2] at e; cases e
        rw [List.length_cons, List.length_cons, keysD_len e2]
theorem pe_lset (hc : X.calm = true) (hg : Gl X "len") (hm : X.mg "len" = none) (hg2 : Gl X "set") (hm2 : X.mg "set" = none) (ha : PE X a te)
    (na : starEach [a] X.env = (false, eval a X.env) :: starEach [] X.env) : PE X (.Call (.Name "len" p) [.Call (.Name "set" p2) [a] [] q] [] pos) (tUn X.K cl .lset te) := by
  refine ⟨fun pins s σ H Q I h => ?_⟩
  refine Call_ (ld_blt I hg hm boot_len ?_)
  refine PyProof.Rows.callWith_builtin1 (PyProof.Rows.args_cons ?_ rfl) rfl rfl
  refine Call_ (ld_blt I hg2 hm2 boot_set ?_)
  refine PyProof.Rows.callWith_type1 (PyProof.Rows.args_cons (thn (ha.run pins s σ H _ I h) fun v s1 ⟨x, H1, I1, r1, G, d, f, z, gh, hd, hz, q1⟩ => PyProof.Rows.args_nil ?_) na) na rfl
  have fin : ∀ (js : List Key) (its : List Value), js.length < 4000 → ∀ (h' : Heap) (tk : Nat), h'.SetOf (mixKind X.prog X.w) s1.heap.objs.size (fun j => (nubK js).any (fun x => decide (x = j))) (nubK js).length →
      (∀ b o, b < s1.heap.objs.size → s1.heap.get? b = some o → h'.get? b = some o) → (∀ v fv G' H', New X.K cl G H1 (.int ((nubK js).length : Nat)) v fv G' H' → Q v H') →
      wpAny (model X.prog X.w) X.A (spliced (backTo pos (starEach [] X.env))) (fun vs s₂ => wpAny (model X.prog X.w) X.A (call (.builtin "len") (Value.ref s1.heap.objs.size :: vs)) (EP X pins σ Q) X.xe s₂) X.xe { s1 with heap := h', toks := tk } := fun js its hl h' tk hS hk q => by
    refine PyProof.Rows.args_nil ?_
    obtain ⟨o, es, ep, t, ho, hex, hd, _, _, _, hf, hn⟩ := hS
    have I2 : L2.Inv X pins σ H1 { s1 with heap := h', toks := tk } := I1.kept fun b o e => hk b o (Heap.lt_size e) e
    have := nubK_len js
    refine call_len_set ho hex hd hf (by rw [hn]; omega) ⟨.int ((nubK js).length : Nat), H1, I2.tok _, ⟨_, by rw [hn]⟩, q _ _ _ _ (New.int gh _)⟩
  cases d with
  | lst o xs =>
    obtain ⟨js, hks, hl, rfl⟩ := lsetU_inv hz
    obtain ⟨b, vs, rfl, k2, k3⟩ := hd.lst gh
    cases r1
    have hvs := keysD_Vf hks k3
    subst hvs
    obtain ⟨its, r, pl, hz⟩ := I1.list k2
    have hjl := keysD_len hks
    have hil := r.length
    rw [List.length_map] at hil
    exact call_setK_list (I1.ok.hd hc) pl.isList (by simpa using r) (by rw [List.size_toArray]; unfold scanBound; omega) fun h' tk hS hk => fin js its (by omega) h' tk hS hk q1
  | tup xs =>
    obtain ⟨js, hks, hl, rfl⟩ := lsetU_inv hz
    obtain ⟨b, vs, rfl, _, k2, k3⟩ := hd.tup gh
    cases r1
    have hvs := keysD_Vf hks k3
    subst hvs
    obtain ⟨its, r, pl, hz⟩ := I1.tuple k2
    have hjl := keysD_len hks
    have hil := r.length
    rw [List.length_map] at hil
    exact call_setK_tuple (I1.ok.hd hc) pl (by simpa using r) (by rw [List.size_toArray]; unfold scanBound; omega) fun h' tk hS hk => fin js its (by omega) h' tk hS hk q1
  | _ => cases hz

/-! ## xs[::-1] -/
theorem tup_rev {prog : Program} {w : World} {A : Around} {E : Value → Shared → Prop} {s : Shared} {t sl : Addr} {items : Array Value} {vk : Value} {Q : Value → Shared → Prop} (ht : IsTup s.heap t items) (hs : s.heap.IsSliceOf sl .none .none vk) (pk : IsPart vk (some (-1)))
    (hsz : items.size ≤ sizeLine) (h : Q (.ref s.heap.objs.size) { s with heap := s.heap.push { cls := .type "tuple", data := .seq items.toList.reverse.toArray } }) : wpAny (model prog w) A (getItem (.ref t) (.ref sl)) Q E s := by
  have htake : sizeOk (.seq items.toList.reverse.toArray) := by
    show items.toList.reverse.toArray.size ≤ sizeLine
    rw [List.size_toArray, List.length_reverse, Array.length_toList]
    exact hsz
  obtain ⟨os, hos, hcs, hds⟩ := id hs
  have hTs : s.TypeIs (.ref sl) "slice" := ⟨os, hos, hcs⟩
  unfold getItem
  refine wpAny_holding ?_
  refine wpAny_bind (wpAny_sequenceKey ht.typeIs (by decide) ?_)
  refine wpAny_bind (wpAny_callSpecial?_slot (name := Str.ofString "__getitem__") ht.typeIs PyProof.Rows.slot_tuple_getitem
    (wpAny_call_entry PyProof.Rows.slot_tuple_getitem ht.typeIs PyProof.Rows.entry_tuple_getitem ?_ (PyProof.Rows.args_tuple_getitem _ _)))
  show wpAny _ _ (Builtin.Tuple.tupleItemsOf (.ref t) >>= _) _ _ s
  refine wpAny_bind (PyProof.Rows.tupleItemsOf_ ht ?_)
  refine wpAny_bind (wpAny_typeOf hTs ?_)
  rw [if_pos (by decide)]
  have hpl : Builtin.Slice.slicePlaces ((items.size : Int) - 1) (-1) (-1) = items.size := by
    unfold Builtin.Slice.slicePlaces
    have h1 : ¬ (-1 : Int) > 0 := by decide
    simp only [h1, if_false, show (- -1 : Int) = 1 from by decide, Int.ediv_one]
    split <;> omega
  have happ : ∀ {Q' : Int × Int × Nat → Shared → Prop}, Q' ((items.size : Int) - 1, -1, items.size) s → ∀ {A' : Around} {E' : Value → Shared → Prop}, wpAny (model prog w) A' (Builtin.Slice.sliceApplied (.ref sl) (pure (items.size : Int))) Q' E' s := fun {Q'} hq {A' E'} => by
    unfold Builtin.Slice.sliceApplied Builtin.Slice.sliceFields
    refine wpAny_bind (wpAny_bind (wpAny_field hos hds (x := .none) rfl (wpAny_bind (wpAny_field hos hds (x := .none) rfl (wpAny_bind (wpAny_field hos hds (x := vk) rfl (wpAny_pure ?_)))))))
    refine wpAny_bind (HT.slicePart_ pk ?_)
    show wpAny _ _ (if ((-1 : Int) == 0) = true then _ else _) _ _ s
    rw [if_neg (by decide)]
    refine wpAny_bind (HT.slicePart_ IsPart.none (wpAny_bind (HT.slicePart_ IsPart.none (wpAny_bind (wpAny_pure ?_)))))
    show wpAny _ _ (pure ((items.size : Int) - 1, (-1 : Int), Builtin.Slice.slicePlaces ((items.size : Int) - 1) (-1) (-1))) _ _ s
    rw [hpl]
    exact wpAny_pure hq
  refine wpAny_bind (happ ?_)
  have hno : ¬ ((((items.size : Int) - 1) == 0 && (-1 : Int) == 1 && items.size == items.size) = true) := by
    intro q
    rw [Bool.and_eq_true, Bool.and_eq_true] at q
    exact absurd q.1.2 (by decide)
  show wpAny _ _ (if (((items.size : Int) - 1) == 0 && (-1 : Int) == 1 && items.size == items.size) = true then _ else _) _ _ s
  rw [if_neg hno]
  have hpick : ((List.range items.size).filterMap fun (m : Nat) => items[(((items.size : Int) - 1) + (m : Int) * -1).toNat]?).toArray = items.toList.reverse.toArray := by
    have e : ((List.range items.size).filterMap fun (m : Nat) => items[(((items.size : Int) - 1) + (m : Int) * -1).toNat]?) = ((List.range items.size).map fun k => items.size - 1 - k).filterMap (items[·]?) := by
      rw [List.filterMap_map]
      have cg : ∀ (l : List Nat), (∀ m ∈ l, m < items.size) → (l.filterMap fun (m : Nat) => items[(((items.size : Int) - 1) + (m : Int) * -1).toNat]?) = l.filterMap ((items[·]?) ∘ fun k => items.size - 1 - k) := by
        intro l
        induction l with
        | nil => intro _; rfl
        | cons m l ih =>
          intro hm
          have e2 : (((items.size : Int) - 1) + (m : Int) * -1).toNat = items.size - 1 - m := by have := hm m List.mem_cons_self; omega
          rw [List.filterMap_cons, List.filterMap_cons, ih fun m h => hm m (List.mem_cons_of_mem _ h), e2]
          rfl
      exact cg _ fun m hm => List.mem_range.mp hm
    rw [e, PySem.W.krv_range, List.filterMap_reverse, PySem.W.krv_all]
  rw [hpick]
  first
    | exact wpAny_bind (m := Builtin.Tuple.tupleExact _) (wpAny_newObj_type (wpAny_pure ⟨_, rfl, wpAny_pure h⟩) htake)
    | exact wpAny_bind (m := Builtin.Tuple.tupleExact _) (wpAny_newObj_type (wpAny_bind (wpAny_pure (wpAny_pure ⟨_, rfl, wpAny_pure h⟩))) htake)
    | exact wpAny_bind (wpAny_bind (m := Builtin.Tuple.tupleExact _) (wpAny_newObj_type (wpAny_pure (wpAny_pure ⟨_, rfl, wpAny_pure h⟩)) htake))
    | exact wpAny_bind (wpAny_bind (m := Builtin.Tuple.tupleExact _) (wpAny_newObj_type (wpAny_pure ⟨_, rfl, wpAny_pure h⟩) htake))
theorem RepFs.rev {K : PySem.W.Frag} {G : Hp} : ∀ {ds : List D} {vs : List V}, RepFs K cl G ds vs → RepFs K cl G ds.reverse vs.reverse
  | [], vs, h => by have := h.nilV; subst this; exact h
  | d :: ds, vs, h => by
    unfold RepFs at h
    obtain ⟨v, r, rfl, h1, h2⟩ := h
    rw [List.reverse_cons, List.reverse_cons]
    exact RepFs.app (RepFs.rev h2) (RepFs.cons h1 RepFs.nil)
theorem pe_rev {e : Expr} {k : Nat} {p1 p2 p3 pos : Pos} (he : PE X e te) : PE X (.Subscript e (.Slice none none (some (.UnaryOp .USub (.Constant (.int 1) k p1) p2)) p3) pos) (tUn X.K cl .rev te) := by
  refine ⟨fun pins s σ H Q I h => ?_⟩
  refine Subscript_ (thn (he.run pins s σ H _ I h) fun v s1 ⟨x, H1, I1, r1, G, d, f, z, gh, hd, hz, q⟩ => ?_)
  have hst : PO X (some (.UnaryOp .USub (.Constant (.int 1) k p1) p2)) (tPart (L2.tUn (rU fun i => .int (-i)) (tC (.int 1)))) := po_some (pe_un un_neg pe_int)
  refine wpAny_Slice (thn (po_none.run pins s1 σ H1 (fun o H2 => o = none ∧ H2 = H1) I1 ⟨rfl, rfl⟩) fun vl s2 ⟨l, H2, I2, pl, el, e2⟩ => ?_)
  subst el e2
  refine thn (po_none.run pins s2 σ H2 (fun o H3 => o = none ∧ H3 = H2) I2 ⟨rfl, rfl⟩) fun vu s3 ⟨u, H3, I3, pu, eu, e3⟩ => ?_
  subst eu e3
  refine thn (hst.run pins s3 σ H3 (fun o H4 => o = some (-1) ∧ H4 = H3) I3 ⟨1, rfl, -1, rfl, rfl, rfl⟩) fun vs s4 ⟨o, H4, I4, ps, eo, e4⟩ => ?_
  subst eo e4
  have I5 : L2.Inv X pins σ H4 { s4 with heap := s4.heap.push { cls := .type "slice", data := .fields #[vl, vu, vs] } } := I4.kept (t' := s4.toks) fun b ob q => Heap.get?_push_of_some _ q
  cases pl
  cases pu
  cases d with
  | lst o xs =>
    cases hz
    obtain ⟨a, us, rfl, k2, k3⟩ := hd.lst gh
    cases r1
    obtain ⟨its, r, ht, hz⟩ := I5.list k2
    show wpAny (model X.prog X.w) X.A (subscriptTail e (.Slice none none (some (.UnaryOp .USub (.Constant (.int 1) k p1) p2)) p3) (.ref a) (.ref s4.heap.objs.size)) (EP X pins σ Q) X.xe { s4 with heap := s4.heap.push { cls := .type "slice", data := .fields #[.none, .none, vs] } }
    refine tail_any (ops := [.ref a, .ref s4.heap.objs.size]) ht.isList.typeIs (PySem.slot_list_getitem.lookup) ?_ (by with_unfolding_all rfl)
    have hlen := r.length
    refine wpAny_getItem_list_slice ht.isList (Heap.IsSliceOf.new _ .none .none vs) .none .none ps (by decide) ?_ (by rw [List.size_toArray]; omega)
    rw [PySem.W.krv_pick]
    exact ⟨.ref _, _, I5.laid (t' := s4.toks) (o := .lst us.reverse) (fun b ob q => Heap.get?_push_of_some _ q) (Nat.le_refl _) ⟨by rw [List.length_reverse]; exact hz, _, 0, r.reverse, Heap.get?_push_size _ rfl⟩, rfl, q _ _ _ _ (New.lst gh (RepFs.rev k3) (I5.hok.fresh (Nat.le_refl _)))⟩
  | tup xs =>
    cases hz
    obtain ⟨a, us, rfl, _, k2, k3⟩ := hd.tup gh
    cases r1
    obtain ⟨its, r, ht, hz⟩ := I5.tuple k2
    show wpAny (model X.prog X.w) X.A (subscriptTail e (.Slice none none (some (.UnaryOp .USub (.Constant (.int 1) k p1) p2)) p3) (.ref a) (.ref s4.heap.objs.size)) (EP X pins σ Q) X.xe { s4 with heap := s4.heap.push { cls := .type "slice", data := .fields #[.none, .none, vs] } }
    refine tail_any (ops := [.ref a, .ref s4.heap.objs.size]) ht.typeIs (PyProof.Rows.slot_tuple_getitem.lookup) ?_ (by with_unfolding_all rfl)
    have hlen := r.length
    have hnw : IsTup ((s4.heap.push { cls := .type "slice", data := .fields #[.none, .none, vs] }).push { cls := .type "tuple", data := .seq its.reverse.toArray }) (s4.heap.push { cls := .type "slice", data := .fields #[.none, .none, vs] }).objs.size its.reverse.toArray ∧ ((s4.heap.push { cls := .type "slice", data := .fields #[.none, .none, vs] }).push { cls := .type "tuple", data := .seq its.reverse.toArray }).get? (s4.heap.push { cls := .type "slice", data := .fields #[.none, .none, vs] }).objs.size = some { cls := .type "tuple", data := .seq its.reverse.toArray } := ⟨IsTup.new _ _, Heap.get?_push_size _ rfl⟩
    refine tup_rev ht (Heap.IsSliceOf.new _ .none .none vs) ps (by rw [List.size_toArray]; omega) ?_
    exact ⟨.ref _, _, I5.laid (t' := s4.toks) (o := .frz { cls := .type "tuple", data := .seq its.reverse.toArray } (.tup us.reverse)) (fun b ob q => Heap.get?_push_of_some _ q) (Nat.le_refl _)
      ⟨hnw.2, by rw [List.length_reverse]; exact hz, _, r.reverse, hnw.1⟩, rfl, q _ _ _ _ (New.tup gh (RepFs.rev k3) (I5.hok.fresh (Nat.le_refl _)) rfl)⟩
  | _ => cases hz
end

/-! ## list(range(..)), tuple(range(..)) -/
theorem small_of' {i : Int} (h : small62 i = true) : -(2 ^ 62) ≤ i ∧ i < 2 ^ 62 := small_of h
theorem rangeD_inv {ds l : List D} (h : rangeD ds = some l) : ∃ a b c n, Builtin.Range.small a b c = true ∧ Builtin.Range.rangeSize a b c = ((n : Nat) : Int) ∧ l = (List.range n).map (fun k => D.int (a + (k : Nat) * c)) ∧
    (ds = [.int b] ∧ a = 0 ∧ c = 1 ∨ ds = [.int a, .int b] ∧ c = 1 ∨ ds = [.int a, .int b, .int c] ∧ c = -1) := by
  unfold rangeD at h
  split at h
  · rename_i j
    split at h
    · rename_i hs
      cases h
      have z := small_of' hs
      exact ⟨0, j, 1, j.toNat, small_one (by decide) (by decide) z.1 z.2, by rw [rangeSize_nat]; simp, by simp, .inl ⟨rfl, rfl, rfl⟩⟩
    · cases h
  · rename_i i j
    split at h
    · rename_i hs
      cases h
      simp only [Bool.and_eq_true] at hs
      have z := small_of' hs.1
      have y := small_of' hs.2
      exact ⟨i, j, 1, (j - i).toNat, small_one z.1 z.2 y.1 y.2, rangeSize_nat _ _, by simp, .inr (.inl ⟨rfl, rfl⟩)⟩
    · cases h
  · rename_i i j c
    split at h
    · rename_i hs
      cases h
      simp only [Bool.and_eq_true, decide_eq_true_eq] at hs
      obtain ⟨⟨s1, s2⟩, rfl⟩ := hs
      obtain ⟨_, _, k1, k2⟩ := rgC_down s1 s2
      exact ⟨i, j, -1, (i - j).toNat, k1, k2, rfl, .inr (.inr ⟨rfl, rfl⟩)⟩
    · cases h
  · cases h
section
variable {X : Cx} {cl : Cl} {xa : Nat → Value} {W : WX} {P : Phi} {p q pos pos2 : Pos} {es : List Expr} {irs : IEs}
def PRgC (X : Cx) (e : Expr) (t : L2.St → Hp → (Int → Int → Int → Hp → Prop) → Prop) : Prop :=
  ∀ (pins : List (Addr × Obj)) (s : Shared) (σ : L2.St) (H : Hp) (Q : Int → Int → Int → Hp → Prop), L2.Inv X pins σ H s → t σ H Q →
    wpAny (model X.prog X.w) X.A (eval e X.env) (fun x s' => ∃ r a b c t u v H', x = .ref r ∧ IsRange s'.heap r a b c t u v ∧ L2.Inv X pins σ H' s' ∧ Q a b c H') X.xe s
def tRgA (ta : TA) : L2.St → Hp → (Int → Int → Int → Hp → Prop) → Prop := fun σ H Q => ta σ H fun vs H1 => ∃ a b c, (vs = [.int b] ∧ a = 0 ∧ c = 1 ∨ vs = [.int a, .int b] ∧ c = 1 ∨ vs = [.int a, .int b, .int c] ∧ c = -1) ∧ Q a b c H1
theorem prgA {e : Expr} {ta : TA} (hg : Gl X "range") (hm : X.mg "range" = none) (ha : PA X (e :: es) ta) (ns : ∀ z ∈ e :: es, NoStar z) : PRgC X (.Call (.Name "range" q) (e :: es) [] pos) (tRgA ta) := by
  intro pins s σ H Q I h
  refine Call_ (ld_blt I hg hm boot_range (PyProof.Rows.callWith_type1 (thn (ha.run pos pins s σ H _ I h) fun us s1 ⟨vs, H1, I1, r1, a, b, c, q1, q⟩ => ?_) (star_cons (ns e (by simp))) (star_any fun z hz => ns z (by simp [hz]))))
  rcases q1 with ⟨rfl, rfl, rfl⟩ | ⟨rfl, rfl⟩ | ⟨rfl, rfl⟩
  · cases r1 with
    | cons r rr =>
      cases rr
      obtain ⟨t, rfl⟩ := r
      exact call_range_1 ⟨_, _, _, _, _, _, _, H1, rfl, IsRange.new _ _ _ _ _ _ _, I1.kept fun b u e => Heap.get?_push_of_some _ e, q⟩
  · cases r1 with
    | cons r rr =>
      cases rr with
      | cons r' rr =>
        cases rr
        obtain ⟨t, rfl⟩ := r
        obtain ⟨t', rfl⟩ := r'
        exact call_range_2 ⟨_, _, _, _, _, _, _, H1, rfl, IsRange.new _ _ _ _ _ _ _, I1.kept fun b u e => Heap.get?_push_of_some _ e, q⟩
  · cases r1 with
    | cons r rr =>
      cases rr with
      | cons r' rr =>
        cases rr with
        | cons r'' rr =>
          cases rr
          obtain ⟨t, rfl⟩ := r
          obtain ⟨t', rfl⟩ := r'
          obtain ⟨t'', rfl⟩ := r''
          exact call_range_3 (by decide) ⟨_, _, _, _, _, _, _, H1, rfl, IsRange.new _ _ _ _ _ _ _, I1.kept fun b u e => Heap.get?_push_of_some _ e, q⟩ (.inl (PyProof.noPylong_small (by decide)))
def tRgl (K : PySem.W.Frag) (cl : Cl) (tup : Bool) (te : L2.St → Hp → (Int → Int → Int → Hp → Prop) → Prop) : TE := fun σ H Q => te σ H fun a b c H1 => ∃ G n, Same G H1 ∧ Builtin.Range.small a b c = true ∧ Builtin.Range.rangeSize a b c = ((n : Nat) : Int) ∧ n ≤ sizeLine ∧
  ∀ v fv G' H', New K cl G H1 (if tup then .tup ((List.range n).map fun k => .int (a + (k : Nat) * c)) else .lst true ((List.range n).map fun k => .int (a + (k : Nat) * c))) v fv G' H' → Q v H'
theorem ints_rep {K : PySem.W.Frag} {G : Hp} {f : Nat → Int} : ∀ l : List Nat, RepFs K cl G (l.map fun k => D.int (f k)) (l.map fun k => V.int (f k))
  | [] => RepFs.nil
  | k :: l => RepFs.cons (by unfold RepF; rfl) (ints_rep l)
theorem vals_rgC {a c : Int} {n : Nat} {acc : Array Value} (h : ItemsOf (fun i v => ∃ t, v = .int (a + i * c) t) acc n) : Vals ((List.range n).map fun k => V.int (a + (k : Nat) * c)) acc.toList := by
  refine vals_of_at (by rw [List.length_map, List.length_range, Array.length_toList, h.1]) fun j x u e1 e2 => ?_
  rw [List.getElem?_map] at e1
  cases hj : (List.range n)[j]? with
  | none => rw [hj] at e1; cases e1
  | some k =>
    rw [hj] at e1; cases e1
    have hjn : j < n := by
      obtain ⟨z, _⟩ := List.getElem?_eq_some_iff.mp hj
      simpa using z
    have : k = j := by
      rw [List.getElem?_range hjn] at hj
      exact (Option.some.inj hj).symm
    subst this
    obtain ⟨t, ht⟩ := h.2 k u (by rw [← Array.getElem?_toList]; exact e2)
    exact ⟨t, ht⟩
theorem pe_rgl {e : Expr} {te : L2.St → Hp → (Int → Int → Int → Hp → Prop) → Prop} {tup : Bool} (hc : X.calm = true) (hg : Gl X (if tup then "tuple" else "list")) (hm : X.mg (if tup then "tuple" else "list") = none) (he : PRgC X e te)
    (na : starEach [e] X.env = (false, eval e X.env) :: starEach [] X.env) : PE X (.Call (.Name (if tup then "tuple" else "list") p) [e] [] pos2) (tRgl X.K cl tup te) := by
  refine ⟨fun pins s σ H Q I h => ?_⟩
  cases tup with
  | true =>
    refine Call_ (ld_blt I hg hm boot_tuple (PyProof.Rows.callWith_type1 (PyProof.Rows.args_cons (thn (he pins s σ H _ I h) fun x s1 ⟨r, a, b, c, t, u, v, H1, ex, hr, I1, G, n, gh, k1, k2, k3, q⟩ => PyProof.Rows.args_nil ?_) na) na))
    subst ex
    refine L2.call_tuple_range (n := n) (I1.ok.hd hc) hr k1 k2 (by rw [sizeLine_eq] at k3; omega) fun h' tk acc hk hi => ?_
    have I2 : L2.Inv X pins σ H1 { s1 with heap := h', toks := tk } := I1.kept hk
    have fr := I2.hok.fresh (Nat.le_refl h'.objs.size)
    have hnw : IsTup (h'.push { cls := .type "tuple", data := .seq acc }) h'.objs.size acc ∧ (h'.push { cls := .type "tuple", data := .seq acc }).get? h'.objs.size = some { cls := .type "tuple", data := .seq acc } := ⟨IsTup.new _ _, Heap.get?_push_size _ rfl⟩
    refine ⟨.ref h'.objs.size, upd H1 h'.objs.size (.frz { cls := .type "tuple", data := .seq acc } (.tup ((List.range n).map fun k => V.int (a + (k : Nat) * c)))), I2.laid (t' := tk) (fun c o e => Heap.get?_push_of_some _ e) (Nat.le_refl _)
      ⟨hnw.2, by rw [List.length_map, List.length_range]; exact k3, acc.toList, vals_rgC hi, by rw [Array.toArray_toList]; exact hnw.1⟩, rfl, q _ _ _ _ (New.tup gh (ints_rep _) fr rfl)⟩
  | false =>
    refine Call_ (ld_blt I hg hm boot_list (PyProof.Rows.callWith_type1 (PyProof.Rows.args_cons (thn (he pins s σ H _ I h) fun x s1 ⟨r, a, b, c, t, u, v, H1, ex, hr, I1, G, n, gh, k1, k2, k3, q⟩ => PyProof.Rows.args_nil ?_) na) na))
    subst ex
    refine PySem.call_list_range (n := n) (I1.ok.hd hc) hr k1 k2 (by rw [sizeLine_eq] at k3; omega) fun h' tk acc c' hk e' hi => ?_
    refine ⟨.ref s1.heap.objs.size, upd H1 s1.heap.objs.size (.lst ((List.range n).map fun k => V.int (a + (k : Nat) * c))), I1.laid hk (Nat.le_refl _) ⟨by rw [List.length_map, List.length_range]; exact k3, acc.toList, c', vals_rgC hi, ?_⟩, rfl, q _ _ _ _ (New.lst gh (ints_rep _) (I1.hok.fresh (Nat.le_refl _)))⟩
    rw [Array.toArray_toList]
    exact e'
/-! ## as the language has them -/
theorem un_key {u : Un} {x : IE} {s : L2.St} {H : Hp} {Q : VK} (h : tE X.K cl xa W (evalE P (.un u x)) s H Q) : tUn X.K cl u (tE X.K cl xa W (evalE P x)) s H Q := by
  obtain ⟨G, r, f, t, o, h⟩ := h
  refine ⟨G, r, f, t, o, ?_⟩
  unfold evalE at h
  refine PostE.seqG h fun a r1 d v1 fv1 fx G1 H1 f1 hx ea o1 e1 i1 h1 => ?_
  cases hz : unD u d with
  | none => rw [hz] at h1; exact h1.elim
  | some z =>
    rw [hz] at h1
    exact ⟨G1, d, fx, z, o1.gh, i1, hz, fun v fv G' H' n => PostE.fin h1 o1 n⟩
theorem rgl_key {tup : Bool} {s : L2.St} {H : Hp} {Q : VK} (h : tE X.K cl xa W (evalE P (.rgl tup irs)) s H Q) : tRgl X.K cl tup (tRgA (tO X.K cl xa W (evalO P irs))) s H Q := by
  obtain ⟨G, r, f, t, o, h⟩ := h
  refine ⟨G, r, f, t, o, ?_⟩
  unfold evalE at h
  cases hx : evalO P irs r with
  | stuck => simp only [hx] at h; exact h
  | err k r1 => simp only [hx] at h; exact h
  | ok os r1 =>
    simp only [hx] at h
    intro vs fv G1 H1 f1 o1 e1 i1
    cases eg : getAll r1 os with
    | none => simp only [eg] at h; exact h.elim
    | some ds =>
      simp only [eg] at h
      cases el : rangeD ds with
      | none => simp only [el] at h; exact h.elim
      | some l =>
        simp only [el] at h
        split at h
        · rename_i hl
          obtain ⟨a, b, c, n, k1, k2, rfl, k4⟩ := rangeD_inv el
          have rs := i1.reps o1 eg
          rw [List.length_map, List.length_range] at hl
          refine ⟨a, b, c, ?_, G1, n, o1.gh, k1, k2, hl, fun v fv' G' H' nw => ?_⟩
          · rcases k4 with ⟨rfl, h2, h3⟩ | ⟨rfl, h2⟩ | ⟨rfl, h2⟩
            · obtain ⟨v, f, rfl, h1⟩ := rs.one
              exact .inl ⟨by rw [h1.int], h2, h3⟩
            · unfold Reps at rs
              obtain ⟨v, r', f, rfl, h1, rs⟩ := rs
              obtain ⟨v2, f2, rfl, h2'⟩ := rs.one
              exact .inr (.inl ⟨by rw [h1.int, h2'.int], h2⟩)
            · unfold Reps at rs
              obtain ⟨v, r', f, rfl, h1, rs⟩ := rs
              unfold Reps at rs
              obtain ⟨v', r'', f', rfl, h1', rs⟩ := rs
              obtain ⟨v2, f2, rfl, h2'⟩ := rs.one
              exact .inr (.inr ⟨by rw [h1.int, h1'.int, h2'.int], h2⟩)
          · have h1 := PostE.base (f1 := f1) (fv := fv) h e1
            exact PostE.fin h1 o1 (by
              cases tup <;> exact nw)
        · exact h.elim
end
end GF
namespace GF
open PySem L2 PySem.Spec PyProof.Rows

/-! ## list comprehensions -/
section
variable {K : PySem.W.Frag} {cl : Cl} {G G0 H H' : Hp} {f t : List Addr} {r r1 : Rho} {s s1 : L2.St}
theorem Ok.fresh {T : Addr} {ob : HO} (o : Ok K cl G H r s f t) (h : H T = none) : Ok K cl G (upd H T ob) r s f t ∧ Ext f G H f G (upd H T ob) := by
  have ne : ∀ a, H a ≠ none → (upd H T ob) a = H a := fun a ha => upd_ne fun e => ha (by rw [e]; exact h)
  refine ⟨⟨o.sl.keep (fun _ _ z => z) fun a ha => ne a (o.sl.there a ha), o.nd, o.fr, o.gh.trans (same_new h), fun a ha => by rw [ne a (o.th a ha)]; exact o.th a ha⟩, ⟨fun a ha _ => ne a ha, fun a ha => by rw [ne a ha]; exact ha, fun _ _ z => z, fun _ g1 g2 => absurd g2 g1, fun _ z => .inl z⟩⟩
theorem Ok.updT {T : Addr} {ob : HO} (o : Ok K cl G H r s f t) (h : T ∈ t) : Ok K cl G (upd H T ob) r s f t := by
  have gt : G T = none := o.fr T (List.mem_append_right _ h)
  have nf : T ∉ f := o.disj h
  refine ⟨o.sl.keep (fun _ _ z => z) fun a ha => upd_ne fun e => nf (e ▸ ha), o.nd, o.fr, fun a x e => ?_, fun a ha => ?_⟩
  · rw [upd_ne (fun z => by rw [z, gt] at e; cases e)]; exact o.gh a x e
  · by_cases z : a = T
    · subst z; rw [upd_same]; simp
    · rw [upd_ne z]; exact o.th a ha
theorem wipe_idem : ∀ {vs : List Nat} {s : L2.St}, L2.wipe (L2.wipe s vs) vs = L2.wipe s vs
  | [], _ => rfl
  | v :: vs, s => by
    show (L2.wipe ((L2.wipe s vs).set v none) vs).set v none = (L2.wipe s vs).set v none
    rw [wipe_set2, wipe_idem]
theorem set_big {α : Type} : ∀ {l : List α} {i : Nat} {x : α}, ¬ i < l.length → l.set i x = l
  | [], _, _, _ => rfl
  | a :: l, 0, _, h => by simp at h
  | a :: l, i + 1, x, h => by simp only [List.set_cons_succ]; rw [set_big (by simpa using h)]
theorem wipeR_len : ∀ {vs : List Nat} {r : Rho}, (wipeR r vs).length = r.length
  | [], _ => rfl
  | v :: vs, r => by unfold wipeR; rw [List.length_set, wipeR_len]
theorem Ok.wipe (o : Ok K cl G H r s f t) : ∀ vs : List Nat, ∃ f', Ok K cl G H (wipeR r vs) (L2.wipe s vs) f' t ∧ ∀ a ∈ f', a ∈ f
  | [] => ⟨f, o, fun _ z => z⟩
  | v :: vs => by
    obtain ⟨f1, o1, sub⟩ := o.wipe vs
    unfold wipeR L2.wipe
    by_cases h : v < (wipeR r vs).length
    · obtain ⟨f2, fa, fb, rfl, _, h5⟩ := o1.sl.any h
      have sl := h5 G H none (fun _ _ z => z) fun _ _ => rfl
      have sb : List.Sublist (fa ++ fb) (fa ++ (f2 ++ fb)) := List.Sublist.append (List.Sublist.refl _) (List.sublist_append_right _ _)
      exact ⟨fa ++ fb, ⟨sl, o1.nd.sublist (List.Sublist.append sb (List.Sublist.refl _)), fun a ha => o1.fr a ((List.Sublist.append sb (List.Sublist.refl _)).subset ha), o1.gh, o1.th⟩, fun a ha => sub a (sb.subset ha)⟩
    · have h2 : ¬ v < (L2.wipe s vs).length := by rw [← o1.sl.len]; exact h
      rw [set_big h, set_big h2]
      exact ⟨f1, o1, sub⟩
theorem getS_set {l : Rho} {i v : Nat} {x : Option D} : getS (l.set v x) i = if v = i ∧ v < l.length then x else getS l i := by
  unfold getS
  by_cases h : v = i
  · subst h
    by_cases h2 : v < l.length
    · rw [List.getElem?_set_self h2, if_pos ⟨rfl, h2⟩]
    · rw [set_big h2, if_neg fun z => h2 z.2]
  · rw [List.getElem?_set_ne h, if_neg fun z => h z.1]
theorem getS_big {l : Rho} {i : Nat} (h : ¬ i < l.length) : getS l i = none := by
  unfold getS
  rw [List.getElem?_eq_none (by omega)]
theorem getS_wipe : ∀ {vs : List Nat} {r : Rho} {i : Nat}, i ∈ vs → getS (wipeR r vs) i = none
  | [], _, _, h => nomatch h
  | v :: vs, r, i, h => by
    unfold wipeR
    rw [getS_set]
    split
    · rfl
    · rename_i hn
      by_cases e : v = i
      · subst e
        exact getS_big fun z => hn ⟨rfl, z⟩
      · rcases List.mem_cons.mp h with z | z
        · exact absurd z.symm e
        · exact getS_wipe z
theorem backR_len : ∀ {vs : List Nat} {r0 r : Rho}, (backR r0 r vs).length = r.length
  | [], _, _ => rfl
  | v :: vs, r0, r => by unfold backR; rw [List.length_set, backR_len]
theorem getS_back : ∀ {vs : List Nat} {r0 r : Rho} {i : Nat}, getS (backR r0 r vs) i = if i ∈ vs ∧ i < r.length then getS r0 i else getS r i
  | [], r0, r, i => by unfold backR; simp
  | v :: vs, r0, r, i => by
    unfold backR
    rw [getS_set, backR_len]
    by_cases h : v = i ∧ v < r.length
    · rw [if_pos h, if_pos ⟨by rw [h.1]; exact List.mem_cons_self, by rw [← h.1]; exact h.2⟩, h.1]
    · rw [if_neg h, getS_back]
      by_cases h2 : i ∈ vs ∧ i < r.length
      · rw [if_pos h2, if_pos ⟨List.mem_cons_of_mem _ h2.1, h2.2⟩]
      · rw [if_neg h2, if_neg]
        rintro ⟨a, b⟩
        rcases List.mem_cons.mp a with z | z
        · exact h ⟨z.symm, by rw [← z]; exact b⟩
        · exact h2 ⟨z, b⟩
/-- slots that own nothing exchanged -/
theorem Slots.swap : ∀ {r r' : Rho} {s s' : L2.St} {f : List Addr}, Slots K cl G H r s f → r'.length = r.length → s'.length = s.length →
    (∀ i, i < r.length → (getS r' i = getS r i ∧ s'[i]? = s[i]?) ∨ (getS r i = none ∧ ∀ d, getS r' i = some d → ∃ v, s'[i]? = some (some v) ∧ RepF K cl G d v)) → Slots K cl G H r' s' f
  | [], [], [], [], f, h, _, _, _ => h
  | none :: r, x :: r', o :: s, o' :: s', f, h, h1, h2, k => by
    unfold Slots at h
    have ih := Slots.swap (r' := r') (s' := s') h (by simpa using h1) (by simpa using h2) fun i hi => by
      have := k (i + 1) (by simpa using hi)
      simpa only [getS_cons, List.getElem?_cons_succ] using this
    cases x with
    | none => unfold Slots; exact ih
    | some d =>
      rcases k 0 (by simp) with ⟨a, _⟩ | ⟨_, b⟩
      · rw [getS_cons0, getS_cons0] at a; cases a
      · obtain ⟨v, e1, e2⟩ := b d (getS_cons0 _ _)
        unfold Slots
        exact ⟨v, [], f, by simpa using e1, Rep.of_F e2, ih, by simp⟩
  | some y :: r, x :: r', o :: s, o' :: s', f, h, h1, h2, k => by
    unfold Slots at h
    obtain ⟨v, f1, f2, rfl, g1, g2, rfl⟩ := h
    have ih := Slots.swap (r' := r') (s' := s') g2 (by simpa using h1) (by simpa using h2) fun i hi => by
      have := k (i + 1) (by simpa using hi)
      simpa only [getS_cons, List.getElem?_cons_succ] using this
    rcases k 0 (by simp) with ⟨a, b⟩ | ⟨b, _⟩
    · rw [getS_cons0, getS_cons0] at a; subst a
      have b : o' = some v := by simpa using b
      subst b
      unfold Slots
      exact ⟨v, f1, f2, rfl, g1, ih, rfl⟩
    · rw [getS_cons0] at b; cases b
  | _ :: _, [], _, _, _, _, h, _, _ => by simp at h
  | [], _ :: _, _, _, _, _, h, _, _ => by simp at h
  | [], _, _ :: _, _, _, h, _, _, _ => by unfold Slots at h; exact h.elim
  | [], [], [], _ :: _, _, _, _, h, _ => by simp at h
  | none :: _, _, [], _, _, h, _, _, _ => by unfold Slots at h; exact h.elim
  | some _ :: _, _, [], _, _, h, _, _, _ => by unfold Slots at h; exact h.elim
  | _ :: _, _ :: _, _ :: _, [], _, _, _, h, _ => by simp at h
/-- behind a comprehension: its own names as they were -/
theorem Slots.back {G1 H1 : Hp} {r0 r' : Rho} {vs : List Nat} {f0 : List Addr} (h : Slots K cl G H r' (L2.wipe s vs) f) (h0 : Slots K cl G1 H1 r0 s f0) (fr : freeR r0 vs = true) (e : Same G1 G) (hn : ∀ i ∈ vs, getS r' i = none) : Slots K cl G H (backR r0 r' vs) s f := by
  have l1 : r'.length = s.length := by rw [h.len, wipe_length]
  have l2 : r0.length = s.length := h0.len
  refine h.swap backR_len (wipe_length s vs).symm fun i hi => ?_
  rw [getS_back]
  by_cases hv : i ∈ vs
  · refine .inr ⟨hn i hv, fun d hd => ?_⟩
    rw [if_pos ⟨hv, hi⟩] at hd
    obtain ⟨v, f1, fa, fb, h1, h2, _⟩ := h0.at hd
    have ho : d.own = false := by
      have := List.all_eq_true.mp fr i hv
      simpa [hd] using this
    exact ⟨v, h1, RepF.mono e (h2.F ho).1⟩
  · rw [if_neg fun z => hv z.1]
    exact .inl ⟨rfl, (wipe_out hv).symm⟩
/-- an item goes to a target -/
theorem item_bind {p : Bool} {tg : Tg} {d : D} {x : V} {Q : L2.St → Hp → Prop} (o : Ok K cl G H r s f t) (e : Same G0 G) (it : ItemOk K cl p G0 d H x H') (b : bindT tg d r = some r1) (hp : p = true → ∃ l, tg = .t l)
    (q : ∀ s1 f1, Ok K cl G H' r1 s1 f1 t → Ext f G H f1 G H' → (∀ a, H a ≠ none → H' a = H a) → (∀ vs, tgIn vs tg = true → L2.wipe s1 vs = L2.wipe s vs) → Q s1 H') : gT K tg x s H' Q := by
  rcases it with ⟨rfl, h⟩ | ⟨h0, T, a, b', y, z, rfl, hT, rfl, rfl, h1, h2⟩
  · exact bind_F tg d x r r1 s f Q o (RepF.mono e h) b fun s1 f1 o1 u w => q s1 f1 o1 (Ext.sub (f1 := f) Ext.refl u) (fun _ _ => rfl) w
  · obtain ⟨l, rfl⟩ := hp h0
    obtain ⟨o2, e2⟩ := o.fresh (ob := .tup [y, z]) hT
    unfold bindT at b
    obtain ⟨b1, b2⟩ := bind_Fs l [a, b'] [y, z] r r1 s f Q o2 (RepFs.cons (RepF.mono e h1) (RepFs.cons (RepF.mono e h2) RepFs.nil)) b fun s1 f1 o1 u w => q s1 f1 o1 (e2.sub u) (fun a ha => upd_ne fun z => ha (by rw [z]; exact hT)) fun vs hv => w vs (by unfold tgIn at hv; exact hv)
    unfold gT
    exact gTup_of (.inl (.inl upd_same)) b1 b2
end

section
variable {K : PySem.W.Frag} {cl : Cl} {xa : Nat → Value} {W : WX} {P : Phi}
abbrev W0 : WX := fun _ _ _ _ => False
theorem lc_key {vs : List Nat} {tg : Tg} {it : II} {ifs : IEs} {x : IE} {p : Bool} {s : L2.St} {H : Hp} {Q : VK} (hp : p = true → ∃ l, tg = .t l) (hv : tgIn vs tg = true) (h : tE K cl xa W (evalE P (.lc vs tg it ifs x)) s H Q) :
    tLc (tI K cl xa W p (evalI P it)) (gT K tg) (tB (tE K cl xa W0 (evalT P ifs))) (tE K cl xa W0 (evalE P x)) vs s H Q := by
  obtain ⟨G, r, f, t, o, h⟩ := h
  refine ⟨G, r, f, t, o, ?_⟩
  unfold evalE at h
  cases hx : evalI P it r with
  | stuck => simp only [hx] at h; exact h
  | err k r1 => simp only [hx] at h; exact h
  | ok ds r1 =>
    simp only [hx] at h
    intro J G1 H1 f1 o1 e1 w D hD
    split at h
    · rename_i hfr
      have h1 := PostE.base (f1 := f1) (fv := []) h (by simpa using e1)
      clear h
      refine lc_it w (fun i H' => ∃ G' r' f' acc us, Ok K cl G' H' r' (L2.wipe s vs) f' (D :: t) ∧ H' D = some (.lst us) ∧ RepFs K cl G' acc us ∧ Ext f1 G1 H1 f' G' H' ∧ (∀ i ∈ vs, getS r' i = none) ∧
        PostE K cl xa W s G1 H1 f1 ([] ++ t) (fun _ _ v _ _ H' _ => Q v H') (match lcGo vs (bindT tg) (fun r => evalT P ifs r) (fun r => evalE P x r) (ds.drop i) r' acc with
          | .ok o r2 => .ok o (backR r1 r2 vs)
          | _ => .stuck)) ?_ ?_ ?_ ?_
      · obtain ⟨f2, o2, sub⟩ := o1.wipe vs
        obtain ⟨o3, e3⟩ := o2.new (New.lst (G := G1) (H := H1) (ds := []) (vs := []) (p := D) o1.gh RepFs.nil hD)
        exact ⟨G1, _, f2, [], [], o3, upd_same, RepFs.nil, (Ext.trans (Ext.sub (f1 := f1) Ext.refl sub) e3 fun _ z => z).sub fun a ha => List.mem_append_left _ ha, fun i hi => getS_wipe hi, h1⟩
      · rintro i H' hi ⟨G', r', f', acc, us, o2, _, _, e2, _⟩
        exact e2.gs.trans o2.gh
      · rintro i y H2 H3 hi ⟨G', r', f', acc, us, o2, hDu, ru, e2, hno, hpost⟩ ⟨d, hd, item⟩
        have hdr : ds.drop i = d :: ds.drop (i + 1) := by
          obtain ⟨hlt, e⟩ := List.getElem?_eq_some_iff.mp hd
          rw [List.drop_eq_getElem_cons hlt, e]
        rw [hdr] at hpost
        unfold lcGo at hpost
        cases hb : bindT tg d r' with
        | none => simp only [hb] at hpost; exact hpost.elim
        | some r2 =>
          simp only [hb] at hpost
          refine item_bind o2 e2.gs item hb hp fun s1 f3 o3 e3 kp hw0 => ?_
          have hw : L2.wipe s1 vs = L2.wipe s vs := (hw0 vs hv).trans wipe_idem
          refine ⟨hw, G', r2, f3, D :: t, o3, ?_⟩
          have hD3 : H3 D = some (.lst us) := (kp D (by rw [hDu]; simp)).trans hDu
          cases ht : evalT P ifs r2 with
          | stuck => simp only [ht, RE.get] at hpost; exact hpost.elim
          | err k r3 => simp only [ht, RE.get] at hpost; exact hpost.elim
          | ok od r3 =>
            simp only [ht, RE.get] at hpost
            intro v fv G4 H4 f4 o4 e4 i4
            cases eo : od.get r3 with
            | none => simp only [eo] at hpost; exact hpost.elim
            | some dd =>
              simp only [eo] at hpost
              obtain ⟨fx, rd⟩ := i4.rep o4 eo
              have e24 := (e2.trans e3 fun _ z => z).trans e4 fun _ z => z
              have hD4 : H4 D = some (.lst us) := (o3.temp e4 (by simp)).trans hD3
              have ru4 := RepFs.mono (e3.gs.trans e4.gs) ru
              cases dd with
              | bl b =>
                refine ⟨b, rd.bl, ?_⟩
                cases b with
                | false =>
                  simp only [Bool.false_eq_true, if_false]
                  simp only at hpost
                  obtain ⟨f5, o5, sub⟩ := (o4.tail).wipe vs
                  rw [hw] at o5
                  exact ⟨G4, _, f5, acc, us, o5, hD4, ru4, e24.sub fun a ha => List.mem_append_left _ (sub a ha), fun i hi => getS_wipe hi, hpost⟩
                | true =>
                  simp only [if_true]
                  simp only at hpost
                  refine ⟨G4, r3, f4, D :: t, o4.tail, ?_⟩
                  cases hz : evalE P x r3 with
                  | stuck => simp only [hz] at hpost; exact hpost.elim
                  | err k r4 => simp only [hz] at hpost; exact hpost.elim
                  | ok od4 r4 =>
                    cases od4 with
                    | slot i => simp only [hz] at hpost; exact hpost.elim
                    | val z =>
                      simp only [hz] at hpost
                      by_cases hlen' : odD z = false ∧ acc.length < sizeLine
                      · rw [if_pos hlen'] at hpost
                        obtain ⟨hod, hlen⟩ := hlen'
                        intro v5 fv5 G5 H5 f5 o5 e5 i5
                        obtain ⟨o6, e6, rf⟩ := o5.frz hod i5
                        have hD5 : H5 D = some (.lst us) := ((o4.tail).temp e5 (by simp)).trans hD4
                        have e46 : Ext f4 G4 H4 f5 (gHp G5 H5 fv5) H5 := e5.trans e6 fun _ z => z
                        refine ⟨us, hD5, by rw [← ru.len]; exact hlen, ?_⟩
                        obtain ⟨f7, o7, sub⟩ := o6.wipe vs
                        rw [hw] at o7
                        have e16 : Ext f1 G1 H1 f5 (gHp G5 H5 fv5) H5 := (e24.sub fun a ha => List.mem_append_left _ ha).trans e46 fun _ z => z
                        refine ⟨_, _, f7, acc ++ [z.frz], us ++ [v5], o7.updT (by simp), upd_same, RepFs.app (RepFs.mono e46.gs ru4) (RepFs.cons rf RepFs.nil), ?_, fun i hi => getS_wipe hi, hpost⟩
                        refine ⟨fun a h1 h2 => ?_, fun a h1 => ?_, e16.gs, e16.gn, fun a ha => e16.fn a (sub a ha)⟩
                        · rw [upd_ne fun z => h1 (by rw [z]; exact hD)]; exact e16.keep a h1 h2
                        · rw [upd_ne fun z => h1 (by rw [z]; exact hD)]; exact e16.there a h1
                      · rw [if_neg hlen'] at hpost; exact hpost.elim
              | _ => exact hpost.elim
      · rintro H' ⟨G', r', f', acc, us, o2, hDu, ru, e2, hno, hpost⟩
        rw [List.drop_length] at hpost
        unfold lcGo at hpost
        have sl := o2.sl.back o1.sl hfr e2.gs hno
        refine hpost (.ref D) [D] G' H' f' ⟨sl, o2.nd, o2.fr, o2.gh, o2.th⟩ ⟨e2.keep, e2.there, e2.gs, e2.gn, fun a ha => ?_⟩ ⟨D, us, rfl, hDu, ru, rfl⟩
        rcases List.mem_append.mp ha with z | z
        · exact e2.fn a z
        · simp at z; subst z; exact .inr hD
    · exact h.elim
end
end GF
namespace GF
open PySem L2 PySem.Spec PyProof.Rows

/-! ## dict comprehensions -/
theorem putV_V {K : PySem.W.Frag} {cl : Cl} {G : Hp} {j : Key} {d : D} {x : V} (hd : RepF K cl G d x) : ∀ {kvs : List (Key × V)} {ds : List D}, RepFs K cl G ds (kvs.map (·.2)) → RepFs K cl G (putV j d (kvs.map (·.1)) ds) ((kvs.map fun kv => if kv.1 = j then (kv.1, x) else kv).map (·.2))
  | [], ds, h => by
    have := h.nilD
    subst this
    exact RepFs.nil
  | (k, v) :: kvs, ds, h => by
    cases ds with
    | nil => have := h.len; simp at this
    | cons e ds =>
      unfold RepFs at h
      obtain ⟨v', r', e1, h1, h2⟩ := h
      simp only [List.map_cons, List.cons.injEq] at e1
      obtain ⟨rfl, rfl⟩ := e1
      simp only [List.map_cons, putV]
      refine RepFs.cons ?_ (putV_V hd h2)
      by_cases q : k = j
      · simp only [q, if_true]; exact hd
      · simp only [q, if_false]; exact h1
theorem keysD_app : ∀ {ks : List D} {js : List Key} {k : D} {j : Key}, keysD ks = some js → keyD k = some j → keysD (ks ++ [k]) = some (js ++ [j])
  | [], js, k, j, h, e => by cases h; simp [keysD, e]
  | d :: ks, js, k, j, h, e => by
    unfold keysD at h
    cases e1 : keyD d with
    | none => rw [e1] at h; cases h
    | some i =>
      cases e2 : keysD ks with
      | none => rw [e1, e2] at h; cases h
      | some is =>
        rw [e1, e2] at h
        cases h
        simp [keysD, e1, keysD_app e2 e]

/-- stored at a key: the dict's object says the same -/
theorem dctPut_V {K : PySem.W.Frag} {cl : Cl} {G : Hp} {ks vs : List D} {kvs : List (Key × V)} {kd y : D} {v : V} {p : List D × List D} {j : Key} (hk : keysD ks = some (kvs.map (·.1))) (hv : RepFs K cl G vs (kvs.map (·.2))) (rf : RepF K cl G y v) (ek : keyD kd = some j) (h : dctPut ks vs kd y = some p) :
    keysD p.1 = some ((putK kvs j v).map (·.1)) ∧ RepFs K cl G p.2 ((putK kvs j v).map (·.2)) := by
  unfold dctPut at h
  rw [hk, ek] at h
  dsimp only at h
  have hany : (kvs.any fun kv => decide (kv.1 = j)) = (kvs.map (·.1)).any fun i => decide (i = j) := by rw [List.any_map]; rfl
  by_cases hin : ((kvs.map (·.1)).any fun i => decide (i = j)) = true
  · rw [if_pos hin] at h
    cases h
    refine ⟨?_, ?_⟩
    · unfold putK
      rw [hany, if_pos hin, hk, List.map_map]
      congr 1
      apply List.map_congr_left
      intro kv _
      by_cases z : kv.1 = j <;> simp [z]
    · unfold putK
      rw [hany, if_pos hin]
      exact putV_V rf hv
  · rw [if_neg hin] at h
    cases h
    refine ⟨?_, ?_⟩
    · unfold putK
      rw [hany, if_neg hin, keysD_app hk ek, List.map_append]
      rfl
    · unfold putK
      rw [hany, if_neg hin, List.map_append]
      exact RepFs.app hv (RepFs.cons rf RepFs.nil)
theorem dc_it {J : It} {n : Nat} {G : Hp → Prop} {Y : Nat → Hp → V → Hp → Prop} (w : Walk J n G Y) {g : TG} {tt : TT} {tk tv : TE} {vs : List Nat} {σ : L2.St} {H1 : Hp} {D : Addr} {Qd : Hp → Prop} (Pv : Nat → Hp → Prop) (h0 : Pv 0 (upd H1 D (.dK []))) (hG : ∀ i H, i ≤ n → Pv i H → G H)
    (hs : ∀ i x H H', i < n → Pv i H → Y i H x H' → g x (wipe σ vs) H' fun σ2 H2 => wipe σ2 vs = wipe σ vs ∧ tt σ2 H2 fun b H3 =>
      if b = true then tk σ2 H3 fun y H4 => tv σ2 H4 fun z H5 => ∃ kvs k, y = kV k ∧ H5 D = some (.dK kvs) ∧ kvs.length < sizeLine ∧ Pv (i + 1) (upd H5 D (.dK (putK kvs k z))) else Pv (i + 1) H3) (hd : ∀ H, Pv n H → Qd H) :
    ∃ W : Nat → Nat → Hp → Prop, (∃ m, W 0 m (upd H1 D (.dK []))) ∧ ∀ i m H, W i m H →
      (J.stop i H ∧ Qd H) ∨ (J.go i H ∧ ∃ Nx : Hp → Prop, (∀ H', Nx H' → ∃ m', m' < m ∧ W (i + 1) m' H') ∧ ∀ x H', J.yld i H x H' → g x (wipe σ vs) H' fun σ2 H2 => wipe σ2 vs = wipe σ vs ∧ tt σ2 H2 fun b H3 =>
        if b = true then tk σ2 H3 fun y H4 => tv σ2 H4 fun z H5 => ∃ kvs k, y = kV k ∧ H5 D = some (.dK kvs) ∧ kvs.length < sizeLine ∧ Nx (upd H5 D (.dK (putK kvs k z))) else Nx H3) := by
  refine ⟨fun i m H => m = n - i ∧ i ≤ n ∧ Pv i H, ⟨n, by simp, Nat.zero_le _, h0⟩, ?_⟩
  rintro i m H ⟨rfl, hi, p⟩
  have q := hG i H hi p
  by_cases hlt : i < n
  · refine .inr ⟨w.goes i H hlt q, Pv (i + 1), fun H' p' => ⟨n - (i + 1), by omega, rfl, hlt, p'⟩, fun x H' y => hs i x H H' hlt p (w.yields i H x H' hlt q y)⟩
  · have e : i = n := by omega
    subst e
    exact .inl ⟨w.stops H q, hd H p⟩
section
variable {K : PySem.W.Frag} {cl : Cl} {xa : Nat → Value} {W : WX} {P : Phi}
theorem dc_key {vs : List Nat} {tg : Tg} {it : II} {ifs : IEs} {kx x : IE} {p : Bool} {s : L2.St} {H : Hp} {Q : VK} (hp : p = true → ∃ l, tg = .t l) (hv : tgIn vs tg = true) (h : tE K cl xa W (evalE P (.dc vs tg it ifs kx x)) s H Q) :
    tDc (tI K cl xa W p (evalI P it)) (gT K tg) (tB (tE K cl xa W0 (evalT P ifs))) (tE K cl xa W0 (evalE P kx)) (tE K cl xa W0 (evalE P x)) vs s H Q := by
  obtain ⟨G, r, f, t, o, h⟩ := h
  refine ⟨G, r, f, t, o, ?_⟩
  unfold evalE at h
  cases hx : evalI P it r with
  | stuck => simp only [hx] at h; exact h
  | err k r1 => simp only [hx] at h; exact h
  | ok ds r1 =>
    simp only [hx] at h
    intro J G1 H1 f1 o1 e1 w D hD
    split at h
    · rename_i hfr
      have h1 := PostE.base (f1 := f1) (fv := []) h (by simpa using e1)
      clear h
      refine dc_it w (fun i H' => ∃ G' r' f' ks us kvs, Ok K cl G' H' r' (L2.wipe s vs) f' (D :: t) ∧ H' D = some (.dK kvs) ∧ keysD ks = some (kvs.map (·.1)) ∧ RepFs K cl G' us (kvs.map (·.2)) ∧ Ext f1 G1 H1 f' G' H' ∧ (∀ i ∈ vs, getS r' i = none) ∧
        PostE K cl xa W s G1 H1 f1 ([] ++ t) (fun _ _ v _ _ H' _ => Q v H') (match dcGo vs (bindT tg) (fun r => evalT P ifs r) (fun r => evalE P kx r) (fun r => evalE P x r) (ds.drop i) r' ks us with
          | .ok o r2 => .ok o (backR r1 r2 vs)
          | _ => .stuck)) ?_ ?_ ?_ ?_
      · obtain ⟨f2, o2, sub⟩ := o1.wipe vs
        obtain ⟨o3, e3⟩ := o2.new (New.dnew (cl := cl) (K := K) (G := G1) (H := H1) (p := D) o1.gh hD)
        exact ⟨G1, _, f2, [], [], [], o3, upd_same, rfl, RepFs.nil, (Ext.trans (Ext.sub (f1 := f1) Ext.refl sub) e3 fun _ z => z).sub fun a ha => List.mem_append_left _ ha, fun i hi => getS_wipe hi, h1⟩
      · rintro i H' hi ⟨G', r', f', ks, us, kvs, o2, _, _, _, e2, _⟩
        exact e2.gs.trans o2.gh
      · rintro i y H2 H3 hi ⟨G', r', f', ks, us, kvs, o2, hDu, hks, ru, e2, hno, hpost⟩ ⟨d, hd, item⟩
        have hdr : ds.drop i = d :: ds.drop (i + 1) := by
          obtain ⟨hlt, e⟩ := List.getElem?_eq_some_iff.mp hd
          rw [List.drop_eq_getElem_cons hlt, e]
        rw [hdr] at hpost
        unfold dcGo at hpost
        cases hb : bindT tg d r' with
        | none => simp only [hb] at hpost; exact hpost.elim
        | some r2 =>
          simp only [hb] at hpost
          refine item_bind o2 e2.gs item hb hp fun s1 f3 o3 e3 kp hw0 => ?_
          have hw : L2.wipe s1 vs = L2.wipe s vs := (hw0 vs hv).trans wipe_idem
          refine ⟨hw, G', r2, f3, D :: t, o3, ?_⟩
          have hD3 : H3 D = some (.dK kvs) := (kp D (by rw [hDu]; simp)).trans hDu
          cases ht : evalT P ifs r2 with
          | stuck => simp only [ht, RE.get] at hpost; exact hpost.elim
          | err k r3 => simp only [ht, RE.get] at hpost; exact hpost.elim
          | ok od r3 =>
            simp only [ht, RE.get] at hpost
            intro v fv G4 H4 f4 o4 e4 i4
            cases eo : od.get r3 with
            | none => simp only [eo] at hpost; exact hpost.elim
            | some dd =>
              simp only [eo] at hpost
              obtain ⟨fx, rd⟩ := i4.rep o4 eo
              have e24 := (e2.trans e3 fun _ z => z).trans e4 fun _ z => z
              have hD4 : H4 D = some (.dK kvs) := (o3.temp e4 (by simp)).trans hD3
              have ru4 := RepFs.mono (e3.gs.trans e4.gs) ru
              cases dd with
              | bl b =>
                refine ⟨b, rd.bl, ?_⟩
                cases b with
                | false =>
                  simp only [Bool.false_eq_true, if_false]
                  simp only at hpost
                  obtain ⟨f5, o5, sub⟩ := (o4.tail).wipe vs
                  rw [hw] at o5
                  exact ⟨G4, _, f5, ks, us, kvs, o5, hD4, hks, ru4, e24.sub fun a ha => List.mem_append_left _ (sub a ha), fun i hi => getS_wipe hi, hpost⟩
                | true =>
                  simp only [if_true]
                  simp only at hpost
                  refine ⟨G4, r3, f4, D :: t, o4.tail, ?_⟩
                  cases hkz : evalE P kx r3 with
                  | stuck => simp only [hkz] at hpost; exact hpost.elim
                  | err k r4 => simp only [hkz] at hpost; exact hpost.elim
                  | ok odk r4 =>
                    simp only [hkz] at hpost
                    intro vk fk Gk Hk fk' ok ek ik
                    cases eok : odk.get r4 with
                    | none => simp only [eok] at hpost; exact hpost.elim
                    | some kd =>
                      simp only [eok] at hpost
                      obtain ⟨fxk, rdk⟩ := ik.rep ok eok
                      have hDk : Hk D = some (.dK kvs) := ((o4.tail).temp ek (by simp)).trans hD4
                      refine ⟨Gk, r4, fk', D :: t, ok.tail, ?_⟩
                      cases hz : evalE P x r4 with
                      | stuck => simp only [hz] at hpost; exact hpost.elim
                      | err k r5 => simp only [hz] at hpost; exact hpost.elim
                      | ok od4 r5 =>
                        cases od4 with
                        | slot i => simp only [hz] at hpost; exact hpost.elim
                        | val z =>
                          simp only [hz] at hpost
                          by_cases hlen' : odD z = false ∧ ks.length < sizeLine
                          · rw [if_pos hlen'] at hpost
                            obtain ⟨hod, hlen⟩ := hlen'
                            cases hput : dctPut ks us kd z.frz with
                            | none => simp only [hput] at hpost; exact hpost.elim
                            | some pr =>
                              simp only [hput] at hpost
                              have hkd : ∃ j, keyD kd = some j := by
                                unfold dctPut at hput
                                rw [hks] at hput
                                cases e : keyD kd with
                                | none => rw [e] at hput; cases hput
                                | some j => exact ⟨j, rfl⟩
                              obtain ⟨j, hj⟩ := hkd
                              intro v5 fv5 G5 H5 f5 o5 e5 i5
                              obtain ⟨o6, e6, rf⟩ := o5.frz hod i5
                              have hD5 : H5 D = some (.dK kvs) := ((ok.tail).temp e5 (by simp)).trans hDk
                              have e46 : Ext fk' Gk Hk f5 (gHp G5 H5 fv5) H5 := e5.trans e6 fun _ z => z
                              have hkl : kvs.length < sizeLine := by
                                have e := (keysD_V (K := K) (cl := cl) (G := G4) hks).len
                                rw [List.length_map, List.length_map] at e
                                omega
                              refine ⟨kvs, j, keyD_V rdk hj, hD5, hkl, ?_⟩
                              obtain ⟨f7, o7, sub⟩ := o6.wipe vs
                              rw [hw] at o7
                              have e1k : Ext f1 G1 H1 fk' Gk Hk := ((e24.sub fun a ha => List.mem_append_left _ ha).trans ek fun _ z => z).sub fun a ha => List.mem_append_left _ ha
                              have e16 : Ext f1 G1 H1 f5 (gHp G5 H5 fv5) H5 := e1k.trans e46 fun _ z => z
                              obtain ⟨q1, q2⟩ := dctPut_V hks (RepFs.mono (ek.gs.trans e46.gs) ru4) rf hj hput
                              refine ⟨_, _, f7, pr.1, pr.2, putK kvs j v5, o7.updT (by simp), upd_same, q1, q2, ?_, fun i hi => getS_wipe hi, hpost⟩
                              refine ⟨fun a h1 h2 => ?_, fun a h1 => ?_, e16.gs, e16.gn, fun a ha => e16.fn a (sub a ha)⟩
                              · rw [upd_ne fun z => h1 (by rw [z]; exact hD)]; exact e16.keep a h1 h2
                              · rw [upd_ne fun z => h1 (by rw [z]; exact hD)]; exact e16.there a h1
                          · rw [if_neg hlen'] at hpost; exact hpost.elim
              | _ => exact hpost.elim
      · rintro H' ⟨G', r', f', ks, us, kvs, o2, hDu, hks, ru, e2, hno, hpost⟩
        rw [List.drop_length] at hpost
        unfold dcGo at hpost
        have sl := o2.sl.back o1.sl hfr e2.gs hno
        refine hpost (.ref D) [D] G' H' f' ⟨sl, o2.nd, o2.fr, o2.gh, o2.th⟩ ⟨e2.keep, e2.there, e2.gs, e2.gn, fun a ha => ?_⟩ ⟨D, kvs, rfl, hDu, hks, ru, rfl⟩
        rcases List.mem_append.mp ha with z | z
        · exact e2.fn a z
        · simp at z; subst z; exact .inr hD
    · exact h.elim
end
section
variable {X : Cx}
/-- name = {..} on one line, the name a local -/
theorem ps_setDc {i : Nat} {y : Str} {py : Pos} {kx vx tg iter : Expr} {ifs : List Expr} {scope : Scope} {own : List (Str × Nat)} {pos spos : Pos} {wi : TI} {g : TG} {tt : TT} {tk tv : TE} (hc : X.calm = true) (hN : X.N.Nodup) (hy : X.N[i]? = some y) (hyl : X.env.scope.names.lookup y = some .local)
    (hsw : swapsWith (.DictComp kx vx [⟨tg, iter, ifs, 0⟩] scope pos) (some (.Name y py)) spos.line X.env = pure true) (hi : PI X tg iter wi) (ok : BlkOk X.N X.env.scope scope own)
    (hg : ∀ (s : Shared) (H : Hp) (C : Addr) (cl : List (Str × Addr)) (fp : List Addr), PG (X.blk s H scope (compEnvC scope cl C X.env) fp) tg g) (ht : ∀ (s : Shared) (H : Hp) (C : Addr) (cl : List (Str × Addr)) (fp : List Addr), PTs (X.blk s H scope (compEnvC scope cl C X.env) fp) ifs tt)
    (hk : ∀ (s : Shared) (H : Hp) (C : Addr) (cl : List (Str × Addr)) (fp : List Addr), PE (X.blk s H scope (compEnvC scope cl C X.env) fp) kx tk)
    (he : ∀ (s : Shared) (H : Hp) (C : Addr) (cl : List (Str × Addr)) (fp : List Addr), PE (X.blk s H scope (compEnvC scope cl C X.env) fp) vx tv) (hs : ∀ x, foldedSetIterable iter X.env x = pure x) :
    PS X (.Assign [.Name y py] (.DictComp kx vx [⟨tg, iter, ifs, 0⟩] scope pos) spos) (tAsg (tPin (tDc wi g tt tk tv (own.map (·.2)))) (gName i)) := by
  refine ⟨fun pins s σ H D I h => ?_⟩
  rw [exec_Assign_Name_used _ _ _ _ hsw]
  refine wpAny_bind (wpAny_standAt (wpAny_bind ?_))
  show wpAny _ X.A (do let _ ← comprehension (.DictComp kx vx [⟨tg, iter, ifs, 0⟩] scope pos) scope X.env (firstIterPos [⟨tg, iter, ifs, 0⟩] pos) newDict false (eval iter X.env) (some (assign (.Name y py) X.env))) _ _ s
  have h : tDc wi g tt tk tv (own.map (·.2)) σ H (fun v H' => (∃ a kvs, v = .ref a ∧ H' a = some (.dK kvs) ∧ ∀ ob, gName i v σ (upd H' a (.frz ob (.dK kvs))) D.nx) ∨ gName i v σ H' D.nx) := h
  have fin : ∀ (L C : Addr) (s' : Shared) (m : Str → Option Value) (H' : Hp), L2.Inv X pins σ H' s' → gName i (.ref L) σ H' D.nx → s'.heap.Ns C m → FpOk X pins H' C → compPost (model X.prog X.w) X.A X.xe (some (assign (.Name y py) X.env)) (fun _ s' => SP X pins D .next s') (.ref L) C (.ok .next) s' := by
    intro L C s' m H' I' q hn f
    show wpAny _ _ (assign (.Name y py) X.env (.ref L)) _ _ _
    refine wpAny_assign_Name (store_ok2 (v := V.ref L) I' hN hy (.inl hyl) rfl (fun s2 I2 ⟨a, sb, ha⟩ => ?_) (.inr hyl))
    obtain ⟨f0, f1, f2, f3, f4, f5⟩ := f
    have haC : C ≠ a := by
      rcases ha with z | z
      · rw [z]; exact f1
      · exact fun e => f4 y a z e.symm
    refine ⟨m, hn.sameBut sb haC, fun h3 sb3 => ?_⟩
    exact ⟨_, H', I2.turned (t' := s2.toks) (fun b o hb e => (sb3.2 b hb).trans e) f0 f1 f3 f4 f5, q⟩
  refine wpAny_bind (thn (dc_core (Qf := fun _ s' => SP X pins D .next s') hc hN I hi ok hg ht hk he hs h fun L C s' m H' I' q hn f => ?_) fun _ s' hq => wpAny_pure (wpAny_pure hq))
  rcases q with ⟨a, kvs, e1, e2, q⟩ | q
  · obtain ⟨ob, I2⟩ := I'.lock e2 trivial
    have hne : C ≠ a := fun e => by
      have := f.1
      rw [e, e2] at this
      cases this
    exact fin L C s' m _ I2 (q ob) hn ⟨by rw [upd_ne hne]; exact f.1, f.2⟩
  · exact fin L C s' m H' I' q hn f
end
end GF
namespace GF
open PySem L2 PySem.Spec PyProof.Rows

/-! ## a dict comprehension into a dict of any kind -/
/-- a key stored, the dict of any kind -/
def DStep (P : Program) (w : World) (K : PySem.W.Frag) {T0 : Type} (U : Addr → T0 → HO) (stp : T0 → V → V → Hp → T0 → Prop) : Prop :=
  ∀ (Y : Cx) (pins : List (Addr × Obj)) (σ : L2.St) (H : Hp) (s : Shared) (E : Value → Shared → Prop) (D : Addr) (t : T0) (y z : V) (u r : Value) (Q : Unit → Shared → Prop) (t' : T0), Y.prog = P → Y.w = w → Y.K = K → Y.A.units + 65 < cLine →
    L2.Inv Y pins σ H s → H D = some (U D t) → stp t y z H t' → RelV y u → RelV z r → (∀ s', L2.Inv Y pins σ (upd H D (U D t')) s' → Q () s') → wpAny (model P w) Y.A (dictSet D u r) Q E s
def tDcX {T0 : Type} (U : Addr → T0 → HO) (t0 : T0) (stp : T0 → V → V → Hp → T0 → Prop) (wi : TI) (g : TG) (tt : TT) (tk tv : TE) (vs : List Nat) : TE := fun σ H Q => wi σ H fun J H1 => ∀ D, H1 D = none → ∃ W : Nat → Nat → Hp → Prop, (∃ m, W 0 m (upd H1 D (U D t0))) ∧ ∀ i m H, W i m H →
  (J.stop i H ∧ Q (.ref D) H) ∨ (J.go i H ∧ ∃ Nx : Hp → Prop, (∀ H', Nx H' → ∃ m', m' < m ∧ W (i + 1) m' H') ∧ ∀ x H', J.yld i H x H' → g x (wipe σ vs) H' fun σ2 H2 => wipe σ2 vs = wipe σ vs ∧ tt σ2 H2 fun b H3 =>
    if b = true then tk σ2 H3 fun y H4 => tv σ2 H4 fun z H5 => ∃ t t', stp t y z H5 t' ∧ H5 D = some (U D t) ∧ Nx (upd H5 D (U D t')) else Nx H3)
section
variable {X : Cx}
theorem dcX_core {pins : List (Addr × Obj)} {s : Shared} {σ : L2.St} {H : Hp} {Q : VK} {kx vx tg iter : Expr} {ifs : List Expr} {scope : Scope} {own : List (Str × Nat)} {pos pos' : Pos} {wi : TI} {g : TG} {tt : TT} {tk tv : TE} {T0 : Type} {U : Addr → T0 → HO} {t0 : T0} {stp : T0 → V → V → Hp → T0 → Prop} {use : Option (Value → Sem Unit)} {Qf : Value → Shared → Prop}
    (hc : X.calm = true) (hN : X.N.Nodup) (I : L2.Inv X pins σ H s) (hi : PI X tg iter wi) (ok : BlkOk X.N X.env.scope scope own)
    (hg : ∀ (s : Shared) (H : Hp) (C : Addr) (cl : List (Str × Addr)) (fp : List Addr), PG (X.blk s H scope (compEnvC scope cl C X.env) fp) tg g) (ht : ∀ (s : Shared) (H : Hp) (C : Addr) (cl : List (Str × Addr)) (fp : List Addr), PTs (X.blk s H scope (compEnvC scope cl C X.env) fp) ifs tt)
    (hk : ∀ (s : Shared) (H : Hp) (C : Addr) (cl : List (Str × Addr)) (fp : List Addr), PE (X.blk s H scope (compEnvC scope cl C X.env) fp) kx tk)
    (he : ∀ (s : Shared) (H : Hp) (C : Addr) (cl : List (Str × Addr)) (fp : List Addr), PE (X.blk s H scope (compEnvC scope cl C X.env) fp) vx tv) (hs : ∀ x, foldedSetIterable iter X.env x = pure x)
    (hU : ∀ (H : Hp) (h : Heap), sysModules < h.objs.size → ObjOk X.prog X.w H (h.push { cls := .type "dict", data := .dict #[] }) h.objs.size (U h.objs.size t0)) (hS : DStep X.prog X.w X.K U stp) (hu : X.A.units + 65 < cLine)
    (h : tDcX U t0 stp wi g tt tk tv (own.map (·.2)) σ H Q)
    (hRR : ∀ D C s' m H', L2.Inv X pins σ H' s' → Q (.ref D) H' → s'.heap.Ns C m → FpOk X pins H' C → compPost (model X.prog X.w) X.A X.xe use Qf (.ref D) C (.ok .next) s') :
    wpAny (model X.prog X.w) X.A (comprehension (.DictComp kx vx [⟨tg, iter, ifs, 0⟩] scope pos) scope X.env pos' newDict false (eval iter X.env) use) Qf X.xe s := by
  have hfree : ∀ y ∈ scope.names, y.2 = .free → ∃ c, X.env.cells.lookup y.1 = some c := fun y hy e => by
    rcases ok.free y hy e with k | k
    · exact I.ok.has _ (.inl k)
    · exact I.ok.has _ (.inr k)
  refine wpAny_comprehension_free (use := use) rfl hs (closure_ok hfree) ok.kind (fun y hy e => by rw [ok.uniq y hy, e])
    (thn (hi.run pins s σ H _ I h) fun xv s1 hx => thn hx fun itv s2 h2 => ?_)
  obtain ⟨it, fp, tn, J, H2, e, I2, T, st2, f2, q⟩ := h2
  subst e
  refine wpAny_newObj_type (newEnv_comp ?_)
  generalize hD : s2.heap.objs.size = D
  have hDn : H2 D = none := I2.hok.fresh (Nat.le_of_eq hD)
  obtain ⟨W, ⟨m0, w0⟩, turn⟩ := q D hDn
  -- the new list
  generalize hs3 : ({ s2 with heap := s2.heap.push { cls := .type "dict", data := .dict #[] } } : Shared) = s3
  have I3 : L2.Inv X pins σ (upd H2 D (U D t0)) s3 := by
    rw [← hs3]
    refine I2.laid (t' := s2.toks) (fun b o e => Heap.get?_push_of_some _ e) (Nat.le_of_eq hD) ?_
    rw [← hD]
    rw [show (U s2.heap.objs.size t0) = U s2.heap.objs.size t0 from rfl]; exact hU _ s2.heap I2.big
  have h3 : s3.heap = s2.heap.push { cls := .type "dict", data := .dict #[] } := by rw [← hs3]
  have sz : ∀ b ∈ fp, b < s2.heap.objs.size := fun b hb => by
    obtain ⟨o, e, _⟩ := T.obj _ _ st2 b hb
    exact Heap.lt_size e
  have f3 : ∀ b ∈ fp, FpOk X pins (upd H2 D (U D t0)) b ∧ b < s3.heap.objs.size := fun b hb => by
    have hlt := sz b hb
    refine ⟨⟨?_, (f2 b hb).2⟩, by rw [h3, Heap.size_push]; exact Nat.lt_succ_of_lt hlt⟩
    rw [upd_ne (by rw [← hD]; exact Nat.ne_of_lt hlt)]
    exact (f2 b hb).1
  have st3 : tn 0 s3.heap := T.keep _ _ _ st2 fun b _ o e => by rw [h3]; exact Heap.get?_push_of_some _ e
  have I4 := block_start I3 ok hN f3
  have pg := hg s3 (upd H2 D (U D t0)) s3.heap.objs.size (cellsFrom (s3.heap.objs.size + 1) scope.names (cloFrom X.env.cells scope.names [])) fp
  have pt := ht s3 (upd H2 D (U D t0)) s3.heap.objs.size (cellsFrom (s3.heap.objs.size + 1) scope.names (cloFrom X.env.cells scope.names [])) fp
  have pk := hk s3 (upd H2 D (U D t0)) s3.heap.objs.size (cellsFrom (s3.heap.objs.size + 1) scope.names (cloFrom X.env.cells scope.names [])) fp
  have pe := he s3 (upd H2 D (U D t0)) s3.heap.objs.size (cellsFrom (s3.heap.objs.size + 1) scope.names (cloFrom X.env.cells scope.names [])) fp
  show codeAny _ _ (.compStart (.DictComp kx vx [⟨tg, iter, ifs, 0⟩] scope pos) 0 (.ref it) (.ref D) (compEnvC scope (cellsFrom (s3.heap.objs.size + 1) scope.names (cloFrom X.env.cells scope.names [])) s3.heap.objs.size X.env)) (compPost (model X.prog X.w) X.A X.xe use Qf (.ref D) s3.heap.objs.size) { s3 with heap := pushCells (s3.heap.push { cls := .type "dict", data := .dict #[] }) scope.names }
  have nfp : ∀ b ∈ fp, (upd H2 D (U D t0)) b = none := fun b hb => (f3 b hb).1.1
  generalize hce : compEnvC scope (cellsFrom (s3.heap.objs.size + 1) scope.names (cloFrom X.env.cells scope.names [])) s3.heap.objs.size X.env = ce at I4 pg pt pk pe ⊢
  have cL : ce.locals = s3.heap.objs.size := by subst hce; rfl
  generalize hH3 : upd H2 D (U D t0) = H3 at I3 I4 pg pt pk pe w0 nfp f3
  generalize hs4 : ({ s3 with heap := pushCells (s3.heap.push { cls := .type "dict", data := .dict #[] }) scope.names } : Shared) = s4 at I4 ⊢
  have st4 : tn 0 s4.heap := T.keep _ _ _ st3 fun b _ o e => by rw [← hs4]; exact pushCells_keeps _ _ _ _ (Heap.get?_push_of_some _ e)
  have stat : ∀ {σ' : L2.St} {H' : Hp} {s' : Shared}, L2.Inv (X.blk s3 H3 scope ce fp) [] σ' H' s' → (∀ b ∈ fp, H' b = none) → ∀ b ∈ fp, FpOk (X.blk s3 H3 scope ce fp) [] H' b := fun {σ' H' s'} I' hn b hb =>
    ⟨hn b hb, (I'.ok.exf b hb).1, I'.ok.exfs b hb, .inl hb, fun x c e => (I'.ok.exf b hb).2 x c e, fun p hp => absurd (show p ∈ ([] : List (Addr × Obj)) ++ [] from hp) (by simp)⟩
  have loop : codeAny (model X.prog X.w) X.A (.compLoop (.DictComp kx vx [⟨tg, iter, ifs, 0⟩] scope pos) 0 (.ref it) (.ref D) ce) (compPost (model X.prog X.w) X.A X.xe use Qf (.ref D) s3.heap.objs.size) s4 := by
    refine compLoop_anyD (fun n s' => ∃ i H', L2.Inv (X.blk s3 H3 scope ce fp) [] (wipe σ (own.map (·.2))) H' s' ∧ tn i s'.heap ∧ (∀ b ∈ fp, H' b = none) ∧ W i n H') ?_ m0 ⟨0, H3, I4, st4, nfp, w0⟩
    rintro n s5 ⟨i, H5, I5, st5, n5, w5⟩
    rcases turn i n H5 w5 with ⟨stop, qq⟩ | ⟨go, Nx, hNx, step⟩
    · have td := T.done (X.blk s3 H3 scope ce fp) rfl rfl rfl hc i [] s5 _ H5 (fun _ _ => False) I5 (stat I5 n5) st5 stop
      refine thnF td fun r s6 ⟨hr, I6⟩ => ?_
      subst hr
      -- back in the def's context
      have I7 : L2.Inv X pins σ H5 s6 := I3.call' (ch := fp) I6.os I6.base I6.hok I6.bare fun b hb => ⟨(f3 b hb).1.2.2.2.1, (f3 b hb).1.2.1, (f3 b hb).1.2.2.2.2.1, (f3 b hb).1.2.2.2.2.2⟩
      have nC : H5 s3.heap.objs.size = none := by
        have z : H5 ce.locals = none := I6.free
        rw [cL] at z
        exact z
      obtain ⟨m, hn, _⟩ := I6.loc
      have hn : s6.heap.Ns ce.locals m := hn
      rw [cL] at hn
      exact hRR D s3.heap.objs.size s6 m H5 I7 qq hn (I3.fpOk (Nat.le_refl _) nC)
    · have ti := T.item (X.blk s3 H3 scope ce fp) rfl rfl rfl hc i [] s5 _ H5 (fun _ _ => False) I5 (stat I5 n5) st5 go
      refine thnF ti fun r s6 ⟨u, hr, h6⟩ => ?_
      subst hr
      refine thnF h6 fun _ s7 ⟨x, H7, I7, r7, y7, st7, n7⟩ => ?_
      have I7' := I7.pinned (stat I7 n7) (T.obj _ _ st7)
      refine thnF (pg.run _ s7 _ H7 x u _ I7' r7 (step x H7 y7)) fun _ s8 ⟨σ8, H8, I8, hw8, q8⟩ => ?_
      refine thnF (pt.run _ s8 σ8 H8 _ I8 q8) fun b s9 ⟨H9, I9, q9⟩ => ?_
      -- the turn's end
      have fin : ∀ {s' : Shared} {H' : Hp}, L2.Inv (X.blk s3 H3 scope ce fp) ([] ++ pinsAt fp s7.heap) σ8 H' s' → Nx H' → ∃ m, m < n ∧ ∃ i H', L2.Inv (X.blk s3 H3 scope ce fp) [] (wipe σ (own.map (·.2))) H' s' ∧ tn i s'.heap ∧ (∀ b ∈ fp, H' b = none) ∧ W i m H' := fun {s' H'} I' nx => by
        obtain ⟨m', hm, w'⟩ := hNx H' nx
        have pin' : ∀ b ∈ fp, ∀ o, s7.heap.get? b = some o → s'.heap.get? b = some o ∧ H' b = none := fun b hb o e =>
          let z := I'.pin (b, o) (List.mem_append_right _ (List.mem_append_right _ (mem_pinsAt hb e)))
          ⟨z.1, z.2.1⟩
        have hl : (wipe σ (own.map (·.2))).length = σ8.length := by rw [← hw8, wipe_length]
        refine ⟨m', hm, i + 1, H', (I'.unpinned (pins := [])).weak hl (fun j v e => ?_), T.keep _ _ _ st7 fun b hb o e => (pin' b hb o e).1, fun b hb => ?_, w'⟩
        · rw [← hw8] at e
          exact (wipe_some e).1
        · obtain ⟨o, e, _⟩ := T.obj _ _ st7 b hb
          exact (pin' b hb o e).2
      cases b with
      | false =>
        simp only [Bool.false_eq_true, if_false] at q9 ⊢
        exact fin I9 q9
      | true =>
        simp only [if_true] at q9 ⊢
        refine thnF (pk.run _ s9 σ8 H9 _ I9 q9) fun z s10 ⟨yk, H10, I10, r10, q10⟩ => ?_
        refine thnF (pe.run _ s10 σ8 H10 _ I10 q10) fun z2 s11 ⟨yv, H11, I11, r11, t1, t2, hst, hD11, nx⟩ => ?_
        exact hS (X.blk s3 H3 scope ce fp) _ _ _ _ _ D t1 yk yv z z2 _ t2 rfl rfl rfl hu I11 hD11 hst r10 r11 fun s12 I12 => fin I12 nx
  exact codeAny_compStart_dict loop (T.self X.A 0 _ _ _ st4 loop)
end

/-! ## the keys tuples -/
section
variable {Y : Cx} {cl : Cl} {G H : Hp} {pins : List (Addr × Obj)} {σ : L2.St} {s : Shared}
mutual
theorem RepF.nk (I : L2.Inv Y pins σ H s) (gh : Same G H) : ∀ {d : D} {v : V} {k : NestedKey} {u : Value}, RepF Y.K cl G d v → nkD d = some k → RelV v u → NestedIs s.heap k u
  | .int i, v, k, u, h, e, r => by
    unfold RepF at h; subst h; unfold nkD at e; cases e
    obtain ⟨t, rfl⟩ := r
    exact .int i t
  | .str x, v, k, u, h, e, r => by
    unfold RepF at h; subst h; unfold nkD at e; cases e
    obtain ⟨t, rfl⟩ := r
    exact .text x t
  | .tup ds, v, k, u, h, e, r => by
    unfold RepF at h; unfold nkD at e
    obtain ⟨a, vs, rfl, h1, h2⟩ := h
    cases e1 : nkDs ds with
    | none => rw [e1] at e; cases e
    | some ks =>
      rw [e1] at e; cases e
      cases r
      obtain ⟨its, rv, ⟨o, ho, hc, n, hd⟩, _⟩ := I.tuple (sqT_mono gh h1.t)
      exact .tup ho hc hd (by simpa using RepFs.nk I gh h2 e1 rv)
  | .non, _, _, _, _, e, _ => by unfold nkD at e; cases e
  | .bl _, _, _, _, _, e, _ => by unfold nkD at e; cases e
  | .lst _ _, _, _, _, _, e, _ => by unfold nkD at e; cases e
  | .dct _ _ _, _, _, _, _, e, _ => by unfold nkD at e; cases e
  | .ins _ _ _ _, _, _, _, _, e, _ => by unfold nkD at e; cases e
theorem RepFs.nk (I : L2.Inv Y pins σ H s) (gh : Same G H) : ∀ {ds : List D} {vs : List V} {ks : List NestedKey} {us : List Value}, RepFs Y.K cl G ds vs → nkDs ds = some ks → Vals vs us → NestedAll s.heap ks us
  | [], vs, ks, us, h, e, r => by
    unfold RepFs at h; subst h; unfold nkDs at e; cases e; cases r; exact .nil
  | d :: ds, vs, ks, us, h, e, r => by
    unfold RepFs at h; unfold nkDs at e
    obtain ⟨v, w, rfl, h1, h2⟩ := h
    cases e1 : nkD d with
    | none => rw [e1] at e; cases e
    | some k =>
      cases e2 : nkDs ds with
      | none => rw [e1, e2] at e; cases e
      | some ks' =>
        rw [e1, e2] at e; cases e
        cases r with
        | cons r1 r2 => exact .cons (RepF.nk I gh h1 e1 r1) (RepFs.nk I gh h2 e2 r2)
end
theorem nkT_inv {d : D} {k : NestedKey} (h : nkT d = some k) : d.own = false ∧ nkD d = some k ∧ k.depth ≤ 8 := by
  unfold nkT at h
  split at h
  · split at h
    · split at h
      · rename_i e hd
        cases h
        exact ⟨rfl, e, hd⟩
      · cases h
    · cases h
  · cases h
/-- the entries of a dict with such keys -/
abbrev NE := List (NestedKey × Addr × Value)
def ndU (P : Program) (w : World) (D : Addr) (xs : NE) : HO :=
  .ext fun h => (D == sysModules) = false ∧ ∃ o es ep, h.get? D = some o ∧ o.ExactDict ∧ o.data = .dict es ep ∧ es.toList = xs.map (entryOfKey (nestedKind P w)) ∧ (xs.map (·.1)).Nodup
def NEs (K : PySem.W.Frag) (cl : Cl) (G : Hp) (xs : NE) : Prop := ∀ x ∈ xs, ∃ d, RepF K cl G d (.ref x.2.1) ∧ nkD d = some x.1 ∧ x.1.depth ≤ 8
def ndS (K : PySem.W.Frag) (cl : Cl) : NE → V → V → Hp → NE → Prop := fun xs y z H xs' => ∃ G d k q, Same G H ∧ y = .ref q ∧ z = .bl true ∧ RepF K cl G d y ∧ nkD d = some k ∧ k.depth ≤ 8 ∧ NEs K cl G xs ∧ xs.length < sizeLine ∧ xs' = storedH xs k q (.bool true)
theorem nd_obj {P : Program} {w : World} {H : Hp} {h : Heap} {D : Addr} {xs : NE} (hD : (D == sysModules) = false) (hx : ∃ o es ep, h.get? D = some o ∧ o.ExactDict ∧ o.data = .dict es ep ∧ es.toList = xs.map (entryOfKey (nestedKind P w)) ∧ (xs.map (·.1)).Nodup) : ObjOk P w H h D (ndU P w D xs) := by
  obtain ⟨o, es, ep, ho, r⟩ := hx
  refine ⟨⟨hD, o, es, ep, ho, r⟩, ⟨o, ho⟩, fun h1 h2 ⟨_, o', es', ep', ho', r'⟩ k => ⟨hD, o', es', ep', k _ ho', r'⟩⟩
theorem nd_init {P : Program} {w : World} (H : Hp) (h : Heap) (hb : sysModules < h.objs.size) : ObjOk P w H (h.push { cls := .type "dict", data := .dict #[] }) h.objs.size (ndU P w h.objs.size []) :=
  nd_obj (beq_eq_false_iff_ne.mpr (Ne.symm (Nat.ne_of_lt hb))) ⟨_, #[], 0, Heap.get?_push_size _ rfl, ⟨rfl, rfl, rfl⟩, rfl, rfl, List.nodup_nil⟩
theorem nd_is (I : L2.Inv Y pins σ H s) (gh : Same G H) {xs : NE} {D : Addr} (hn : NEs Y.K cl G xs) (hD : H D = some (ndU Y.prog Y.w D xs)) : (D == sysModules) = false ∧ s.heap.DictOfH (nestedKind Y.prog Y.w) D xs := by
  obtain ⟨⟨h0, o, es, ep, h1, h2, h3, h4, h5⟩, _⟩ := (show ObjOk Y.prog Y.w H s.heap D (ndU Y.prog Y.w D xs) from I.hok D _ hD)
  refine ⟨h0, o, es, ep, h1, h2, h3, h4, fun x hx => ?_, h5⟩
  obtain ⟨d, k1, k2, k3⟩ := hn x hx
  exact ⟨RepF.nk I gh k1 k2 rfl, k3⟩
theorem nd_step {P : Program} {w : World} {K : PySem.W.Frag} : DStep P w K (ndU P w) (ndS K cl) := by
  intro Y pins σ H s E D xs y z u r Q xs' hP hw hK hu I hD st ry rz h
  subst hP hw hK
  obtain ⟨G, d, k, q, gh, rfl, rfl, rf, hk, hd8, hn, hlen, rfl⟩ := st
  cases ry
  cases rz
  obtain ⟨h0, hm⟩ := nd_is I gh hn hD
  refine wpAny_dictSet_heap (knd := nestedKind Y.prog Y.w) (hsz := Nat.le_of_lt hlen) (show Y.A.units + 8 < cLine by omega) (⟨RepF.nk I gh rf hk rfl, hd8⟩ : (nestedKind Y.prog Y.w).is s.heap k q) hm fun h' hm' hs => h _ ?_
  obtain ⟨o, es, ep, h1, h2, h3, h4, h5, h6⟩ := hm'
  exact d_write I (by rw [hD]; exact True.intro) hs ⟨o, h1⟩ (nd_obj h0 ⟨o, es, ep, h1, h2, h3, h4, h6⟩)
end

theorem stored_keys {xs : NE} {k : NestedKey} {q : Addr} {v : Value} : (storedH xs k q v).map (·.1) = if (xs.map (·.1)).any (fun j => decide (j = k)) then xs.map (·.1) else xs.map (·.1) ++ [k] := by
  have e : (atKey xs k).isSome = (xs.map (·.1)).any (fun j => decide (j = k)) := by rw [← any_pairsH]; unfold pairsH; rw [List.any_map, List.any_map]; rfl
  unfold storedH
  rw [e]
  split
  · rw [List.map_map]
    apply List.map_congr_left
    intro x _
    show (putAt k v x).1 = x.1
    unfold putAt
    split <;> rfl
  · rw [List.map_append]; rfl
theorem stored_NEs {K : PySem.W.Frag} {cl : Cl} {G : Hp} {xs : NE} {k : NestedKey} {q : Addr} {v : Value} (h : NEs K cl G xs) (hq : ∃ d, RepF K cl G d (.ref q) ∧ nkD d = some k ∧ k.depth ≤ 8) : NEs K cl G (storedH xs k q v) := by
  intro x hx
  unfold storedH at hx
  split at hx
  · rw [List.mem_map] at hx
    obtain ⟨y, hy, rfl⟩ := hx
    unfold putAt
    split <;> exact h y hy
  · rcases List.mem_append.mp hx with z | z
    · exact h x z
    · simp only [List.mem_singleton] at z
      subst z
      exact hq
theorem NEs.mono {K : PySem.W.Frag} {cl : Cl} {G G' : Hp} {xs : NE} (s : Same G G') (h : NEs K cl G xs) : NEs K cl G' xs := fun x hx => let ⟨d, h1, h2⟩ := h x hx; ⟨d, RepF.mono s h1, h2⟩
section
variable {K : PySem.W.Frag} {cl : Cl} {xa : Nat → Value} {W : WX} {P : Phi} {Pr : Program} {wo : World}
theorem nd_key {vs : List Nat} {tg : Tg} {it : II} {kx x : IE} {p : Bool} {s : L2.St} {H : Hp} {Q : VK} (hp : p = true → ∃ l, tg = .t l) (hv : tgIn vs tg = true) (h : tE K cl xa W (evalE P (.nd vs tg it kx x)) s H Q) :
    tDcX (ndU Pr wo) [] (ndS K cl) (tI K cl xa W p (evalI P it)) (gT K tg) (tB (tE K cl xa W0 (evalT P .nil))) (tE K cl xa W0 (evalE P kx)) (tE K cl xa W0 (evalE P x)) vs s H (fun v H' => ∃ D xs G, [v] = [.ref D] ∧ Same G H' ∧ NEs K cl G xs ∧ xs.length ≤ sizeLine ∧ H' D = some (ndU Pr wo D xs) ∧ Q (.int (xs.length : Nat)) H') := by
  obtain ⟨G, r, f, t, o, h⟩ := h
  refine ⟨G, r, f, t, o, ?_⟩
  unfold evalE at h
  cases hx : evalI P it r with
  | stuck => simp only [hx] at h; exact h
  | err k r1 => simp only [hx] at h; exact h
  | ok ds r1 =>
    simp only [hx] at h
    intro J G1 H1 f1 o1 e1 w D hD
    split at h
    · rename_i hfr
      have h1 := PostE.base (f1 := f1) (fv := []) h (by simpa using e1)
      clear h
      -- any kind of dict is walked alike
      have go : ∃ W' : Nat → Nat → Hp → Prop, (∃ m, W' 0 m (upd H1 D (ndU Pr wo D []))) ∧ ∀ i m H, W' i m H →
        (J.stop i H ∧ ∃ D' xs G, [V.ref D] = [.ref D'] ∧ Same G H ∧ NEs K cl G xs ∧ xs.length ≤ sizeLine ∧ H D' = some (ndU Pr wo D' xs) ∧ Q (.int (xs.length : Nat)) H) ∨ (J.go i H ∧ ∃ Nx : Hp → Prop, (∀ H', Nx H' → ∃ m', m' < m ∧ W' (i + 1) m' H') ∧ ∀ y H', J.yld i H y H' → gT K tg y (L2.wipe s vs) H' fun σ2 H2 => L2.wipe σ2 vs = L2.wipe s vs ∧ tB (tE K cl xa W0 (evalT P .nil)) σ2 H2 fun b H3 =>
          if b = true then tE K cl xa W0 (evalE P kx) σ2 H3 fun y H4 => tE K cl xa W0 (evalE P x) σ2 H4 fun z H5 => ∃ t t', ndS K cl t y z H5 t' ∧ H5 D = some (ndU Pr wo D t) ∧ Nx (upd H5 D (ndU Pr wo D t')) else Nx H3) := by
        let Pv : Nat → Hp → Prop := fun i H' => ∃ G' r' f' xs, Ok K cl G' H' r' (L2.wipe s vs) f' (D :: t) ∧ H' D = some (ndU Pr wo D xs) ∧ NEs K cl G' xs ∧ xs.length ≤ sizeLine ∧ Ext f1 G1 H1 f' G' H' ∧ (∀ i ∈ vs, getS r' i = none) ∧
          PostE K cl xa W s G1 H1 f1 ([] ++ t) (fun _ _ v _ _ H' _ => Q v H') (match ndGo vs (bindT tg) (fun r => evalE P kx r) (fun r => evalE P x r) (ds.drop i) r' (xs.map (·.1)) with
            | .ok o r2 => .ok o (backR r1 r2 vs)
            | _ => .stuck)
        refine ⟨fun i m H => m = ds.length - i ∧ i ≤ ds.length ∧ Pv i H, ⟨ds.length, by simp, Nat.zero_le _, ?_⟩, ?_⟩
        · obtain ⟨f2, o2, sub⟩ := o1.wipe vs
          obtain ⟨o3, e3⟩ := o2.fresh (ob := ndU Pr wo D []) hD
          have gD : G1 D = none := by
            cases e : G1 D with
            | none => rfl
            | some z => rw [o1.gh _ _ e] at hD; cases hD
          refine ⟨G1, _, f2, [], ⟨o3.sl, ?_, ?_, o3.gh, ?_⟩, upd_same, (fun _ z => nomatch z), Nat.zero_le _, (Ext.trans (Ext.sub (f1 := f1) Ext.refl sub) e3 fun _ z => z), fun i hi => getS_wipe hi, h1⟩
          · have nD : ∀ a ∈ f2 ++ t, a ≠ D := fun a ha e => by
              subst e
              rcases List.mem_append.mp ha with z | z
              · exact o2.sl.there a z hD
              · exact o2.th a z hD
            have nd := o2.nd
            rw [List.nodup_append] at nd ⊢
            refine ⟨nd.1, List.nodup_cons.mpr ⟨fun z => nD D (List.mem_append_right _ z) rfl, nd.2.1⟩, fun a ha b hb e => ?_⟩
            subst e
            rcases List.mem_cons.mp hb with z | z
            · exact nD a (List.mem_append_left _ ha) z
            · exact nd.2.2 a ha a z rfl
          · intro a ha
            rcases List.mem_append.mp ha with z | z
            · exact o2.fr a (List.mem_append_left _ z)
            · rcases List.mem_cons.mp z with y | y
              · subst y; exact gD
              · exact o2.fr a (List.mem_append_right _ y)
          · intro a ha
            rcases List.mem_cons.mp ha with y | y
            · subst y; rw [upd_same]; simp
            · exact o3.th a y
        · rintro i m H' ⟨rfl, hi, p0⟩
          have hG : Same G1 H' := by
            obtain ⟨G', r', f', xs, o2, _, _, _, e2, _⟩ := p0
            exact e2.gs.trans o2.gh
          by_cases hlt : i < ds.length
          · refine .inr ⟨w.goes i H' hlt hG, Pv (i + 1), fun H' p' => ⟨ds.length - (i + 1), by omega, rfl, hlt, p'⟩, fun y H3 yl => ?_⟩
            obtain ⟨d, hd, item⟩ := w.yields i H' y H3 hlt hG yl
            obtain ⟨G', r', f', xs, o2, hDu, hne, hxl, e2, hno, hpost⟩ := p0
            have hdr : ds.drop i = d :: ds.drop (i + 1) := by
              obtain ⟨hlt, e⟩ := List.getElem?_eq_some_iff.mp hd
              rw [List.drop_eq_getElem_cons hlt, e]
            rw [hdr] at hpost
            unfold ndGo at hpost
            cases hb : bindT tg d r' with
            | none => simp only [hb] at hpost; exact hpost.elim
            | some r2 =>
              simp only [hb] at hpost
              refine item_bind o2 e2.gs item hb hp fun s1 f3 o3 e3 kp hw0 => ?_
              have hw : L2.wipe s1 vs = L2.wipe s vs := (hw0 vs hv).trans wipe_idem
              refine ⟨hw, G', r2, f3, D :: t, o3, ?_⟩
              have hD3 : H3 D = some (ndU Pr wo D xs) := (kp D (by rw [hDu]; simp)).trans hDu
              unfold evalT
              intro v fv G4 H4 f4 o4 e4 i4
              refine ⟨true, (show Rep K cl G4 H4 (.bl true) v fv from i4).bl, ?_⟩
              simp only [if_true]
              have e24 := (e2.trans e3 fun _ z => z).trans e4 fun _ z => z
              have hD4 : H4 D = some (ndU Pr wo D xs) := (o3.temp e4 (by simp)).trans hD3
              refine ⟨G4, r2, f4, D :: t, o4.tail, ?_⟩
              cases hkz : evalE P kx r2 with
              | stuck => simp only [hkz, RE.get] at hpost; exact hpost.elim
              | err k r4 => simp only [hkz, RE.get] at hpost; exact hpost.elim
              | ok odk r4 =>
                simp only [hkz, RE.get] at hpost
                intro vk fk Gk Hk fk' ok ek ik
                cases eok : odk.get r4 with
                | none => simp only [eok] at hpost; exact hpost.elim
                | some kd =>
                  simp only [eok] at hpost
                  obtain ⟨fxk, ik⟩ := ik.rep ok eok
                  have hDk : Hk D = some (ndU Pr wo D xs) := ((o4.tail).temp ek (by simp)).trans hD4
                  refine ⟨Gk, r4, fk', D :: t, ok.tail, ?_⟩
                  cases hz : evalE P x r4 with
                  | stuck => simp only [hz] at hpost; exact hpost.elim
                  | err k r5 => simp only [hz] at hpost; exact hpost.elim
                  | ok od4 r5 =>
                    cases od4 with
                    | slot i => simp only [hz] at hpost; exact hpost.elim
                    | val z =>
                      simp only [hz] at hpost
                      cases z with
                      | bl bb =>
                        cases bb with
                        | false => exact hpost.elim
                        | true =>
                          simp only at hpost
                          cases hnk : nkT kd with
                          | none => simp only [hnk] at hpost; exact hpost.elim
                          | some nk =>
                            simp only [hnk] at hpost
                            by_cases hlen : (xs.map (·.1)).length < sizeLine
                            · rw [if_pos hlen] at hpost
                              rw [List.length_map] at hlen
                              obtain ⟨hko, hkd, hk8⟩ := nkT_inv hnk
                              obtain ⟨rfk, rfl⟩ := ik.F hko
                              intro v5 fv5 G5 H5 f5 o5 e5 i5
                              have i5 : Rep K cl G5 H5 (.bl true) v5 fv5 := i5
                              have hv5 : v5 = .bl true := i5.bl
                              obtain ⟨_, rfl⟩ := i5.F rfl
                              have hD5 : H5 D = some (ndU Pr wo D xs) := ((ok.tail).temp e5 (by simp)).trans hDk
                              have rf5 := RepF.mono e5.gs rfk
                              obtain ⟨q, hq⟩ : ∃ q, vk = .ref q := by
                                unfold nkT at hnk
                                split at hnk
                                · unfold RepF at rf5
                                  obtain ⟨a, us, e, _⟩ := rf5
                                  exact ⟨a, e⟩
                                · cases hnk
                              subst hq
                              have hne5 : NEs K cl G5 xs := NEs.mono ((e3.gs.trans e4.gs).trans (ek.gs.trans e5.gs)) hne
                              refine ⟨xs, storedH xs nk q (.bool true), ⟨G5, kd, nk, q, o5.gh, rfl, hv5, rf5, hkd, hk8, hne5, hlen, rfl⟩, hD5, ?_⟩
                              obtain ⟨f7, o7, sub⟩ := (o5.tail).wipe vs
                              rw [hw] at o7
                              have e1k : Ext f1 G1 H1 fk' Gk Hk := ((e24.sub fun a ha => List.mem_append_left _ ha).trans ek fun _ z => z).sub fun a ha => List.mem_append_left _ ha
                              have e16 : Ext f1 G1 H1 f5 G5 H5 := (e1k.trans e5 fun _ z => z).sub fun a ha => List.mem_append_left _ ha
                              have hsl : (storedH xs nk q (.bool true)).length ≤ xs.length + 1 := by
                                have := congrArg List.length (stored_keys (xs := xs) (k := nk) (q := q) (v := .bool true))
                                rw [List.length_map] at this
                                rw [this]
                                split <;> simp
                              refine ⟨_, _, f7, storedH xs nk q (.bool true), o7.updT (by simp), upd_same, stored_NEs hne5 ⟨kd, rf5, hkd, hk8⟩, by omega, ?_, fun i hi => getS_wipe hi, by rw [stored_keys]; exact hpost⟩
                              refine ⟨fun a h1 h2 => ?_, fun a h1 => ?_, e16.gs, e16.gn, fun a ha => e16.fn a (sub a ha)⟩
                              · rw [upd_ne fun z => h1 (by rw [z]; exact hD)]; exact e16.keep a h1 h2
                              · rw [upd_ne fun z => h1 (by rw [z]; exact hD)]; exact e16.there a h1
                            · rw [if_neg hlen] at hpost; exact hpost.elim
                      | _ => exact hpost.elim
          · have e : i = ds.length := by omega
            subst e
            refine .inl ⟨w.stops H' hG, ?_⟩
            obtain ⟨G', r', f', xs, o2, hDu, hne, hxl, e2, hno, hpost⟩ := p0
            rw [List.drop_length] at hpost
            unfold ndGo at hpost
            have sl := o2.sl.back o1.sl hfr e2.gs hno
            rw [List.length_map] at hpost
            have nd := o2.nd
            refine ⟨D, xs, G', rfl, o2.gh, hne, hxl, hDu, hpost (.int (xs.length : Nat)) [] G' H' f' ⟨sl, ?_, fun a ha => o2.fr a ?_, o2.gh, fun a ha => o2.th a (List.mem_cons_of_mem _ ha)⟩ (by rw [List.append_nil]; exact e2) (New.int (K := K) (cl := cl) (G := G') (H := H') o2.gh _).1⟩
            · exact nd.sublist (List.Sublist.append (List.Sublist.refl _) (List.sublist_cons_self _ _))
            · rcases List.mem_append.mp ha with z | z
              · exact List.mem_append_left _ z
              · exact List.mem_append_right _ (List.mem_cons_of_mem _ z)
      exact go
    · exact h.elim
end

section
variable {X : Cx} {cl : Cl}
theorem pe_dcX {T0 : Type} {U : Addr → T0 → HO} {t0 : T0} {stp : T0 → V → V → Hp → T0 → Prop} {kx vx tg iter : Expr} {ifs : List Expr} {scope : Scope} {own : List (Str × Nat)} {pos : Pos} {wi : TI} {g : TG} {tt : TT} {tk tv : TE} (hc : X.calm = true) (hN : X.N.Nodup) (hi : PI X tg iter wi) (ok : BlkOk X.N X.env.scope scope own)
    (hg : ∀ (s : Shared) (H : Hp) (C : Addr) (cl : List (Str × Addr)) (fp : List Addr), PG (X.blk s H scope (compEnvC scope cl C X.env) fp) tg g) (ht : ∀ (s : Shared) (H : Hp) (C : Addr) (cl : List (Str × Addr)) (fp : List Addr), PTs (X.blk s H scope (compEnvC scope cl C X.env) fp) ifs tt)
    (hk : ∀ (s : Shared) (H : Hp) (C : Addr) (cl : List (Str × Addr)) (fp : List Addr), PE (X.blk s H scope (compEnvC scope cl C X.env) fp) kx tk)
    (he : ∀ (s : Shared) (H : Hp) (C : Addr) (cl : List (Str × Addr)) (fp : List Addr), PE (X.blk s H scope (compEnvC scope cl C X.env) fp) vx tv) (hs : ∀ x, foldedSetIterable iter X.env x = pure x)
    (hU : ∀ (H : Hp) (h : Heap), sysModules < h.objs.size → ObjOk X.prog X.w H (h.push { cls := .type "dict", data := .dict #[] }) h.objs.size (U h.objs.size t0)) (hS : DStep X.prog X.w X.K U stp) (hu : X.A.units + 65 < cLine) :
    PE X (.DictComp kx vx [⟨tg, iter, ifs, 0⟩] scope pos) (tDcX U t0 stp wi g tt tk tv (own.map (·.2))) := by
  refine ⟨fun pins s σ H Q I h => ?_⟩
  rw [arm_eval_DictComp]
  refine dcX_core hc hN I hi ok hg ht hk he hs hU hS hu h fun D C s' m H' I' q hn f => ⟨m, hn, fun h'' sb => ?_⟩
  obtain ⟨f0, f1, f2, f3, f4, f5⟩ := f
  exact ⟨.ref D, H', I'.turned (t' := s'.toks) (fun b o hb e => (sb.2 b hb).trans e) f0 f1 f3 f4 f5, rfl, q⟩
def rNd (P : Program) (w : World) (K : PySem.W.Frag) (cl : Cl) : List V → Hp → VK → Prop := fun vs H Q => ∃ D xs G, vs = [.ref D] ∧ Same G H ∧ NEs K cl G xs ∧ xs.length ≤ sizeLine ∧ H D = some (ndU P w D xs) ∧ Q (.int (xs.length : Nat)) H
theorem cr_nd : CallR X (.builtin "len") (rNd X.prog X.w X.K cl) := by
  intro pins s σ H xs us Q I r h
  obtain ⟨D, ys, G, rfl, gh, hn, hl, hD, q⟩ := h
  obtain ⟨u, rfl, rx⟩ := vals1 r
  obtain rfl : u = .ref D := rx
  obtain ⟨h0, hm⟩ := nd_is I gh hn hD
  refine call_len_dictH h0 hm (by rw [sizeLine_eq] at hl; omega) ?_
  exact ⟨.int ((ys.length : Nat) : Int), H, I.tok _, ⟨_, rfl⟩, q⟩
end
end GF
namespace GF
open PySem L2 PySem.Spec PyProof.Rows

/-! ## dict comprehensions with two fors -/
theorem compTurnD2_out (kx vx t0 i0 t1 i1 : Expr) (ifs0 ifs1 : List Expr) (scope : Scope) (pos : Pos) (it : Value) (D : Addr) (env : Env) :
    compTurn (.DictComp kx vx [⟨t0, i0, ifs0, 0⟩, ⟨t1, i1, ifs1, 0⟩] scope pos) 0 it (.ref D) env = (do
      standAt i0.pos
      match ← pyNext it with
      | none => pure (.done .next)
      | some v =>
        letOwnedTupleGo t0 it v
        assign t0 env v
        let mut ok := true
        for c in ifs0 do
          if ok then ok ← isTrue c env (eval c env)
        if ok then
          let x ← eval i1 env
          standAt i1.pos
          let x ← foldedSetIterable i1 env x
          let _ ← runOwn (.compStart (.DictComp kx vx [⟨t0, i0, ifs0, 0⟩, ⟨t1, i1, ifs1, 0⟩] scope pos) 1 (← holding [x] (pyIter x)) (.ref D) env) env
        again (.compLoop (.DictComp kx vx [⟨t0, i0, ifs0, 0⟩, ⟨t1, i1, ifs1, 0⟩] scope pos) 0 it (.ref D) env)) := by rfl
theorem compTurnD2_in (kx vx t0 i0 t1 i1 : Expr) (ifs0 ifs1 : List Expr) (scope : Scope) (pos : Pos) (it : Value) (D : Addr) (env : Env) :
    compTurn (.DictComp kx vx [⟨t0, i0, ifs0, 0⟩, ⟨t1, i1, ifs1, 0⟩] scope pos) 1 it (.ref D) env = (do
      standAt i1.pos
      match ← pyNext it with
      | none => pure (.done .next)
      | some v =>
        letOwnedTupleGo t1 it v
        assign t1 env v
        let mut ok := true
        for c in ifs1 do
          if ok then ok ← isTrue c env (eval c env)
        if ok then
          (do
            let kv ← eval kx env
            let vv ← holding [kv] (eval vx env)
            standAt { kx.pos with endLine := vx.pos.endLine, endCol := vx.pos.endCol }
            holding [kv, vv] (dictSet D kv vv))
        again (.compLoop (.DictComp kx vx [⟨t0, i0, ifs0, 0⟩, ⟨t1, i1, ifs1, 0⟩] scope pos) 1 it (.ref D) env)) := by rfl

section
variable {prog : Program} {w : World} {A : Around} {R : Result → Shared → Prop} {s : Shared} {kx vx t0 i0 t1 i1 : Expr} {ifs0 ifs1 : List Expr} {scope : Scope} {pos : Pos} {it : Value} {D : Addr} {env : Env}
/-- the loop of the first clause -/
theorem compLoopD2_out (hs : ∀ x, foldedSetIterable i1 env x = pure x) (I : Nat → Shared → Prop)
    (turn : ∀ n s, I n s → wpAny (model prog w) A (pyNext it) (fun r s₁ => match r with
      | none => R (.ok .next) s₁
      | some v => wpAny (model prog w) A (letOwnedTupleGo t0 it v) (fun _ s₁' => wpAny (model prog w) A (assign t0 env v) (fun _ s₂ =>
          wpAny (model prog w) A (forIn ifs0 true fun c r => if r = true then do let ok ← isTrue c env (eval c env); pure (ForInStep.yield ok) else pure (ForInStep.yield r)) (fun ok s₃ =>
            if ok = true then wpAny (model prog w) A (eval i1 env) (fun x s₄ => wpAny (model prog w) A (pyIter x) (fun it1 s₅ =>
              codeAny (model prog w) A (.compStart (.DictComp kx vx [⟨t0, i0, ifs0, 0⟩, ⟨t1, i1, ifs1, 0⟩] scope pos) 1 it1 (.ref D) env) (fun r s' => match r with
                | .ok _ => ∃ m, m < n ∧ I m s'
                | .error _ => False) s₅) (notedBy (model prog w) A env fun e s' => R (.error e) s') s₄) (notedBy (model prog w) A env fun e s' => R (.error e) s') s₃
            else ∃ m, m < n ∧ I m s₃) (notedBy (model prog w) A env fun e s' => R (.error e) s') s₂) (notedBy (model prog w) A env fun e s' => R (.error e) s') s₁') (notedBy (model prog w) A env fun e s' => R (.error e) s') s₁) (notedBy (model prog w) A env fun e s' => R (.error e) s') s)
    (n : Nat) (h : I n s) :
    codeAny (model prog w) A (.compLoop (.DictComp kx vx [⟨t0, i0, ifs0, 0⟩, ⟨t1, i1, ifs1, 0⟩] scope pos) 0 it (.ref D) env) R s := by
  refine codeAny_loop rfl I (fun n s hI => ?_) n h
  show wpAny _ A ((compTurn (.DictComp kx vx [⟨t0, i0, ifs0, 0⟩, ⟨t1, i1, ifs1, 0⟩] scope pos) 0 it (.ref D) env).onRaise (fun x => do noteFrame x env; theTreesLotGoes x)) _ _ s
  refine wpAny_noted ?_
  rw [compTurnD2_out]
  refine wpAny_bind (wpAny_standAt (wpAny_bind (wpAny_mono (turn n s hI) (fun r s₁ h₁ => ?_) fun _ _ h' => h')))
  cases r with
  | none => exact wpAny_pure h₁
  | some v =>
    refine wpAny_bind (wpAny_mono h₁ (fun _ s₁' h₁' => ?_) fun _ _ h' => h')
    refine wpAny_bind (wpAny_mono h₁' (fun _ s₂ h₂ => wpAny_bind (wpAny_mono h₂ (fun ok s₃ h₃ => ?_) fun _ _ h' => h')) fun _ _ h' => h')
    cases ok with
    | false => exact wpAny_pure ⟨rfl, h₃⟩
    | true =>
      refine wpAny_bind (wpAny_mono h₃ (fun x s₄ h₄ => ?_) fun _ _ h' => h')
      refine wpAny_bind (wpAny_standAt (wpAny_bind (wpAny_of_eq (hs x) (wpAny_bind (wpAny_holding (wpAny_mono h₄ (fun it1 s₅ h₅ => ?_) fun _ _ h' => h'))))))
      refine wpAny_bind (wpAny_runOwn ?_)
      rw [Around.mark_none]
      refine codeAny_mono h₅ fun r s' hr => ?_
      cases r with
      | ok f =>
        first
          | exact wpAny_pure ⟨rfl, hr⟩
          | exact wpAny_bind (wpAny_pure (wpAny_pure ⟨rfl, hr⟩))
      | error e => exact hr.elim
/-- the loop of the second -/
theorem compLoopD2_in (I : Nat → Shared → Prop)
    (turn : ∀ n s, I n s → wpAny (model prog w) A (pyNext it) (fun r s₁ => match r with
      | none => R (.ok .next) s₁
      | some v => wpAny (model prog w) A (letOwnedTupleGo t1 it v) (fun _ s₁' => wpAny (model prog w) A (assign t1 env v) (fun _ s₂ =>
          wpAny (model prog w) A (forIn ifs1 true fun c r => if r = true then do let ok ← isTrue c env (eval c env); pure (ForInStep.yield ok) else pure (ForInStep.yield r)) (fun ok s₃ =>
            if ok = true then wpAny (model prog w) A (eval kx env) (fun kv s₄ => wpAny (model prog w) A (eval vx env) (fun vv s₅ =>
              wpAny (model prog w) A (dictSet D kv vv) (fun _ s₆ => ∃ m, m < n ∧ I m s₆) (notedBy (model prog w) A env fun e s' => R (.error e) s') s₅) (notedBy (model prog w) A env fun e s' => R (.error e) s') s₄) (notedBy (model prog w) A env fun e s' => R (.error e) s') s₃
            else ∃ m, m < n ∧ I m s₃) (notedBy (model prog w) A env fun e s' => R (.error e) s') s₂) (notedBy (model prog w) A env fun e s' => R (.error e) s') s₁') (notedBy (model prog w) A env fun e s' => R (.error e) s') s₁) (notedBy (model prog w) A env fun e s' => R (.error e) s') s)
    (n : Nat) (h : I n s) :
    codeAny (model prog w) A (.compLoop (.DictComp kx vx [⟨t0, i0, ifs0, 0⟩, ⟨t1, i1, ifs1, 0⟩] scope pos) 1 it (.ref D) env) R s := by
  refine codeAny_loop rfl I (fun n s hI => ?_) n h
  show wpAny _ A ((compTurn (.DictComp kx vx [⟨t0, i0, ifs0, 0⟩, ⟨t1, i1, ifs1, 0⟩] scope pos) 1 it (.ref D) env).onRaise (fun x => do noteFrame x env; theTreesLotGoes x)) _ _ s
  refine wpAny_noted ?_
  rw [compTurnD2_in]
  refine wpAny_bind (wpAny_standAt (wpAny_bind (wpAny_mono (turn n s hI) (fun r s₁ h₁ => ?_) fun _ _ h' => h')))
  cases r with
  | none => exact wpAny_pure h₁
  | some v =>
    refine wpAny_bind (wpAny_mono h₁ (fun _ s₁' h₁' => ?_) fun _ _ h' => h')
    refine wpAny_bind (wpAny_mono h₁' (fun _ s₂ h₂ => wpAny_bind (wpAny_mono h₂ (fun ok s₃ h₃ => ?_) fun _ _ h' => h')) fun _ _ h' => h')
    cases ok with
    | false => exact wpAny_pure ⟨rfl, h₃⟩
    | true =>
      exact wpAny_bind (wpAny_bind (wpAny_mono h₃ (fun kv s₄ h₄ => wpAny_bind (wpAny_holding (wpAny_mono h₄ (fun vv s₅ h₅ => wpAny_bind (wpAny_standAt (wpAny_holding (wpAny_mono h₅ (fun _ s₆ h₆ => wpAny_pure ⟨rfl, h₆⟩) fun _ _ h' => h')))) fun _ _ h' => h'))) fun _ _ h' => h'))
/-- the second clause's start -/
theorem compStartD1_ok (h0 : codeAny (model prog w) A (.compLoop (.DictComp kx vx [⟨t0, i0, ifs0, 0⟩, ⟨t1, i1, ifs1, 0⟩] scope pos) 1 it (.ref D) env) R s)
    (h : wpAny (model prog w) A (pyIter it) (fun it' s' => codeAny (model prog w) A (.compLoop (.DictComp kx vx [⟨t0, i0, ifs0, 0⟩, ⟨t1, i1, ifs1, 0⟩] scope pos) 1 it' (.ref D) env) R s')
      (notedBy (model prog w) A env fun x s' => R (.error x) s') s) :
    codeAny (model prog w) A (.compStart (.DictComp kx vx [⟨t0, i0, ifs0, 0⟩, ⟨t1, i1, ifs1, 0⟩] scope pos) 1 it (.ref D) env) R s := by
  refine codeAny_of_tree ?_
  show wpAny _ _ ((compStart (.DictComp kx vx [⟨t0, i0, ifs0, 0⟩, ⟨t1, i1, ifs1, 0⟩] scope pos) 1 it (.ref D) env).onRaise (fun x => do noteFrame x env; standAt theWindowsPlace)) _ _ s
  refine wpAny_notedAt ?_
  unfold compStart
  show wpAny _ _ (ask >>= _) _ _ s
  refine wpAny_bind (wpAny_askSetting (wpAny_ite ?_))
  split
  · first
      | exact wpAny_bind (wpAny_pure (wpAny_pure (And.intro rfl h0)))
      | exact wpAny_pure (And.intro rfl h0)
  · first
      | exact wpAny_bind (wpAny_rule (wpAny_bind (wpAny_standAt (wpAny_bind (wpAny_mono h (fun it' s' h' => wpAny_pure (And.intro rfl h')) fun _ _ x => x)))))
      | (refine wpAny_bind (wpAny_rule ?_); show wpAny _ _ (standAt i1.pos >>= _) _ _ s; exact wpAny_bind (wpAny_standAt (wpAny_bind (wpAny_mono h (fun it' s' h' => wpAny_pure (And.intro rfl h')) fun _ _ x => x))))
end

def tDc2 (wi : TI) (g : TG) (tt : TT) (wi1 : TI) (g1 : TG) (tt1 : TT) (tk tv : TE) (vs vs1 : List Nat) : TE := fun σ H Q => wi σ H fun J H1 => ∀ D, H1 D = none → ∃ W : Nat → Nat → Hp → Prop, (∃ m, W 0 m (upd H1 D (.dK []))) ∧ ∀ i m H, W i m H →
  (J.stop i H ∧ Q (.ref D) H) ∨ (J.go i H ∧ ∃ Nx : Hp → Prop, (∀ H', Nx H' → ∃ m', m' < m ∧ W (i + 1) m' H') ∧ ∀ x H', J.yld i H x H' → g x (wipe σ vs) H' fun σ2 H2 => wipe σ2 vs = wipe σ vs ∧ tt σ2 H2 fun b H3 =>
    if b = true then wi1 σ2 H3 fun J1 H4 => ∃ W1 : Nat → Nat → Hp → Prop, (∃ m, W1 0 m H4) ∧ ∀ j k H, W1 j k H →
      (J1.stop j H ∧ Nx H) ∨ (J1.go j H ∧ ∃ Nx1 : Hp → Prop, (∀ H', Nx1 H' → ∃ k', k' < k ∧ W1 (j + 1) k' H') ∧ ∀ x H', J1.yld j H x H' → g1 x (wipe σ2 vs1) H' fun σ3 H5 => wipe σ3 vs1 = wipe σ2 vs1 ∧ tt1 σ3 H5 fun b H6 =>
        if b = true then tk σ3 H6 fun y H7 => tv σ3 H7 fun z H8 => ∃ kvs k, y = kV k ∧ H8 D = some (.dK kvs) ∧ kvs.length < sizeLine ∧ Nx1 (upd H8 D (.dK (putK kvs k z))) else Nx1 H6)
    else Nx H3)
section
variable {X : Cx}
theorem dc2_core {pins : List (Addr × Obj)} {s : Shared} {σ : L2.St} {H : Hp} {Q : VK} {kx vx tg iter tg1 iter1 : Expr} {ifs ifs1 : List Expr} {scope : Scope} {own : List (Str × Nat)} {vs1 : List Nat} {pos pos' : Pos} {wi wi1 : TI} {g g1 : TG} {tt tt1 : TT} {tk tv : TE} {use : Option (Value → Sem Unit)} {Qf : Value → Shared → Prop}
    (hc : X.calm = true) (hN : X.N.Nodup) (I : L2.Inv X pins σ H s) (hi : PI X tg iter wi) (ok : BlkOk X.N X.env.scope scope own) (hv : ∀ i ∈ vs1, i ∈ own.map (·.2))
    (hg : ∀ (s : Shared) (H : Hp) (C : Addr) (cl : List (Str × Addr)) (fp : List Addr), PG (X.blk s H scope (compEnvC scope cl C X.env) fp) tg g) (ht : ∀ (s : Shared) (H : Hp) (C : Addr) (cl : List (Str × Addr)) (fp : List Addr), PTs (X.blk s H scope (compEnvC scope cl C X.env) fp) ifs tt)
    (hk : ∀ (s : Shared) (H : Hp) (C : Addr) (cl : List (Str × Addr)) (fp : List Addr), PE (X.blk s H scope (compEnvC scope cl C X.env) fp) kx tk) (he : ∀ (s : Shared) (H : Hp) (C : Addr) (cl : List (Str × Addr)) (fp : List Addr), PE (X.blk s H scope (compEnvC scope cl C X.env) fp) vx tv) (hs : ∀ x, foldedSetIterable iter X.env x = pure x)
    (hi1 : ∀ (s : Shared) (H : Hp) (C : Addr) (cl : List (Str × Addr)) (fp : List Addr), PI (X.blk s H scope (compEnvC scope cl C X.env) fp) tg1 iter1 wi1)
    (hg1 : ∀ (s : Shared) (H : Hp) (C : Addr) (cl : List (Str × Addr)) (fp : List Addr), PG (X.blk s H scope (compEnvC scope cl C X.env) fp) tg1 g1)
    (ht1 : ∀ (s : Shared) (H : Hp) (C : Addr) (cl : List (Str × Addr)) (fp : List Addr), PTs (X.blk s H scope (compEnvC scope cl C X.env) fp) ifs1 tt1)
    (hs1 : ∀ env x, foldedSetIterable iter1 env x = pure x)
    (h : tDc2 wi g tt wi1 g1 tt1 tk tv (own.map (·.2)) vs1 σ H Q)
    (hRR : ∀ D C s' m H', L2.Inv X pins σ H' s' → Q (.ref D) H' → s'.heap.Ns C m → FpOk X pins H' C → compPost (model X.prog X.w) X.A X.xe use Qf (.ref D) C (.ok .next) s') :
    wpAny (model X.prog X.w) X.A (comprehension (.DictComp kx vx [⟨tg, iter, ifs, 0⟩, ⟨tg1, iter1, ifs1, 0⟩] scope pos) scope X.env pos' newDict false (eval iter X.env) use) Qf X.xe s := by
  have hfree : ∀ y ∈ scope.names, y.2 = .free → ∃ c, X.env.cells.lookup y.1 = some c := fun y hy e => by
    rcases ok.free y hy e with k | k
    · exact I.ok.has _ (.inl k)
    · exact I.ok.has _ (.inr k)
  refine wpAny_comprehension_free (use := use) rfl hs (closure_ok hfree) ok.kind (fun y hy e => by rw [ok.uniq y hy, e])
    (thn (hi.run pins s σ H _ I h) fun xv s1 hx => thn hx fun itv s2 h2 => ?_)
  obtain ⟨it, fp, tn, J, H2, e, I2, T, st2, f2, q⟩ := h2
  subst e
  refine wpAny_newObj_type (newEnv_comp ?_)
  generalize hD : s2.heap.objs.size = D
  have hDn : H2 D = none := I2.hok.fresh (Nat.le_of_eq hD)
  obtain ⟨W, ⟨m0, w0⟩, turn⟩ := q D hDn
  -- the new list
  generalize hs3 : ({ s2 with heap := s2.heap.push { cls := .type "dict", data := .dict #[] } } : Shared) = s3
  have I3 : L2.Inv X pins σ (upd H2 D (.dK [])) s3 := by
    rw [← hs3]
    refine I2.laid (t' := s2.toks) (fun b o e => Heap.get?_push_of_some _ e) (Nat.le_of_eq hD) ?_
    rw [← hD]
    exact dk_empty s2.heap I2.big
  have h3 : s3.heap = s2.heap.push { cls := .type "dict", data := .dict #[] } := by rw [← hs3]
  have sz : ∀ b ∈ fp, b < s2.heap.objs.size := fun b hb => by
    obtain ⟨o, e, _⟩ := T.obj _ _ st2 b hb
    exact Heap.lt_size e
  have f3 : ∀ b ∈ fp, FpOk X pins (upd H2 D (.dK [])) b ∧ b < s3.heap.objs.size := fun b hb => by
    have hlt := sz b hb
    refine ⟨⟨?_, (f2 b hb).2⟩, by rw [h3, Heap.size_push]; exact Nat.lt_succ_of_lt hlt⟩
    rw [upd_ne (by rw [← hD]; exact Nat.ne_of_lt hlt)]
    exact (f2 b hb).1
  have st3 : tn 0 s3.heap := T.keep _ _ _ st2 fun b _ o e => by rw [h3]; exact Heap.get?_push_of_some _ e
  have I4 := block_start I3 ok hN f3
  have pg := hg s3 (upd H2 D (.dK [])) s3.heap.objs.size (cellsFrom (s3.heap.objs.size + 1) scope.names (cloFrom X.env.cells scope.names [])) fp
  have pt := ht s3 (upd H2 D (.dK [])) s3.heap.objs.size (cellsFrom (s3.heap.objs.size + 1) scope.names (cloFrom X.env.cells scope.names [])) fp
  have pk := hk s3 (upd H2 D (.dK [])) s3.heap.objs.size (cellsFrom (s3.heap.objs.size + 1) scope.names (cloFrom X.env.cells scope.names [])) fp
  have pe := he s3 (upd H2 D (.dK [])) s3.heap.objs.size (cellsFrom (s3.heap.objs.size + 1) scope.names (cloFrom X.env.cells scope.names [])) fp
  have pi1 := hi1 s3 (upd H2 D (.dK [])) s3.heap.objs.size (cellsFrom (s3.heap.objs.size + 1) scope.names (cloFrom X.env.cells scope.names [])) fp
  have pg1 := hg1 s3 (upd H2 D (.dK [])) s3.heap.objs.size (cellsFrom (s3.heap.objs.size + 1) scope.names (cloFrom X.env.cells scope.names [])) fp
  have pt1 := ht1 s3 (upd H2 D (.dK [])) s3.heap.objs.size (cellsFrom (s3.heap.objs.size + 1) scope.names (cloFrom X.env.cells scope.names [])) fp
  show codeAny _ _ (.compStart (.DictComp kx vx [⟨tg, iter, ifs, 0⟩, ⟨tg1, iter1, ifs1, 0⟩] scope pos) 0 (.ref it) (.ref D) (compEnvC scope (cellsFrom (s3.heap.objs.size + 1) scope.names (cloFrom X.env.cells scope.names [])) s3.heap.objs.size X.env)) (compPost (model X.prog X.w) X.A X.xe use Qf (.ref D) s3.heap.objs.size) { s3 with heap := pushCells (s3.heap.push { cls := .type "dict", data := .dict #[] }) scope.names }
  have nfp : ∀ b ∈ fp, (upd H2 D (.dK [])) b = none := fun b hb => (f3 b hb).1.1
  generalize hce : compEnvC scope (cellsFrom (s3.heap.objs.size + 1) scope.names (cloFrom X.env.cells scope.names [])) s3.heap.objs.size X.env = ce at I4 pg pt pk pe pi1 pg1 pt1 ⊢
  have cL : ce.locals = s3.heap.objs.size := by subst hce; rfl
  generalize hH3 : upd H2 D (.dK []) = H3 at I3 I4 pg pt pk pe pi1 pg1 pt1 w0 nfp f3
  generalize hs4 : ({ s3 with heap := pushCells (s3.heap.push { cls := .type "dict", data := .dict #[] }) scope.names } : Shared) = s4 at I4 ⊢
  have st4 : tn 0 s4.heap := T.keep _ _ _ st3 fun b _ o e => by rw [← hs4]; exact pushCells_keeps _ _ _ _ (Heap.get?_push_of_some _ e)
  have stat : ∀ {σ' : L2.St} {H' : Hp} {s' : Shared}, L2.Inv (X.blk s3 H3 scope ce fp) [] σ' H' s' → (∀ b ∈ fp, H' b = none) → ∀ b ∈ fp, FpOk (X.blk s3 H3 scope ce fp) [] H' b := fun {σ' H' s'} I' hn b hb =>
    ⟨hn b hb, (I'.ok.exf b hb).1, I'.ok.exfs b hb, .inl hb, fun x c e => (I'.ok.exf b hb).2 x c e, fun p hp => absurd (show p ∈ ([] : List (Addr × Obj)) ++ [] from hp) (by simp)⟩
  have loop : codeAny (model X.prog X.w) X.A (.compLoop (.DictComp kx vx [⟨tg, iter, ifs, 0⟩, ⟨tg1, iter1, ifs1, 0⟩] scope pos) 0 (.ref it) (.ref D) ce) (compPost (model X.prog X.w) X.A X.xe use Qf (.ref D) s3.heap.objs.size) s4 := by
    refine compLoopD2_out (hs1 ce) (fun n s' => ∃ i H', L2.Inv (X.blk s3 H3 scope ce fp) [] (wipe σ (own.map (·.2))) H' s' ∧ tn i s'.heap ∧ (∀ b ∈ fp, H' b = none) ∧ W i n H') ?_ m0 ⟨0, H3, I4, st4, nfp, w0⟩
    rintro n s5 ⟨i, H5, I5, st5, n5, w5⟩
    rcases turn i n H5 w5 with ⟨stop, qq⟩ | ⟨go, Nx, hNx, step⟩
    · have td := T.done (X.blk s3 H3 scope ce fp) rfl rfl rfl hc i [] s5 _ H5 (fun _ _ => False) I5 (stat I5 n5) st5 stop
      refine thnF td fun r s6 ⟨hr, I6⟩ => ?_
      subst hr
      -- back in the def's context
      have I7 : L2.Inv X pins σ H5 s6 := I3.call' (ch := fp) I6.os I6.base I6.hok I6.bare fun b hb => ⟨(f3 b hb).1.2.2.2.1, (f3 b hb).1.2.1, (f3 b hb).1.2.2.2.2.1, (f3 b hb).1.2.2.2.2.2⟩
      have nC : H5 s3.heap.objs.size = none := by
        have z : H5 ce.locals = none := I6.free
        rw [cL] at z
        exact z
      obtain ⟨m, hn, _⟩ := I6.loc
      have hn : s6.heap.Ns ce.locals m := hn
      rw [cL] at hn
      exact hRR D s3.heap.objs.size s6 m H5 I7 qq hn (I3.fpOk (Nat.le_refl _) nC)
    · have ti := T.item (X.blk s3 H3 scope ce fp) rfl rfl rfl hc i [] s5 _ H5 (fun _ _ => False) I5 (stat I5 n5) st5 go
      refine thnF ti fun r s6 ⟨u, hr, h6⟩ => ?_
      subst hr
      refine thnF h6 fun _ s7 ⟨x, H7, I7, r7, y7, st7, n7⟩ => ?_
      have I7' := I7.pinned (stat I7 n7) (T.obj _ _ st7)
      refine thnF (pg.run _ s7 _ H7 x u _ I7' r7 (step x H7 y7)) fun _ s8 ⟨σ8, H8, I8, hw8, q8⟩ => ?_
      refine thnF (pt.run _ s8 σ8 H8 _ I8 q8) fun b s9 ⟨H9, I9, q9⟩ => ?_
      -- the turn's end, from any slots that know what the block knew at its start
      have fin : ∀ {σ9 : L2.St} {s' : Shared} {H' : Hp}, L2.Inv (X.blk s3 H3 scope ce fp) ([] ++ pinsAt fp s7.heap) σ9 H' s' → (wipe σ (own.map (·.2))).length = σ9.length → (∀ (j : Nat) v, (wipe σ (own.map (·.2)))[j]? = some (some v) → σ9[j]? = some (some v)) → Nx H' →
          ∃ m, m < n ∧ ∃ i H', L2.Inv (X.blk s3 H3 scope ce fp) [] (wipe σ (own.map (·.2))) H' s' ∧ tn i s'.heap ∧ (∀ b ∈ fp, H' b = none) ∧ W i m H' := fun {σ9 s' H'} I' hl hk nx => by
        obtain ⟨m', hm, w'⟩ := hNx H' nx
        have pin' : ∀ b ∈ fp, ∀ o, s7.heap.get? b = some o → s'.heap.get? b = some o ∧ H' b = none := fun b hb o e =>
          let z := I'.pin (b, o) (List.mem_append_right _ (List.mem_append_right _ (mem_pinsAt hb e)))
          ⟨z.1, z.2.1⟩
        refine ⟨m', hm, i + 1, H', (I'.unpinned (pins := [])).weak hl hk, T.keep _ _ _ st7 fun b hb o e => (pin' b hb o e).1, fun b hb => ?_, w'⟩
        obtain ⟨o, e, _⟩ := T.obj _ _ st7 b hb
        exact (pin' b hb o e).2
      have hl8 : (wipe σ (own.map (·.2))).length = σ8.length := by rw [← hw8, wipe_length]
      have hk8 : ∀ (j : Nat) v, (wipe σ (own.map (·.2)))[j]? = some (some v) → σ8[j]? = some (some v) := fun j v e => by
        rw [← hw8] at e
        exact (wipe_some e).1
      have hk9 : ∀ (j : Nat) v, (wipe σ (own.map (·.2)))[j]? = some (some v) → (wipe σ8 vs1)[j]? = some (some v) := fun j v e => by
        rw [← hw8] at e
        obtain ⟨e1, e2⟩ := wipe_some e
        rw [wipe_out fun z => e2 (hv j z)]
        exact e1
      cases b with
      | false =>
        simp only [Bool.false_eq_true, if_false] at q9 ⊢
        exact fin I9 hl8 hk8 q9
      | true =>
        simp only [if_true] at q9 ⊢
        refine thnF (pi1.run _ s9 σ8 H9 _ I9 q9) fun xv s10 hx => thnF hx fun itv s11 h11 => ?_
        obtain ⟨it1, fp1, tn1, J1, H11, e1, I11, T1, st11, f11, W1, ⟨m1, w1⟩, turn1⟩ := h11
        subst e1
        -- the inner loop
        have stat1 : ∀ {H' : Hp}, (∀ b ∈ fp1, H' b = none) → ∀ b ∈ fp1, FpOk (X.blk s3 H3 scope ce fp) ([] ++ pinsAt fp s7.heap) H' b := fun hn b hb => ⟨hn b hb, (f11 b hb).2⟩
        have loop1 : codeAny (model X.prog X.w) X.A (.compLoop (.DictComp kx vx [⟨tg, iter, ifs, 0⟩, ⟨tg1, iter1, ifs1, 0⟩] scope pos) 1 (.ref it1) (.ref D) ce)
            (fun r s' => match r with
              | .ok _ => ∃ m, m < n ∧ ∃ i H', L2.Inv (X.blk s3 H3 scope ce fp) [] (wipe σ (own.map (·.2))) H' s' ∧ tn i s'.heap ∧ (∀ b ∈ fp, H' b = none) ∧ W i m H'
              | .error _ => False) s11 := by
          refine compLoopD2_in (fun k s' => ∃ j H', L2.Inv (X.blk s3 H3 scope ce fp) ([] ++ pinsAt fp s7.heap) (wipe σ8 vs1) H' s' ∧ tn1 j s'.heap ∧ (∀ b ∈ fp1, H' b = none) ∧ W1 j k H') ?_ m1 ⟨0, H11, I11.weak (wipe_length _ _) (fun j v e => (wipe_some e).1), st11, fun b hb => (f11 b hb).1, w1⟩
          rintro k s12 ⟨j, H12, I12, st12, n12, w12⟩
          rcases turn1 j k H12 w12 with ⟨stop1, nx1⟩ | ⟨go1, Nx1, hNx1, step1⟩
          · refine thnF (T1.done (X.blk s3 H3 scope ce fp) rfl rfl rfl hc j _ s12 (wipe σ8 vs1) H12 (fun _ _ => False) I12 (stat1 n12) st12 stop1) fun r s13 ⟨hr, I13⟩ => ?_
            subst hr
            exact fin I13 (hl8.trans (wipe_length σ8 vs1).symm) hk9 nx1
          · refine thnF (T1.item (X.blk s3 H3 scope ce fp) rfl rfl rfl hc j _ s12 (wipe σ8 vs1) H12 (fun _ _ => False) I12 (stat1 n12) st12 go1) fun r s13 ⟨u1, hr, h13⟩ => ?_
            subst hr
            refine thnF h13 fun _ s14 ⟨x1, H14, I14, r14, y14, st14, n14⟩ => ?_
            have I14' := I14.pinned (stat1 n14) (T1.obj _ _ st14)
            refine thnF (pg1.run _ s14 (wipe σ8 vs1) H14 x1 u1 _ I14' r14 (step1 x1 H14 y14)) fun _ s15 ⟨σ15, H15, I15, hw15, q15⟩ => ?_
            refine thnF (pt1.run _ s15 σ15 H15 _ I15 q15) fun b1 s16 ⟨H16, I16, q16⟩ => ?_
            have fin1 : ∀ {s' : Shared} {H' : Hp}, L2.Inv (X.blk s3 H3 scope ce fp) (([] ++ pinsAt fp s7.heap) ++ pinsAt fp1 s14.heap) σ15 H' s' → Nx1 H' → ∃ m, m < k ∧ ∃ j H', L2.Inv (X.blk s3 H3 scope ce fp) ([] ++ pinsAt fp s7.heap) (wipe σ8 vs1) H' s' ∧ tn1 j s'.heap ∧ (∀ b ∈ fp1, H' b = none) ∧ W1 j m H' := fun {s' H'} I' nx => by
              obtain ⟨m', hm, w'⟩ := hNx1 H' nx
              have pin' : ∀ b ∈ fp1, ∀ o, s14.heap.get? b = some o → s'.heap.get? b = some o ∧ H' b = none := fun b hb o e =>
                let z := I'.pin (b, o) (List.mem_append_right _ (List.mem_append_right _ (mem_pinsAt hb e)))
                ⟨z.1, z.2.1⟩
              refine ⟨m', hm, j + 1, H', I'.unpinned.weak (by rw [← hw15, wipe_length]) (fun j v e => by rw [← hw15] at e; exact (wipe_some e).1), T1.keep _ _ _ st14 fun b hb o e => (pin' b hb o e).1, fun b hb => ?_, w'⟩
              obtain ⟨o, e, _⟩ := T1.obj _ _ st14 b hb
              exact (pin' b hb o e).2
            cases b1 with
            | false =>
              simp only [Bool.false_eq_true, if_false] at q16 ⊢
              exact fin1 I16 q16
            | true =>
              simp only [if_true] at q16 ⊢
              refine thnF (pk.run _ s16 σ15 H16 _ I16 q16) fun z s17 ⟨yk, H17, I17, r17, q17⟩ => ?_
              refine thnF (pe.run _ s17 σ15 H17 _ I17 q17) fun z2 s18 ⟨yv, H18, I18, r18, kvs, k, ek, hD18, hz18, nx⟩ => ?_
              subst ek
              exact d_dictSet (X := X.blk s3 H3 scope ce fp) I18 hD18 hz18 r17 r18 fun s19 I19 => fin1 I19 nx
        exact compStartD1_ok loop1 (T1.self X.A 0 _ _ _ st11 loop1)
  exact codeAny_compStart_dict loop (T.self X.A 0 _ _ _ st4 loop)
end

theorem wipe_in {i : Nat} : ∀ {vs : List Nat} {s : L2.St}, i ∈ vs → (L2.wipe s vs)[i]? = s[i]?.map fun _ => none
  | [], _, h => nomatch h
  | v :: vs, s, h => by
    show ((L2.wipe s vs).set v none)[i]? = _
    by_cases e : v = i
    · subst e
      by_cases hv : v < s.length
      · rw [List.getElem?_set_self (by rw [wipe_length]; exact hv), List.getElem?_eq_getElem hv]; rfl
      · rw [List.getElem?_eq_none (by rw [List.length_set, wipe_length]; omega), List.getElem?_eq_none (by omega)]; rfl
    · rw [List.getElem?_set_ne e]
      rcases List.mem_cons.mp h with z | z
      · exact absurd z.symm e
      · exact wipe_in z
theorem wipe_sub {vs1 vs : List Nat} {s : L2.St} (h : ∀ i ∈ vs1, i ∈ vs) : L2.wipe (L2.wipe s vs1) vs = L2.wipe s vs := by
  apply List.ext_getElem?
  intro i
  by_cases hi : i ∈ vs
  · have e : ∀ σ : L2.St, (L2.wipe σ vs)[i]? = σ[i]?.map fun _ => none := fun σ => wipe_in hi
    rw [e, e]
    by_cases h1 : i ∈ vs1
    · rw [show (L2.wipe s vs1)[i]? = s[i]?.map fun _ => none from wipe_in h1]
      cases s[i]? <;> rfl
    · rw [wipe_out h1]
  · rw [wipe_out hi, wipe_out hi, wipe_out fun z => hi (h i z)]
section
variable {K : PySem.W.Frag} {cl : Cl} {xa : Nat → Value} {W : WX} {P : Phi}
/-- what holds between two turns -/
def DcI (K : PySem.W.Frag) (cl : Cl) (D : Addr) (s' : L2.St) (G1 H1 : Hp) (f1 t : List Addr) (H' : Hp) (r' : Rho) (ks us : List GF.D) : Prop :=
  ∃ G' f' kvs, Ok K cl G' H' r' s' f' (D :: t) ∧ H' D = some (.dK kvs) ∧ keysD ks = some (kvs.map (·.1)) ∧ RepFs K cl G' us (kvs.map (·.2)) ∧ Ext f1 G1 H1 f' G' H'
theorem dc2_key {vs vs1 : List Nat} {tg tg1 : Tg} {it it1 : II} {kx x : IE} {p p1 : Bool} {s : L2.St} {H : Hp} {Q : VK} (hp : p = true → ∃ l, tg = .t l) (hp1 : p1 = true → ∃ l, tg1 = .t l) (hv : tgIn vs tg = true) (hv1 : tgIn vs1 tg1 = true) (hsub : ∀ i ∈ vs1, i ∈ vs) (h : tE K cl xa W (evalE P (.dc2 vs vs1 tg it tg1 it1 kx x)) s H Q) :
    tDc2 (tI K cl xa W p (evalI P it)) (gT K tg) (tB (tE K cl xa W0 (evalT P .nil))) (tI K cl xa W0 p1 (evalI P it1)) (gT K tg1) (tB (tE K cl xa W0 (evalT P .nil))) (tE K cl xa W0 (evalE P kx)) (tE K cl xa W0 (evalE P x)) vs vs1 s H Q := by
  obtain ⟨G, r, f, t, o, h⟩ := h
  refine ⟨G, r, f, t, o, ?_⟩
  unfold evalE at h
  cases hx : evalI P it r with
  | stuck => simp only [hx] at h; exact h
  | err k r1 => simp only [hx] at h; exact h
  | ok ds r1 =>
    simp only [hx] at h
    intro J G1 H1 f1 o1 e1 w D hD
    split at h
    case isFalse => exact h.elim
    rename_i hfr
    have h1 := PostE.base (f1 := f1) (fv := []) h (by simpa using e1)
    clear h
    let fin : RE → Prop := fun x => PostE K cl xa W s G1 H1 f1 ([] ++ t) (fun _ _ v _ _ H' _ => Q v H') (match x with
      | .ok o r2 => .ok o (backR r1 r2 vs)
      | _ => .stuck)
    let out : List GF.D → Rho → List GF.D → List GF.D → RE := dcOut vs vs1 (bindT tg) (fun r => evalI P it1 r) (bindT tg1) (fun r => evalE P kx r) (fun r => evalE P x r)
    let Pv : Nat → Hp → Prop := fun i H' => ∃ r' ks us, DcI K cl D (L2.wipe s vs) G1 H1 f1 t H' r' ks us ∧ (∀ i ∈ vs, getS r' i = none) ∧ fin (out (ds.drop i) r' ks us)
    refine ⟨fun i m H => m = ds.length - i ∧ i ≤ ds.length ∧ Pv i H, ⟨ds.length, by simp, Nat.zero_le _, ?_⟩, ?_⟩
    · obtain ⟨f2, o2, sub⟩ := o1.wipe vs
      obtain ⟨o3, e3⟩ := o2.new (New.dnew (cl := cl) (K := K) (G := G1) (H := H1) (p := D) o1.gh hD)
      exact ⟨_, [], [], ⟨G1, f2, [], o3, upd_same, rfl, RepFs.nil, (Ext.trans (Ext.sub (f1 := f1) Ext.refl sub) e3 fun _ z => z).sub fun a ha => List.mem_append_left _ ha⟩, fun i hi => getS_wipe hi, h1⟩
    · rintro i m H' ⟨rfl, hi, r', ks, us, ⟨G', f', kvs, o2, hDu, hks, ru, e2⟩, hno, hpost⟩
      have hG : Same G1 H' := e2.gs.trans o2.gh
      by_cases hlt : i < ds.length
      case neg =>
        have e : i = ds.length := by omega
        subst e
        refine .inl ⟨w.stops H' hG, ?_⟩
        rw [List.drop_length] at hpost
        have hpost : PostE K cl xa W s G1 H1 f1 ([] ++ t) (fun _ _ v _ _ H' _ => Q v H') (match dcOut vs vs1 (bindT tg) (fun r => evalI P it1 r) (bindT tg1) (fun r => evalE P kx r) (fun r => evalE P x r) [] r' ks us with
          | .ok o r2 => .ok o (backR r1 r2 vs)
          | _ => .stuck) := hpost
        unfold dcOut at hpost
        have sl := o2.sl.back o1.sl hfr e2.gs hno
        refine hpost (.ref D) [D] G' H' f' ⟨sl, o2.nd, o2.fr, o2.gh, o2.th⟩ ⟨e2.keep, e2.there, e2.gs, e2.gn, fun a ha => ?_⟩ ⟨D, kvs, rfl, hDu, hks, ru, rfl⟩
        rcases List.mem_append.mp ha with z | z
        · exact e2.fn a z
        · simp at z; subst z; exact .inr hD
      refine .inr ⟨w.goes i H' hlt hG, Pv (i + 1), fun H' p' => ⟨ds.length - (i + 1), by omega, rfl, hlt, p'⟩, fun y H3 yl => ?_⟩
      obtain ⟨d, hd, item⟩ := w.yields i H' y H3 hlt hG yl
      have hdr : ds.drop i = d :: ds.drop (i + 1) := by
        obtain ⟨hlt, e⟩ := List.getElem?_eq_some_iff.mp hd
        rw [List.drop_eq_getElem_cons hlt, e]
      rw [hdr] at hpost
      have hpost : PostE K cl xa W s G1 H1 f1 ([] ++ t) (fun _ _ v _ _ H' _ => Q v H') (match dcOut vs vs1 (bindT tg) (fun r => evalI P it1 r) (bindT tg1) (fun r => evalE P kx r) (fun r => evalE P x r) (d :: ds.drop (i + 1)) r' ks us with
          | .ok o r2 => .ok o (backR r1 r2 vs)
          | _ => .stuck) := hpost
      unfold dcOut at hpost
      cases hb : bindT tg d r' with
      | none => simp only [hb] at hpost; exact hpost.elim
      | some r2 =>
        simp only [hb] at hpost
        refine item_bind o2 e2.gs item hb hp fun s1 f3 o3 e3 kp hw0 => ?_
        have hw : L2.wipe s1 vs = L2.wipe s vs := (hw0 vs hv).trans wipe_idem
        refine ⟨hw, G', r2, f3, D :: t, o3, ?_⟩
        have hD3 : H3 D = some (.dK kvs) := (kp D (by rw [hDu]; simp)).trans hDu
        unfold evalT
        intro v fv G4 H4 f4 o4 e4 i4
        refine ⟨true, (show Rep K cl G4 H4 (.bl true) v fv from i4).bl, ?_⟩
        simp only [if_true]
        have e24 := ((e2.trans e3 fun _ z => z).trans e4 fun _ z => z).sub fun a ha => List.mem_append_left fv ha
        have hD4 : H4 D = some (.dK kvs) := (o3.temp e4 (by simp)).trans hD3
        have ru4 := RepFs.mono (e3.gs.trans e4.gs) ru
        refine ⟨G4, r2, f4, D :: t, o4.tail, ?_⟩
        cases hx1 : evalI P it1 r2 with
        | stuck => simp only [hx1] at hpost; exact hpost.elim
        | err k r3 => simp only [hx1] at hpost; exact hpost.elim
        | ok es r3 =>
          simp only [hx1] at hpost
          intro J1 G5 H5 f5 o5 e5 w1
          have hD5 : H5 D = some (.dK kvs) := ((o4.tail).temp e5 (by simp)).trans hD4
          have ru5 := RepFs.mono e5.gs ru4
          have e25 := e24.trans e5 fun _ z => z
          let inn : List GF.D → Rho → List GF.D → List GF.D → Option (Rho × List GF.D × List GF.D) := dcIn vs1 (bindT tg1) (fun r => evalE P kx r) (fun r => evalE P x r)
          let Pv1 : Nat → Hp → Prop := fun j H' => ∃ r' ks us, Same G5 H' ∧ (∃ G' f' kvs, Same G5 G' ∧ Ok K cl G' H' r' (L2.wipe s1 vs1) f' (D :: t) ∧ H' D = some (.dK kvs) ∧ keysD ks = some (kvs.map (·.1)) ∧ RepFs K cl G' us (kvs.map (·.2)) ∧ Ext f1 G1 H1 f' G' H') ∧
            fin (match inn (es.drop j) r' ks us with
              | some q => out (ds.drop (i + 1)) (wipeR q.1 vs) q.2.1 q.2.2
              | none => .stuck)
          refine ⟨fun j m H => m = es.length - j ∧ j ≤ es.length ∧ Pv1 j H, ⟨es.length, by simp, Nat.zero_le _, ?_⟩, ?_⟩
          · obtain ⟨f6, o6, sub⟩ := o5.wipe vs1
            refine ⟨_, ks, us, o5.gh, ⟨G5, f6, kvs, (fun _ _ z => z), o6, hD5, hks, ru5, e25.sub sub⟩, ?_⟩
            show fin (match dcIn vs1 (bindT tg1) (fun r => evalE P kx r) (fun r => evalE P x r) es (wipeR r3 vs1) ks us with | some q => out (ds.drop (i + 1)) (wipeR q.1 vs) q.2.1 q.2.2 | none => .stuck)
            exact hpost
          · rintro j m H6 ⟨rfl, hj, r6, ks6, us6, hG6, ⟨G6, f6, kvs6, sg6, o6, hD6, hks6, ru6, e26⟩, hpost6⟩
            by_cases hlt1 : j < es.length
            case neg =>
              have e : j = es.length := by omega
              subst e
              refine .inl ⟨w1.stops H6 hG6, ?_⟩
              rw [List.drop_length] at hpost6
              obtain ⟨f7, o7, sub⟩ := o6.wipe vs
              rw [wipe_sub hsub, hw] at o7
              exact ⟨_, ks6, us6, ⟨G6, f7, kvs6, o7, hD6, hks6, ru6, e26.sub sub⟩, fun i hi => getS_wipe hi, hpost6⟩
            refine .inr ⟨w1.goes j H6 hlt1 hG6, Pv1 (j + 1), fun H' p' => ⟨es.length - (j + 1), by omega, rfl, hlt1, p'⟩, fun y1 H7 yl1 => ?_⟩
            obtain ⟨d1, hd1, item1⟩ := w1.yields j H6 y1 H7 hlt1 hG6 yl1
            have hdr1 : es.drop j = d1 :: es.drop (j + 1) := by
              obtain ⟨hlt, e⟩ := List.getElem?_eq_some_iff.mp hd1
              rw [List.drop_eq_getElem_cons hlt, e]
            rw [hdr1] at hpost6
            have hpost6 : fin (match dcIn vs1 (bindT tg1) (fun r => evalE P kx r) (fun r => evalE P x r) (d1 :: es.drop (j + 1)) r6 ks6 us6 with | some q => out (ds.drop (i + 1)) (wipeR q.1 vs) q.2.1 q.2.2 | none => .stuck) := hpost6
            unfold dcIn at hpost6
            cases hb1 : bindT tg1 d1 r6 with
            | none => simp only [hb1] at hpost6; exact hpost6.elim
            | some r7 =>
              simp only [hb1] at hpost6
              refine item_bind o6 sg6 item1 hb1 hp1 fun s7 f7 o7 e7 kp7 hw7 => ?_
              have hw7' : L2.wipe s7 vs1 = L2.wipe s1 vs1 := (hw7 vs1 hv1).trans wipe_idem
              refine ⟨hw7', G6, r7, f7, D :: t, o7, ?_⟩
              have hD7 : H7 D = some (.dK kvs6) := (kp7 D (by rw [hD6]; simp)).trans hD6
              unfold evalT
              intro v8 fv8 G8 H8 f8 o8 e8 i8
              refine ⟨true, (show Rep K cl G8 H8 (.bl true) v8 fv8 from i8).bl, ?_⟩
              simp only [if_true]
              have hD8 : H8 D = some (.dK kvs6) := (o7.temp e8 (by simp)).trans hD7
              have e28 := ((e26.trans e7 fun _ z => z).trans e8 fun _ z => z).sub fun a ha => List.mem_append_left fv8 ha
              refine ⟨G8, r7, f8, D :: t, o8.tail, ?_⟩
              cases hkz : evalE P kx r7 with
              | stuck => simp only [hkz, RE.get] at hpost6; exact hpost6.elim
              | err k r4 => simp only [hkz, RE.get] at hpost6; exact hpost6.elim
              | ok odk r8 =>
                simp only [hkz, RE.get] at hpost6
                intro vk fk Gk Hk fk' ok ek ik
                cases eok : odk.get r8 with
                | none => simp only [eok] at hpost6; exact hpost6.elim
                | some kd =>
                  simp only [eok] at hpost6
                  obtain ⟨fxk, rdk⟩ := ik.rep ok eok
                  have hDk : Hk D = some (.dK kvs6) := ((o8.tail).temp ek (by simp)).trans hD8
                  refine ⟨Gk, r8, fk', D :: t, ok.tail, ?_⟩
                  cases hz : evalE P x r8 with
                  | stuck => simp only [hz] at hpost6; exact hpost6.elim
                  | err k r5 => simp only [hz] at hpost6; exact hpost6.elim
                  | ok od4 r9 =>
                    cases od4 with
                    | slot i => simp only [hz] at hpost6; exact hpost6.elim
                    | val z =>
                      simp only [hz] at hpost6
                      by_cases hlen' : odD z = false ∧ ks6.length < sizeLine
                      case neg => rw [if_neg hlen'] at hpost6; exact hpost6.elim
                      rw [if_pos hlen'] at hpost6
                      obtain ⟨hod, hlen⟩ := hlen'
                      cases hput : dctPut ks6 us6 kd z.frz with
                      | none => simp only [hput] at hpost6; exact hpost6.elim
                      | some pr =>
                        simp only [hput] at hpost6
                        have hkd : ∃ j, keyD kd = some j := by
                          unfold dctPut at hput
                          rw [hks6] at hput
                          cases e : keyD kd with
                          | none => rw [e] at hput; cases hput
                          | some j => exact ⟨j, rfl⟩
                        obtain ⟨jk, hjk⟩ := hkd
                        intro v9 fv9 G9 H9 f9 o9 e9 i9
                        obtain ⟨o10, e10, rf⟩ := o9.frz hod i9
                        have hD9 : H9 D = some (.dK kvs6) := ((ok.tail).temp e9 (by simp)).trans hDk
                        have ek9 : Ext fk' Gk Hk f9 (gHp G9 H9 fv9) H9 := e9.trans e10 fun _ z => z
                        have hkl : kvs6.length < sizeLine := by
                          have e := (keysD_V (K := K) (cl := cl) (G := G8) hks6).len
                          rw [List.length_map, List.length_map] at e
                          omega
                        refine ⟨kvs6, jk, keyD_V rdk hjk, hD9, hkl, ?_⟩
                        obtain ⟨f11, o11, sub⟩ := o10.wipe vs1
                        rw [hw7'] at o11
                        have e1k : Ext f1 G1 H1 fk' Gk Hk := (e28.trans ek fun _ z => z).sub fun a ha => List.mem_append_left _ ha
                        have e19 : Ext f1 G1 H1 f9 (gHp G9 H9 fv9) H9 := e1k.trans ek9 fun _ z => z
                        have sg : Same G6 (gHp G9 H9 fv9) := (e7.gs.trans e8.gs).trans (ek.gs.trans ek9.gs)
                        obtain ⟨q1, q2⟩ := dctPut_V hks6 (RepFs.mono sg ru6) rf hjk hput
                        have o12 := o11.updT (T := D) (ob := .dK (putK kvs6 jk v9)) (by simp)
                        refine ⟨_, pr.1, pr.2, (sg6.trans sg).trans o12.gh, ⟨gHp G9 H9 fv9, f11, putK kvs6 jk v9, sg6.trans sg, o12, upd_same, q1, q2, ?_⟩, hpost6⟩
                        refine ⟨fun a h1 h2 => ?_, fun a h1 => ?_, e19.gs, e19.gn, fun a ha => e19.fn a (sub a ha)⟩
                        · rw [upd_ne fun z => h1 (by rw [z]; exact hD)]; exact e19.keep a h1 h2
                        · rw [upd_ne fun z => h1 (by rw [z]; exact hD)]; exact e19.there a h1
end

section
variable {X : Cx}
theorem pe_dc2 {kx vx tg iter tg1 iter1 : Expr} {ifs ifs1 : List Expr} {scope : Scope} {own : List (Str × Nat)} {vs1 : List Nat} {pos : Pos} {wi wi1 : TI} {g g1 : TG} {tt tt1 : TT} {tk tv : TE} (hc : X.calm = true) (hN : X.N.Nodup) (hi : PI X tg iter wi) (ok : BlkOk X.N X.env.scope scope own) (hv : ∀ i ∈ vs1, i ∈ own.map (·.2))
    (hg : ∀ (s : Shared) (H : Hp) (C : Addr) (cl : List (Str × Addr)) (fp : List Addr), PG (X.blk s H scope (compEnvC scope cl C X.env) fp) tg g) (ht : ∀ (s : Shared) (H : Hp) (C : Addr) (cl : List (Str × Addr)) (fp : List Addr), PTs (X.blk s H scope (compEnvC scope cl C X.env) fp) ifs tt)
    (hi1 : ∀ (s : Shared) (H : Hp) (C : Addr) (cl : List (Str × Addr)) (fp : List Addr), PI (X.blk s H scope (compEnvC scope cl C X.env) fp) tg1 iter1 wi1)
    (hg1 : ∀ (s : Shared) (H : Hp) (C : Addr) (cl : List (Str × Addr)) (fp : List Addr), PG (X.blk s H scope (compEnvC scope cl C X.env) fp) tg1 g1) (ht1 : ∀ (s : Shared) (H : Hp) (C : Addr) (cl : List (Str × Addr)) (fp : List Addr), PTs (X.blk s H scope (compEnvC scope cl C X.env) fp) ifs1 tt1)
    (hk : ∀ (s : Shared) (H : Hp) (C : Addr) (cl : List (Str × Addr)) (fp : List Addr), PE (X.blk s H scope (compEnvC scope cl C X.env) fp) kx tk)
    (he : ∀ (s : Shared) (H : Hp) (C : Addr) (cl : List (Str × Addr)) (fp : List Addr), PE (X.blk s H scope (compEnvC scope cl C X.env) fp) vx tv) (hs : ∀ x, foldedSetIterable iter X.env x = pure x) (hs1 : ∀ env x, foldedSetIterable iter1 env x = pure x) :
    PE X (.DictComp kx vx [⟨tg, iter, ifs, 0⟩, ⟨tg1, iter1, ifs1, 0⟩] scope pos) (tDc2 wi g tt wi1 g1 tt1 tk tv (own.map (·.2)) vs1) := by
  refine ⟨fun pins s σ H Q I h => ?_⟩
  rw [arm_eval_DictComp]
  refine dc2_core hc hN I hi ok hv hg ht hk he hs hi1 hg1 ht1 hs1 h fun D C s' m H' I' q hn f => ⟨m, hn, fun h'' sb => ?_⟩
  obtain ⟨f0, f1, f2, f3, f4, f5⟩ := f
  exact ⟨.ref D, H', I'.turned (t' := s'.toks) (fun b o hb e => (sb.2 b hb).trans e) f0 f1 f3 f4 f5, rfl, q⟩
theorem ps_setDc2 {i : Nat} {y : Str} {py : Pos} {kx vx tg iter tg1 iter1 : Expr} {ifs ifs1 : List Expr} {scope : Scope} {own : List (Str × Nat)} {vs1 : List Nat} {pos spos : Pos} {wi wi1 : TI} {g g1 : TG} {tt tt1 : TT} {tk tv : TE} (hc : X.calm = true) (hN : X.N.Nodup) (hy : X.N[i]? = some y) (hyl : X.env.scope.names.lookup y = some .local)
    (hsw : swapsWith (.DictComp kx vx [⟨tg, iter, ifs, 0⟩, ⟨tg1, iter1, ifs1, 0⟩] scope pos) (some (.Name y py)) spos.line X.env = pure true) (hi : PI X tg iter wi) (ok : BlkOk X.N X.env.scope scope own) (hv : ∀ i ∈ vs1, i ∈ own.map (·.2))
    (hg : ∀ (s : Shared) (H : Hp) (C : Addr) (cl : List (Str × Addr)) (fp : List Addr), PG (X.blk s H scope (compEnvC scope cl C X.env) fp) tg g) (ht : ∀ (s : Shared) (H : Hp) (C : Addr) (cl : List (Str × Addr)) (fp : List Addr), PTs (X.blk s H scope (compEnvC scope cl C X.env) fp) ifs tt)
    (hi1 : ∀ (s : Shared) (H : Hp) (C : Addr) (cl : List (Str × Addr)) (fp : List Addr), PI (X.blk s H scope (compEnvC scope cl C X.env) fp) tg1 iter1 wi1)
    (hg1 : ∀ (s : Shared) (H : Hp) (C : Addr) (cl : List (Str × Addr)) (fp : List Addr), PG (X.blk s H scope (compEnvC scope cl C X.env) fp) tg1 g1) (ht1 : ∀ (s : Shared) (H : Hp) (C : Addr) (cl : List (Str × Addr)) (fp : List Addr), PTs (X.blk s H scope (compEnvC scope cl C X.env) fp) ifs1 tt1)
    (hk : ∀ (s : Shared) (H : Hp) (C : Addr) (cl : List (Str × Addr)) (fp : List Addr), PE (X.blk s H scope (compEnvC scope cl C X.env) fp) kx tk)
    (he : ∀ (s : Shared) (H : Hp) (C : Addr) (cl : List (Str × Addr)) (fp : List Addr), PE (X.blk s H scope (compEnvC scope cl C X.env) fp) vx tv) (hs : ∀ x, foldedSetIterable iter X.env x = pure x) (hs1 : ∀ env x, foldedSetIterable iter1 env x = pure x) :
    PS X (.Assign [.Name y py] (.DictComp kx vx [⟨tg, iter, ifs, 0⟩, ⟨tg1, iter1, ifs1, 0⟩] scope pos) spos) (tAsg (tPin (tDc2 wi g tt wi1 g1 tt1 tk tv (own.map (·.2)) vs1)) (gName i)) := by
  refine ⟨fun pins s σ H D I h => ?_⟩
  rw [exec_Assign_Name_used _ _ _ _ hsw]
  refine wpAny_bind (wpAny_standAt (wpAny_bind ?_))
  show wpAny _ X.A (do let _ ← comprehension (.DictComp kx vx [⟨tg, iter, ifs, 0⟩, ⟨tg1, iter1, ifs1, 0⟩] scope pos) scope X.env (firstIterPos [⟨tg, iter, ifs, 0⟩, ⟨tg1, iter1, ifs1, 0⟩] pos) newDict false (eval iter X.env) (some (assign (.Name y py) X.env))) _ _ s
  have h : tDc2 wi g tt wi1 g1 tt1 tk tv (own.map (·.2)) vs1 σ H (fun v H' => (∃ a kvs, v = .ref a ∧ H' a = some (.dK kvs) ∧ ∀ ob, gName i v σ (upd H' a (.frz ob (.dK kvs))) D.nx) ∨ gName i v σ H' D.nx) := h
  have fin : ∀ (L C : Addr) (s' : Shared) (m : Str → Option Value) (H' : Hp), L2.Inv X pins σ H' s' → gName i (.ref L) σ H' D.nx → s'.heap.Ns C m → FpOk X pins H' C → compPost (model X.prog X.w) X.A X.xe (some (assign (.Name y py) X.env)) (fun _ s' => SP X pins D .next s') (.ref L) C (.ok .next) s' := by
    intro L C s' m H' I' q hn f
    show wpAny _ _ (assign (.Name y py) X.env (.ref L)) _ _ _
    refine wpAny_assign_Name (store_ok2 (v := V.ref L) I' hN hy (.inl hyl) rfl (fun s2 I2 ⟨a, sb, ha⟩ => ?_) (.inr hyl))
    obtain ⟨f0, f1, f2, f3, f4, f5⟩ := f
    have haC : C ≠ a := by
      rcases ha with z | z
      · rw [z]; exact f1
      · exact fun e => f4 y a z e.symm
    refine ⟨m, hn.sameBut sb haC, fun h3 sb3 => ?_⟩
    exact ⟨_, H', I2.turned (t' := s2.toks) (fun b o hb e => (sb3.2 b hb).trans e) f0 f1 f3 f4 f5, q⟩
  refine wpAny_bind (thn (dc2_core (Qf := fun _ s' => SP X pins D .next s') hc hN I hi ok hv hg ht hk he hs hi1 hg1 ht1 hs1 h fun L C s' m H' I' q hn f => ?_) fun _ s' hq => wpAny_pure (wpAny_pure hq))
  rcases q with ⟨a, kvs, e1, e2, q⟩ | q
  · obtain ⟨ob, I2⟩ := I'.lock e2 trivial
    have hne : C ≠ a := fun e => by
      have := f.1
      rw [e, e2] at this
      cases this
    exact fin L C s' m _ I2 (q ob) hn ⟨by rw [upd_ne hne]; exact f.1, f.2⟩
  · exact fin L C s' m H' I' q hn f
theorem cI_fs {C : CC} {sc : Scope} {rec : Scope → Bool → Expr → Option IE} {e : Expr} {ii : II} (h : cI C rec sc e = some ii) : ∀ env x, foldedSetIterable e env x = pure x := by
  intro env x
  cases e <;> first | rfl | (unfold cI at h; cases h)
end
end GF
namespace GF
open PySem L2 PySem.Spec PyProof.Rows

section
variable {X : Cx} {cl : Cl} {xa : Nat → Value} {W : WX} {P : Phi} {C : CC} {n : Nat} {sc scope : Scope}
theorem Good.hu (g : Good C cl xa P n X) : X.A.units + 65 < cLine := by
  have := g.room.un
  omega
theorem FnG.blk {X' : Cx} {fa : Addr} {sp : Sp} (h : FnG X n fa sp) (e1 : X'.K = X.K) (e2 : X'.prog = X.prog) (e3 : X'.w = X.w) (e4 : X'.mg = X.mg) (e5 : X'.base = X.base) : FnG X' n fa sp := by
  obtain ⟨h1, h2⟩ := h
  exact ⟨by rw [e1]; exact h1, by rw [e1, e2, e3, e4, e5]; exact h2⟩
theorem Good.blk (g : Good C cl xa P n X) {s : Shared} {H : Hp} {env : Env} {fp : List Addr} : Good C cl xa P n (X.blk s H scope env fp) where
  calm := g.calm
  nd := g.nd
  hN := g.hN
  room := g.room
  con := g.con
  fn := fun x f h => let ⟨fa, h1, h2⟩ := g.fn x f h; ⟨fa, h1, h2.blk rfl rfl rfl rfl rfl⟩
  cls := fun x k h => let ⟨A, fi, h1, h2, h3, h4⟩ := g.cls x k h; ⟨A, fi, h1, h2, h3, h4.blk rfl rfl rfl rfl rfl⟩
  exc := g.exc
  sub := g.sub
  exi := g.exi
  kit := g.kit
  blt := g.blt
  fld := g.fld
  att := g.att
  hfs := g.hfs
  mth := fun m j k f A h1 h2 h3 => let ⟨fa, k1, k2, k3, k4⟩ := g.mth m j k f A h1 h2 h3; ⟨fa, k1, k2, k3.blk rfl rfl rfl rfl rfl, k4⟩
theorem lookup_relS_fwd {sc : Scope} : ∀ {names : List (Str × NameKind)} {x : Str} {k : NameKind}, names.lookup x = some k →
    ∃ k', (names.map fun (n, k) => if (k == NameKind.free && sc.kind == .function && sc.names.lookup n == some .cell) then (n, NameKind.cell) else (n, k)).lookup x = some k' ∧ (k' = k ∨ (k = .free ∧ k' = .cell))
  | [], _, _, h => by simp at h
  | (m, k0) :: r, x, k, h => by
    have ih := @lookup_relS_fwd sc r x k
    rw [List.map_cons]
    cases hx : x == m with
    | true =>
      have e : k0 = k := by simpa [List.lookup_cons, hx] using h
      by_cases hc : (k0 == NameKind.free && sc.kind == .function && sc.names.lookup m == some .cell) = true
      · have hk : k0 = .free := by
          simp only [Bool.and_eq_true, beq_iff_eq] at hc
          exact hc.1.1
        refine ⟨.cell, ?_, .inr ⟨e ▸ hk, rfl⟩⟩
        simp only [hc, if_true, List.lookup_cons, hx]
      · refine ⟨k, ?_, .inl rfl⟩
        subst e
        simp only [hc, if_false, Bool.false_eq_true, List.lookup_cons, hx]
    | false =>
      have h : r.lookup x = some k := by simpa [List.lookup_cons, hx] using h
      obtain ⟨k', h1, h2⟩ := ih h
      refine ⟨k', ?_, h2⟩
      by_cases hc : (k0 == NameKind.free && sc.kind == .function && sc.names.lookup m == some .cell) = true
      · simp only [hc, if_true, List.lookup_cons, hx]; exact h1
      · simp only [hc, if_false, Bool.false_eq_true, List.lookup_cons, hx]; exact h1
theorem ScOk.blk (so : ScOk sc X) (hk : scope.kind = .function) {s : Shared} {H : Hp} {c : Addr} {cells : List (Str × Addr)} {fp : List Addr} : ScOk scope (X.blk s H scope (compEnvC scope cells c X.env) fp) where
  k := fun x k h => lookup_relS_fwd (sc := X.env.scope) h
  f := fun x h => by show (scope.names.lookup x == some .cell) = true; rw [h]; rfl
  fk := hk
theorem _root_.L2.PTs.weak {ifs : List Expr} {t t' : TT} (h : PTs X ifs t) (k : ∀ s H Q, t' s H Q → t s H Q) : PTs X ifs t' := ⟨fun pins s σ H Q I q => h.run pins s σ H Q I (k σ H Q q)⟩
/-- blkC's scopes: what the text's scope says, the running scope says -/
theorem blk_run (so : ScOk sc X) {own : List (Str × Nat)} (h : blkC X.N sc scope own = true) : BlkOk X.N X.env.scope scope own := by
  have b := blkOk_by h
  refine ⟨b.kind, b.uniq, b.ix, fun y hy e => ?_, b.own⟩
  rcases b.free y hy e with z | z
  · obtain ⟨k', h1, h2 | ⟨h2, h3⟩⟩ := so.k _ _ z
    · subst h2; exact .inl h1
    · cases h2
  · obtain ⟨k', h1, h2 | ⟨h2, h3⟩⟩ := so.k _ _ z
    · subst h2; exact .inr h1
    · subst h3; exact .inl h1
/-- a comprehension in all its parts -/
structure LcOk (C : CC) (cl : Cl) (xa : Nat → Value) (W : WX) (P : Phi) (X : Cx) (sc scope : Scope) (own : List (Str × Nat)) (tg iter elt : Expr) (ifs : List Expr) (t : Tg) (i : II) (c : IEs) (x : IE) : Prop where
  ok : BlkOk X.N X.env.scope scope own
  tin : tgIn (own.map (·.2)) t = true
  pi : PI X tg iter (tI X.K cl xa W (isT t) (evalI P i))
  fs : ∀ x, foldedSetIterable iter X.env x = pure x
  pg : ∀ (s : Shared) (H : Hp) (c : Addr) (cells : List (Str × Addr)) (fp : List Addr), PG (X.blk s H scope (compEnvC scope cells c X.env) fp) tg (gT X.K t)
  pt : ∀ (s : Shared) (H : Hp) (c' : Addr) (cells : List (Str × Addr)) (fp : List Addr), PTs (X.blk s H scope (compEnvC scope cells c' X.env) fp) ifs (tB (tE X.K cl xa W0 (evalT P c)))
  pe : ∀ (s : Shared) (H : Hp) (c : Addr) (cells : List (Str × Addr)) (fp : List Addr), PE (X.blk s H scope (compEnvC scope cells c X.env) fp) elt (tE X.K cl xa W0 (evalE P x))
theorem LcOk.key {own : List (Str × Nat)} {tg iter elt : Expr} {ifs : List Expr} {t : Tg} {i : II} {c : IEs} {x : IE} (l : LcOk C cl xa W P X sc scope own tg iter elt ifs t i c x) {s : L2.St} {H : Hp} {Q : VK} (h : tE X.K cl xa W (evalE P (.lc (own.map (·.2)) t i c x)) s H Q) :
    tLc (tI X.K cl xa W (isT t) (evalI P i)) (gT X.K t) (tB (tE X.K cl xa W0 (evalT P c))) (tE X.K cl xa W0 (evalE P x)) (own.map (·.2)) s H Q :=
  lc_key (fun hp => by
    cases t with
    | n i => cases hp
    | t l => exact ⟨_, rfl⟩) l.tin h
theorem se_lc (g : Good C cl xa P n X) {own : List (Str × Nat)} {tg iter elt : Expr} {ifs : List Expr} {t : Tg} {i : II} {c : IEs} {x : IE} {pos : Pos} (l : LcOk C cl xa W P X sc scope own tg iter elt ifs t i c x) :
    SE cl xa W P X (.ListComp elt [⟨tg, iter, ifs, 0⟩] scope pos) (.lc (own.map (·.2)) t i c x) := by
  have key : PE X (.ListComp elt [⟨tg, iter, ifs, 0⟩] scope pos) (tE X.K cl xa W (evalE P (.lc (own.map (·.2)) t i c x))) :=
    (pe_lc g.calm g.nd l.pi l.ok l.pg l.pt l.pe l.fs).weak fun s H Q h => l.key h
  exact ⟨key, pt_val key, fun _ _ => nofun⟩
/-- a dict comprehension in all its parts -/
structure DcOk (C : CC) (cl : Cl) (xa : Nat → Value) (W : WX) (P : Phi) (X : Cx) (sc scope : Scope) (own : List (Str × Nat)) (tg iter kx elt : Expr) (ifs : List Expr) (t : Tg) (i : II) (c : IEs) (k x : IE) : Prop where
  ok : BlkOk X.N X.env.scope scope own
  tin : tgIn (own.map (·.2)) t = true
  pi : PI X tg iter (tI X.K cl xa W (isT t) (evalI P i))
  fs : ∀ x, foldedSetIterable iter X.env x = pure x
  pg : ∀ (s : Shared) (H : Hp) (c : Addr) (cells : List (Str × Addr)) (fp : List Addr), PG (X.blk s H scope (compEnvC scope cells c X.env) fp) tg (gT X.K t)
  pt : ∀ (s : Shared) (H : Hp) (c' : Addr) (cells : List (Str × Addr)) (fp : List Addr), PTs (X.blk s H scope (compEnvC scope cells c' X.env) fp) ifs (tB (tE X.K cl xa W0 (evalT P c)))
  pk : ∀ (s : Shared) (H : Hp) (c : Addr) (cells : List (Str × Addr)) (fp : List Addr), PE (X.blk s H scope (compEnvC scope cells c X.env) fp) kx (tE X.K cl xa W0 (evalE P k))
  pe : ∀ (s : Shared) (H : Hp) (c : Addr) (cells : List (Str × Addr)) (fp : List Addr), PE (X.blk s H scope (compEnvC scope cells c X.env) fp) elt (tE X.K cl xa W0 (evalE P x))
theorem DcOk.key {own : List (Str × Nat)} {tg iter kx elt : Expr} {ifs : List Expr} {t : Tg} {i : II} {c : IEs} {k x : IE} (l : DcOk C cl xa W P X sc scope own tg iter kx elt ifs t i c k x) {s : L2.St} {H : Hp} {Q : VK} (h : tE X.K cl xa W (evalE P (.dc (own.map (·.2)) t i c k x)) s H Q) :
    tDc (tI X.K cl xa W (isT t) (evalI P i)) (gT X.K t) (tB (tE X.K cl xa W0 (evalT P c))) (tE X.K cl xa W0 (evalE P k)) (tE X.K cl xa W0 (evalE P x)) (own.map (·.2)) s H Q :=
  dc_key (fun hp => by
    cases t with
    | n i => cases hp
    | t l => exact ⟨_, rfl⟩) l.tin h
theorem se_dc (g : Good C cl xa P n X) {own : List (Str × Nat)} {tg iter kx elt : Expr} {ifs : List Expr} {t : Tg} {i : II} {c : IEs} {k x : IE} {pos : Pos} (l : DcOk C cl xa W P X sc scope own tg iter kx elt ifs t i c k x) :
    SE cl xa W P X (.DictComp kx elt [⟨tg, iter, ifs, 0⟩] scope pos) (.dc (own.map (·.2)) t i c k x) := by
  have key : PE X (.DictComp kx elt [⟨tg, iter, ifs, 0⟩] scope pos) (tE X.K cl xa W (evalE P (.dc (own.map (·.2)) t i c k x))) :=
    (pe_dc g.calm g.nd l.pi l.ok l.pg l.pt l.pk l.pe l.fs).weak fun s H Q h => l.key h
  exact ⟨key, pt_val key, fun _ _ => nofun⟩
theorem dc_ok {rec : Scope → Bool → Expr → Option IE} (g : Good C cl xa P n X) (so : ScOk sc X) (hf : ∀ md e ir, rec sc md e = some ir → SE cl xa W P X e ir)
    (hb : ∀ scope X' md e ir, Good C cl xa P n X' → ScOk scope X' → Takes X' W0 → rec scope md e = some ir → SE cl xa W0 P X' e ir)
    {kx elt : Expr} {gens : List Comprehension} {ir : IE} (h : cDC C rec sc kx elt gens scope = some ir) :
    ∃ own tg iter ifs t i c k x, gens = [⟨tg, iter, ifs, 0⟩] ∧ ir = .dc (own.map (·.2)) t i c k x ∧ DcOk C cl xa W P X sc scope own tg iter kx elt ifs t i c k x := by
  unfold cDC at h
  split at h
  · rename_i tg it ifs
    dsimp only at h
    by_cases hblk : blkC C.N sc scope (ownOf C.N scope.names) = true
    · rw [if_pos hblk] at h
      have hk : scope.kind = .function := (blkOk_by hblk).kind
      split at h
      · rename_i i t k x hi ht hkx hx
        split at h
        · cases h
        · rename_i hc
          have hc : (tgIn ((ownOf C.N scope.names).map (·.2)) t && okTg t i) = true := by simpa using hc
          simp only [Bool.and_eq_true] at hc
          have pgs : ∀ (s : Shared) (H : Hp) (c : Addr) (cells : List (Str × Addr)) (fp : List Addr), PG (X.blk s H scope (compEnvC scope cells c X.env) fp) tg (gT X.K t) := fun s H c cells fp =>
            pg_cT (X := X.blk s H scope (compEnvC scope cells c X.env) fp) g.calm g.nd g.hN (so.blk hk) tg t ht
          obtain ⟨pi, fs⟩ := si_cI_any g so hf hi (t := t) (tg := tg) (fun l hl => cT_t (hl ▸ ht)) hc.2
          have pes : ∀ (s : Shared) (H : Hp) (c : Addr) (cells : List (Str × Addr)) (fp : List Addr), PE (X.blk s H scope (compEnvC scope cells c X.env) fp) elt (tE X.K cl xa W0 (evalE P x)) := fun s H c cells fp =>
            (hb scope _ false elt x g.blk (so.blk hk) takes0 hx).pe
          have pks : ∀ (s : Shared) (H : Hp) (c : Addr) (cells : List (Str × Addr)) (fp : List Addr), PE (X.blk s H scope (compEnvC scope cells c X.env) fp) kx (tE X.K cl xa W0 (evalE P k)) := fun s H c cells fp =>
            (hb scope _ true kx k g.blk (so.blk hk) takes0 hkx).pe
          have ok : BlkOk X.N X.env.scope scope (ownOf C.N scope.names) := blk_run so (by rw [g.hN]; exact hblk)
          split at h
          · cases h
            refine ⟨_, tg, it, [], t, i, .nil, k, x, rfl, rfl, ok, hc.1, pi, fs, pgs, fun s H c cells fp => pts_nil.weak fun s H Q ⟨G, r, f, t, o, h⟩ => ?_, pks, pes⟩
            unfold evalT at h
            obtain ⟨b, e, q⟩ := PostE.fin (Q := fun v H' => ∃ b, v = .bl b ∧ Q b H') h o (New.bl o.gh true)
            injection e with e
            subst e
            exact q
          · rename_i c
            rw [Option.map_eq_some_iff] at h
            obtain ⟨y, hy, rfl⟩ := h
            exact ⟨_, tg, it, [c], t, i, .cons y .nil, k, x, rfl, rfl, ok, hc.1, pi, fs, pgs, fun s H c' cells fp => pts_one ((hb scope _ true c y g.blk (so.blk hk) takes0 hy).pt), pks, pes⟩
          · cases h
      · cases h
    · rw [if_neg hblk] at h; cases h
  · cases h
/-- two fors, in all its parts -/
structure Dc2Ok (C : CC) (cl : Cl) (xa : Nat → Value) (W : WX) (P : Phi) (X : Cx) (sc scope : Scope) (own : List (Str × Nat)) (vs1 : List Nat) (tg iter tg1 iter1 kx elt : Expr) (t : Tg) (i : II) (t1 : Tg) (i1 : II) (k x : IE) : Prop where
  ok : BlkOk X.N X.env.scope scope own
  tin : tgIn (own.map (·.2)) t = true
  tin1 : tgIn vs1 t1 = true
  sub : ∀ i ∈ vs1, i ∈ own.map (·.2)
  pi : PI X tg iter (tI X.K cl xa W (isT t) (evalI P i))
  fs : ∀ x, foldedSetIterable iter X.env x = pure x
  fs1 : ∀ env x, foldedSetIterable iter1 env x = pure x
  pg : ∀ (s : Shared) (H : Hp) (c : Addr) (cells : List (Str × Addr)) (fp : List Addr), PG (X.blk s H scope (compEnvC scope cells c X.env) fp) tg (gT X.K t)
  pt : ∀ (s : Shared) (H : Hp) (c' : Addr) (cells : List (Str × Addr)) (fp : List Addr), PTs (X.blk s H scope (compEnvC scope cells c' X.env) fp) [] (tB (tE X.K cl xa W0 (evalT P .nil)))
  pi1 : ∀ (s : Shared) (H : Hp) (c : Addr) (cells : List (Str × Addr)) (fp : List Addr), PI (X.blk s H scope (compEnvC scope cells c X.env) fp) tg1 iter1 (tI X.K cl xa W0 (isT t1) (evalI P i1))
  pg1 : ∀ (s : Shared) (H : Hp) (c : Addr) (cells : List (Str × Addr)) (fp : List Addr), PG (X.blk s H scope (compEnvC scope cells c X.env) fp) tg1 (gT X.K t1)
  pk : ∀ (s : Shared) (H : Hp) (c : Addr) (cells : List (Str × Addr)) (fp : List Addr), PE (X.blk s H scope (compEnvC scope cells c X.env) fp) kx (tE X.K cl xa W0 (evalE P k))
  pe : ∀ (s : Shared) (H : Hp) (c : Addr) (cells : List (Str × Addr)) (fp : List Addr), PE (X.blk s H scope (compEnvC scope cells c X.env) fp) elt (tE X.K cl xa W0 (evalE P x))
theorem isT_t {t : Tg} (hp : isT t = true) : ∃ l, t = .t l := by
  cases t with
  | n i => cases hp
  | t l => exact ⟨_, rfl⟩
theorem Dc2Ok.key {own : List (Str × Nat)} {vs1 : List Nat} {tg iter tg1 iter1 kx elt : Expr} {t : Tg} {i : II} {t1 : Tg} {i1 : II} {k x : IE} (l : Dc2Ok C cl xa W P X sc scope own vs1 tg iter tg1 iter1 kx elt t i t1 i1 k x) {s : L2.St} {H : Hp} {Q : VK} (h : tE X.K cl xa W (evalE P (.dc2 (own.map (·.2)) vs1 t i t1 i1 k x)) s H Q) :
    tDc2 (tI X.K cl xa W (isT t) (evalI P i)) (gT X.K t) (tB (tE X.K cl xa W0 (evalT P .nil))) (tI X.K cl xa W0 (isT t1) (evalI P i1)) (gT X.K t1) (tB (tE X.K cl xa W0 (evalT P .nil))) (tE X.K cl xa W0 (evalE P k)) (tE X.K cl xa W0 (evalE P x)) (own.map (·.2)) vs1 s H Q :=
  dc2_key isT_t isT_t l.tin l.tin1 l.sub h
theorem se_dc2 (g : Good C cl xa P n X) {own : List (Str × Nat)} {vs1 : List Nat} {tg iter tg1 iter1 kx elt : Expr} {t : Tg} {i : II} {t1 : Tg} {i1 : II} {k x : IE} {pos : Pos} (l : Dc2Ok C cl xa W P X sc scope own vs1 tg iter tg1 iter1 kx elt t i t1 i1 k x) :
    SE cl xa W P X (.DictComp kx elt [⟨tg, iter, [], 0⟩, ⟨tg1, iter1, [], 0⟩] scope pos) (.dc2 (own.map (·.2)) vs1 t i t1 i1 k x) := by
  have key : PE X (.DictComp kx elt [⟨tg, iter, [], 0⟩, ⟨tg1, iter1, [], 0⟩] scope pos) (tE X.K cl xa W (evalE P (.dc2 (own.map (·.2)) vs1 t i t1 i1 k x))) :=
    (pe_dc2 g.calm g.nd l.pi l.ok l.sub l.pg l.pt l.pi1 l.pg1 l.pt l.pk l.pe l.fs l.fs1).weak fun s H Q h => l.key h
  exact ⟨key, pt_val key, fun _ _ => nofun⟩
theorem dc2_ok {rec : Scope → Bool → Expr → Option IE} (g : Good C cl xa P n X) (so : ScOk sc X) (hf : ∀ md e ir, rec sc md e = some ir → SE cl xa W P X e ir)
    (hb : ∀ scope X' md e ir, Good C cl xa P n X' → ScOk scope X' → Takes X' W0 → rec scope md e = some ir → SE cl xa W0 P X' e ir)
    {kx elt : Expr} {gens : List Comprehension} {ir : IE} (h : cDC2 C rec sc kx elt gens scope = some ir) :
    ∃ own vs1 tg iter tg1 iter1 t i t1 i1 k x, gens = [⟨tg, iter, [], 0⟩, ⟨tg1, iter1, [], 0⟩] ∧ ir = .dc2 (own.map (·.2)) vs1 t i t1 i1 k x ∧ Dc2Ok C cl xa W P X sc scope own vs1 tg iter tg1 iter1 kx elt t i t1 i1 k x := by
  unfold cDC2 at h
  split at h
  · rename_i tg it tg1 it1
    dsimp only at h
    by_cases hblk : blkC C.N sc scope (ownOf C.N scope.names) = true
    · rw [if_pos hblk] at h
      have hk : scope.kind = .function := (blkOk_by hblk).kind
      split at h
      · rename_i i t i1 t1 k x hi ht hi1 ht1 hkx hx
        split at h
        · rename_i hc
          cases h
          simp only [Bool.and_eq_true, List.all_eq_true, List.contains_iff_mem] at hc
          obtain ⟨⟨⟨⟨c1, c2⟩, c3⟩, c4⟩, c5⟩ := hc
          obtain ⟨pi, fs⟩ := si_cI_any g so hf hi (t := t) (tg := tg) (fun l hl => cT_t (hl ▸ ht)) c2
          have ok : BlkOk X.N X.env.scope scope (ownOf C.N scope.names) := blk_run so (by rw [g.hN]; exact hblk)
          refine ⟨_, tgS t1, tg, it, tg1, it1, t, i, t1, i1, k, x, rfl, rfl, ok, c1, c3, c5, pi, fs, cI_fs hi1, fun s H c cells fp => ?_, fun s H c cells fp => pts_nil.weak fun s H Q ⟨G, r, f, t, o, h⟩ => ?_, fun s H c cells fp => ?_, fun s H c cells fp => ?_, fun s H c cells fp => (hb scope _ true kx k g.blk (so.blk hk) takes0 hkx).pe, fun s H c cells fp => (hb scope _ false elt x g.blk (so.blk hk) takes0 hx).pe⟩
          · exact pg_cT (X := X.blk s H scope (compEnvC scope cells c X.env) fp) g.calm g.nd g.hN (so.blk hk) tg t ht
          · unfold evalT at h
            obtain ⟨b, e, q⟩ := PostE.fin (Q := fun v H' => ∃ b, v = .bl b ∧ Q b H') h o (New.bl o.gh true)
            injection e with e
            subst e
            exact q
          · exact (si_cI_any (X := X.blk s H scope (compEnvC scope cells c X.env) fp) (W := W0) g.blk (so.blk hk) (fun md e ir h => hb scope _ md e ir g.blk (so.blk hk) takes0 h) hi1 (t := t1) (tg := tg1) (fun l hl => cT_t (hl ▸ ht1)) c4).1
          · exact pg_cT (X := X.blk s H scope (compEnvC scope cells c X.env) fp) g.calm g.nd g.hN (so.blk hk) tg1 t1 ht1
        · cases h
      · cases h
    · rw [if_neg hblk] at h; cases h
  · cases h
theorem ndOf_inv {x : Str} {es : List Expr} {a : Expr × Expr × List Comprehension × Scope} (h : ndOf x es = some a) : x = "len" ∧ ∃ p, es = [.DictComp a.1 a.2.1 a.2.2.1 a.2.2.2 p] := by
  unfold ndOf at h
  split at h
  · split at h
    · rename_i hx
      cases h
      exact ⟨hx.1, _, rfl⟩
    · cases h
  · cases h
theorem se_nd {rec : Scope → Bool → Expr → Option IE} (g : Good C cl xa P n X) (so : ScOk sc X) (hf : ∀ md e ir, rec sc md e = some ir → SE cl xa W P X e ir)
    (hb : ∀ scope X' md e ir, Good C cl xa P n X' → ScOk scope X' → Takes X' W0 → rec scope md e = some ir → SE cl xa W0 P X' e ir)
    {a : Expr × Expr × List Comprehension × Scope} {p q pos : Pos} {ir : IE} (h : cND C rec sc a = some ir) : SE cl xa W P X (.Call (.Name "len" q) [.DictComp a.1 a.2.1 a.2.2.1 a.2.2.2 p] [] pos) ir := by
  unfold cND at h
  split at h
  case isFalse => cases h
  rename_i hc
  simp only [Bool.and_eq_true] at hc
  split at h
  · rename_i own0 t0 i0 k0 x0 hdc
    cases h
    obtain ⟨own, tg, iter, ifs, t, i, c, k, x, hg, hir, l⟩ := dc_ok g so hf hb hdc
    cases hir
    obtain ⟨kx, vx, gens, scope⟩ := a
    simp only at hg l
    subst hg
    have dc := pe_dcX (pos := p) (U := ndU X.prog X.w) (t0 := []) (stp := ndS X.K cl) g.calm g.nd l.pi l.ok l.pg l.pt l.pk l.pe l.fs nd_init nd_step g.hu
    have pa := pa_cons dc pa_nil
    have key : PE X (.Call (.Name "len" q) [.DictComp kx vx [⟨tg, iter, ifs, 0⟩] scope p] [] pos) (tE X.K cl xa W (evalE P (.nd (own.map (·.2)) t0 i0 k0 x0))) := by
      refine (pe_callB (cr_nd (cl := cl)) (so.glo hc.1) (g.blt _ hc.2) (by decide +kernel) pa (by decide +kernel) (by decide +kernel)).weak fun s H Q h => ?_
      have h2 := nd_key (p := isT t0) (Pr := X.prog) (wo := X.w) (fun hp => by
        cases t0 with
        | n i => cases hp
        | t l => exact ⟨_, rfl⟩) l.tin h
      exact h2
    exact ⟨key, pt_val key, fun _ _ => nofun⟩
  · cases h
/-- what the compiler says of a comprehension -/
theorem lc_ok {rec : Scope → Bool → Expr → Option IE} (g : Good C cl xa P n X) (so : ScOk sc X) (hf : ∀ md e ir, rec sc md e = some ir → SE cl xa W P X e ir)
    (hb : ∀ scope X' md e ir, Good C cl xa P n X' → ScOk scope X' → Takes X' W0 → rec scope md e = some ir → SE cl xa W0 P X' e ir)
    {elt : Expr} {gens : List Comprehension} {ir : IE} (h : cLC C rec sc elt gens scope = some ir) :
    ∃ own tg iter ifs t i c x, gens = [⟨tg, iter, ifs, 0⟩] ∧ ir = .lc (own.map (·.2)) t i c x ∧ LcOk C cl xa W P X sc scope own tg iter elt ifs t i c x := by
  unfold cLC at h
  split at h
  · rename_i tg it ifs
    dsimp only at h
    by_cases hblk : blkC C.N sc scope (ownOf C.N scope.names) = true
    · rw [if_pos hblk] at h
      have hk : scope.kind = .function := (blkOk_by hblk).kind
      split at h
      · rename_i i t x hi ht hx
        split at h
        · cases h
        · rename_i hc
          have hc : (tgIn ((ownOf C.N scope.names).map (·.2)) t && okTg t i) = true := by simpa using hc
          simp only [Bool.and_eq_true] at hc
          have pgs : ∀ (s : Shared) (H : Hp) (c : Addr) (cells : List (Str × Addr)) (fp : List Addr), PG (X.blk s H scope (compEnvC scope cells c X.env) fp) tg (gT X.K t) := fun s H c cells fp =>
            pg_cT (X := X.blk s H scope (compEnvC scope cells c X.env) fp) g.calm g.nd g.hN (so.blk hk) tg t ht
          obtain ⟨pi, fs⟩ := si_cI_any g so hf hi (t := t) (tg := tg) (fun l hl => cT_t (hl ▸ ht)) hc.2
          have pes : ∀ (s : Shared) (H : Hp) (c : Addr) (cells : List (Str × Addr)) (fp : List Addr), PE (X.blk s H scope (compEnvC scope cells c X.env) fp) elt (tE X.K cl xa W0 (evalE P x)) := fun s H c cells fp =>
            (hb scope _ false elt x g.blk (so.blk hk) takes0 hx).pe
          have ok : BlkOk X.N X.env.scope scope (ownOf C.N scope.names) := blk_run so (by rw [g.hN]; exact hblk)
          split at h
          · cases h
            refine ⟨_, tg, it, [], t, i, .nil, x, rfl, rfl, ok, hc.1, pi, fs, pgs, fun s H c cells fp => pts_nil.weak fun s H Q ⟨G, r, f, t, o, h⟩ => ?_, pes⟩
            unfold evalT at h
            obtain ⟨b, e, q⟩ := PostE.fin (Q := fun v H' => ∃ b, v = .bl b ∧ Q b H') h o (New.bl o.gh true)
            injection e with e
            subst e
            exact q
          · rename_i c
            rw [Option.map_eq_some_iff] at h
            obtain ⟨y, hy, rfl⟩ := h
            exact ⟨_, tg, it, [c], t, i, .cons y .nil, x, rfl, rfl, ok, hc.1, pi, fs, pgs, fun s H c' cells fp => pts_one ((hb scope _ true c y g.blk (so.blk hk) takes0 hy).pt), pes⟩
          · cases h
      · cases h
    · rw [if_neg hblk] at h; cases h
  · cases h
end
end GF
namespace GF
open PySem L2 PySem.Spec PyProof.Rows

/-! ## every expression -/
section
variable {cl : Cl} {xa : Nat → Value} {P : Phi} {C : CC} {n : Nat}
theorem op1 {α β γ : Type} {f : α → β → Option γ} {a : Option α} {b : Option β} {c : γ} (h : (match a, b with | some x, some y => f x y | _, _ => none) = some c) : ∃ x y, a = some x ∧ b = some y ∧ f x y = some c := by
  cases a with
  | none => cases h
  | some x =>
    cases b with
    | none => cases h
    | some y => exact ⟨x, y, rfl, rfl, h⟩
theorem sndE0 {rec : Scope → Bool → Expr → Option IE} {X : Cx} {W : WX} {sc : Scope} {md : Bool} {e : Expr} {ir : IE} (g : Good C cl xa P n X) (so : ScOk sc X) (tk : Takes X W)
    (hb : ∀ sc X' W md e ir, Good C cl xa P n X' → ScOk sc X' → Takes X' W → rec sc md e = some ir → SE cl xa W P X' e ir) (h : cE0 C rec sc md e = some ir) : SE cl xa W P X e ir := by
  have hf : ∀ md e ir, rec sc md e = some ir → SE cl xa W P X e ir := fun md e ir h => hb sc X W md e ir g so tk h
  unfold cE0 at h
  split at h
  · exact se_const h
  · exact se_name g so h
  · rw [Option.map_eq_some_iff] at h
    obtain ⟨irs, h, rfl⟩ := h
    exact se_tup (sndL (hf false) h).1
  · rw [Option.map_eq_some_iff] at h
    obtain ⟨irs, h, rfl⟩ := h
    exact se_lst (sndL (hf false) h).1
  · cases h
    exact se_dnew
  · split at h
    · rename_i h1 h2 h3
      cases h
      exact se_bin h1 (hf _ _ _ h2) (hf _ _ _ h3)
    · cases h
  · rw [Option.map_eq_some_iff] at h
    obtain ⟨x, h, rfl⟩ := h
    exact se_neg (hf _ _ _ h)
  · rw [Option.map_eq_some_iff] at h
    obtain ⟨x, h, rfl⟩ := h
    exact se_not (hf _ _ _ h)
  · exact se_one (hf _ _ _ h)
  · split at h
    · rename_i h1 h2
      cases h
      exact se_and (hf _ _ _ h1) (hf _ _ _ h2)
    · cases h
  · split at h
    · rename_i h1 h2
      cases h
      exact se_or (hf _ _ _ h1) (hf _ _ _ h2)
    · cases h
  · split at h
    · rename_i h1 h2 h3
      cases h
      exact se_ite (hf _ _ _ h1) (hf _ _ _ h2) (hf _ _ _ h3)
    · cases h
  · split at h
    · cases h
    · rename_i hm
      split at h
      · rename_i h1 h2
        cases h
        exact se_cmp g.hu (by simpa using hm) (hf _ _ _ h1) (hf _ _ _ h2)
      · cases h
  · split at h
    · cases h
    · rename_i hm
      split at h
      · rename_i h1 h2 h3
        cases h
        exact se_chain g.hu (by simpa using hm) (hf _ _ _ h1) (hf _ _ _ h2) (hf _ _ _ h3)
      · cases h
  · split at h
    · rename_i h1 h2 h3
      cases h
      exact se_sl (hf true) (hf _ _ _ h1) h2 h3
    · cases h
  · cases h
  · rename_i hs1 hs2
    split at h
    · rename_i h1 h2
      cases h
      refine se_ix g.hu (fun lo hi st p e => ?_) (hf _ _ _ h1) (hf _ _ _ h2)
      cases st with
      | none => exact hs1 _ _ _ e
      | some st => exact hs2 _ _ _ _ e
    · cases h
  · split at h
    · rename_i hb'
      split at h
      · rename_i h1 h2
        cases h
        exact se_fld g hb' (hf _ _ _ h1) h2
      · cases h
    · cases h
  · rename_i x p es pos
    split at h
    · rename_i a ha
      obtain ⟨rfl, q, rfl⟩ := ndOf_inv ha
      exact se_nd g so hf (fun scope X' md e ir g so tk h => hb scope X' W0 md e ir g so tk h) h
    rename_i hnd
    clear hnd
    unfold cCallN at h
    split at h
    · rename_i hc
      simp only [Bool.and_eq_true] at hc
      obtain ⟨h1, h2⟩ := hc
      have hg := so.glo h1
      split at h
      · rename_i fi hT
        split at h
        · cases h
        · rw [Option.map_eq_some_iff] at h
          obtain ⟨irs, h, rfl⟩ := h
          obtain ⟨pa, ns⟩ := sndL (P := P) (W := W) (xa := xa) (cl := cl) (X := X) (hf false) h
          exact se_call g tk hg h2 hT pa ns
      · rename_i k hT
        split at h
        · cases h
        · rw [Option.map_eq_some_iff] at h
          obtain ⟨irs, h, rfl⟩ := h
          obtain ⟨pa, ns⟩ := sndL (P := P) (W := W) (xa := xa) (cl := cl) (X := X) (hf false) h
          exact se_new g tk hg h2 hT pa ns
      · cases h
      · split at h
        · cases h
        rename_i hT
        have hT : C.B.contains x = true := by simpa using hT
        split at h
        · rename_i hx
          subst hx
          split at h
          · rename_i a t q
            split at h
            · rename_i hc
              simp only [Bool.and_eq_true] at hc
              split at h
              · rename_i h3 h4
                cases h
                exact se_isi g hg hT (so.glo hc.1.1) hc.1.2 hc.2 h3 (hf _ _ _ h4)
              · cases h
            · cases h
          · cases h
        · split at h
          · cases h
          · rename_i hb'
            rw [Option.map_eq_some_iff] at h
            obtain ⟨irs, h, rfl⟩ := h
            obtain ⟨pa, ns⟩ := sndO (P := P) (W := W) (xa := xa) (cl := cl) (X := X) (hf true) h
            exact se_bi g hg h2 hT hb' pa ns
          · cases h
    · cases h
  · rename_i o m apos es pos
    unfold cCallA at h
    split at h
    · rename_i hc
      simp only [Bool.and_eq_true, decide_eq_true_eq] at hc
      obtain ⟨⟨h1, h2⟩, h3⟩ := hc
      split at h
      · rename_i bm hM
        split at h
        · rename_i a e ha
          rw [Option.map_eq_some_iff] at h
          obtain ⟨irs, h, rfl⟩ := h
          obtain ⟨pa, ns⟩ := sndO (P := P) (W := W) (xa := xa) (cl := cl) (X := X) (hf true) h
          exact se_bm g.hu h1 h2 hM (hf _ _ _ ha) pa (ns e (by simp))
        · cases h
      · split at h
        · rename_i k a e es hM ha
          rw [Option.map_eq_some_iff] at h
          obtain ⟨irs, h, rfl⟩ := h
          obtain ⟨pa, ns⟩ := sndL (P := P) (W := W) (xa := xa) (cl := cl) (X := X) (hf false) h
          exact se_meth g tk h1 h3 h2 hM (hf _ _ _ ha) pa ns
        · cases h
    · cases h
  · obtain ⟨own, tg, it, ifs, t, i, c, x, rfl, rfl, l⟩ := lc_ok g so hf (fun scope X' md e ir g so tk h => hb scope X' W0 md e ir g so tk h) h
    exact se_lc g l
  · split at h
    · obtain ⟨own, vs1, tg, it, tg1, it1, t, i, t1, i1, k, x, hg, rfl, l⟩ := dc2_ok g so hf (fun scope X' md e ir g so tk h => hb scope X' W0 md e ir g so tk h) h
      rw [hg]
      exact se_dc2 g l
    obtain ⟨own, tg, it, ifs, t, i, c, k, x, rfl, rfl, l⟩ := dc_ok g so hf (fun scope X' md e ir g so tk h => hb scope X' W0 md e ir g so tk h) h
    exact se_dc g l
  · cases h
theorem unOf_inv {e : Expr} {a : Un × Expr × List Str} (h : unOf e = some a) :
    (∃ p o apos cpos pos, e = .Call (.Name "sorted" p) [.Call (.Attribute o "items" apos) [] [] cpos] [] pos ∧ a = ((Un.sitems, o, ["sorted"]) : Un × Expr × List Str) ∧ isBase o = true ∧ (apos.endLine == cpos.line) = true) ∨
    (∃ p p2 x q pos, e = .Call (.Name "len" p) [.Call (.Name "set" p2) [x] [] q] [] pos ∧ a = ((Un.lset, x, ["len", "set"]) : Un × Expr × List Str)) ∨
    (∃ x k p1 p2 p3 pos, e = .Subscript x (.Slice none none (some (.UnaryOp .USub (.Constant (.int 1) k p1) p2)) p3) pos ∧ a = ((Un.rev, x, []) : Un × Expr × List Str)) := by
  unfold unOf at h
  split at h
  · split at h
    · rename_i hc
      obtain ⟨rfl, rfl, h1, h2⟩ := hc
      cases h
      exact .inl ⟨_, _, _, _, _, rfl, rfl, h1, h2⟩
    · cases h
  · split at h
    · rename_i hc
      obtain ⟨rfl, rfl⟩ := hc
      cases h
      exact .inr (.inl ⟨_, _, _, _, _, rfl, rfl⟩)
    · cases h
  · cases h
    exact .inr (.inr ⟨_, _, _, _, _, _, rfl, rfl⟩)
  · cases h
theorem rgOf_inv {e : Expr} {a : Bool × List Expr} (h : rgOf e = some a) : ∃ p q pos pos2, e = .Call (.Name (if a.1 then "tuple" else "list") p) [.Call (.Name "range" q) a.2 [] pos] [] pos2 := by
  unfold rgOf at h
  split at h
  · split at h
    · rename_i hy
      subst hy
      split at h
      · rename_i hx
        subst hx
        cases h
        exact ⟨_, _, _, _, rfl⟩
      · split at h
        · rename_i hx
          subst hx
          cases h
          exact ⟨_, _, _, _, rfl⟩
        · cases h
    · cases h
  · cases h
theorem sndE1 {rec : Scope → Bool → Expr → Option IE} {X : Cx} {W : WX} {sc : Scope} {md : Bool} {e : Expr} {ir : IE} (g : Good C cl xa P n X) (so : ScOk sc X) (tk : Takes X W)
    (hb : ∀ sc X' W md e ir, Good C cl xa P n X' → ScOk sc X' → Takes X' W → rec sc md e = some ir → SE cl xa W P X' e ir) (h : cE1 C rec sc md e = some ir) : SE cl xa W P X e ir := by
  have hf : ∀ md e ir, rec sc md e = some ir → SE cl xa W P X e ir := fun md e ir h => hb sc X W md e ir g so tk h
  unfold cE1 at h
  split at h
  · rename_i a ha
    unfold cUn at h
    split at h
    · rename_i hB
      rw [Option.map_eq_some_iff] at h
      obtain ⟨y, hy, rfl⟩ := h
      have se := hf _ _ _ hy
      rw [List.all_eq_true] at hB
      have glo : ∀ x ∈ a.2.2, Gl X x ∧ X.mg x = none := fun x hx => by
        have z := hB x hx
        rw [Bool.and_eq_true] at z
        exact ⟨so.glo z.1, g.blt _ z.2⟩
      rcases unOf_inv ha with ⟨p, o, apos, cpos, pos, rfl, rfl, h1, h2⟩ | ⟨p, p2, x, q, pos, rfl, rfl⟩ | ⟨x, k, p1, p2, p3, pos, rfl, rfl⟩
      · have z := glo "sorted" (by simp)
        have key := (pe_sitems (cl := cl) (p := p) (pos := pos) g.calm g.hu se.pe z.1 z.2 (base_ok h1) h2).weak fun s H Q h => un_key h
        exact ⟨key, pt_val key, fun _ _ => nofun⟩
      · have z := glo "len" (by simp)
        have z2 := glo "set" (by simp)
        have key := (pe_lset (cl := cl) (p := p) (p2 := p2) (q := q) (pos := pos) g.calm z.1 z.2 z2.1 z2.2 se.pe (star_cons se.ns)).weak fun s H Q h => un_key h
        exact ⟨key, pt_val key, fun _ _ => nofun⟩
      · have key := (pe_rev (cl := cl) (k := k) (p1 := p1) (p2 := p2) (p3 := p3) (pos := pos) se.pe).weak fun s H Q h => un_key h
        exact ⟨key, pt_val key, fun _ _ => nofun⟩
    · cases h
  · split at h
    · rename_i a ha
      unfold cRg at h
      by_cases hB : (gloK sc (if a.1 = true then "tuple" else "list") && C.B.contains (if a.1 = true then "tuple" else "list") && gloK sc "range" && C.B.contains ("range" : Str)) = true
      · rw [if_pos hB] at h
        simp only [Bool.and_eq_true] at hB
        obtain ⟨⟨⟨b1, b2⟩, b3⟩, b4⟩ := hB
        obtain ⟨p, q, pos, pos2, rfl⟩ := rgOf_inv ha
        have go : ∀ es, a.2 = es → es ≠ [] → ∀ y, (cL (rec sc true) es).map (.rgl a.1) = some y → SE cl xa W P X (.Call (.Name (if a.1 then "tuple" else "list") p) [.Call (.Name "range" q) es [] pos] [] pos2) y := by
          intro es he hne y hy
          rw [Option.map_eq_some_iff] at hy
          obtain ⟨irs, hy, rfl⟩ := hy
          obtain ⟨pa, ns⟩ := sndO (P := P) (W := W) (xa := xa) (cl := cl) (X := X) (hf true) hy
          cases es with
          | nil => exact absurd rfl hne
          | cons z zs =>
            have key := (pe_rgl (cl := cl) (p := p) (pos2 := pos2) (tup := a.1) g.calm (so.glo b1) (g.blt _ b2) (prgA (q := q) (pos := pos) (so.glo b3) (g.blt _ b4) pa ns) rfl).weak fun s H Q h => rgl_key h
            exact ⟨key, pt_val key, fun _ _ => nofun⟩
        split at h
        · rename_i e1
          exact go _ rfl (by rw [e1]; nofun) _ h
        · rename_i e1
          exact go _ rfl (by rw [e1]; nofun) _ h
        · rename_i e1
          exact go _ rfl (by rw [e1]; nofun) _ h
        · cases h
      · rw [if_neg hB] at h
        cases h
    · exact sndE0 g so tk hb h
theorem sndE : ∀ (m : Nat) {X : Cx} {W : WX} {sc : Scope} {md : Bool} {e : Expr} {ir : IE}, Good C cl xa P n X → ScOk sc X → Takes X W → cE C m sc md e = some ir → SE cl xa W P X e ir
  | 0, _, _, _, _, _, _, _, _, _, h => by cases h
  | m + 1, X, W, sc, md, e, ir, g, so, tk, h => sndE1 g so tk (fun sc X' W md e ir g so tk h => sndE m g so tk h) h
end
end GF
namespace GF
open PySem L2 PySem.Spec PyProof.Rows

/-! ## statements -/
section
variable (K : PySem.W.Frag) (cl : Cl) (xa : Nat → Value) (W : WX)
/-- what slot 0 keeps to the end -/
def Zp (zb : Bool) (zv : V) (s : L2.St) : Prop := zb = true → s[0]? = some (some zv)
variable (zb : Bool) (zv : V)
def PostS (En : Ends) (G H : Hp) (f t : List Addr) : RS → Prop
  | .nx r => ∀ s G' H' f', Ok K cl G' H' r s f' t → Ext f G H f' G' H' → Zp zb zv s → En.nx s H'
  | .bk r => ∀ s G' H' f', Ok K cl G' H' r s f' t → Ext f G H f' G' H' → Zp zb zv s → En.bk s H'
  | .ct r => ∀ s G' H' f', Ok K cl G' H' r s f' t → Ext f G H f' G' H' → Zp zb zv s → En.ct s H'
  | .rt d => ∀ v fv G' H', Rep K cl G' H' d v fv → (∀ a ∈ fv, G' a = none) → Same G' H' → Ext f G H fv G' H' → En.rt v H'
  | .er k r => ∀ s G' H' f', Ok K cl G' H' r s f' t → Ext f G H f' G' H' → Zp zb zv s → W (xa k) none s H'
  | .stuck => False
def tS (ev : Rho → RS) : TS := fun En s H => ∃ G r f t, Ok K cl G H r s f t ∧ Zp zb zv s ∧ PostS K cl xa W zb zv En G H f t (ev r)
end
section
variable {K : PySem.W.Frag} {cl : Cl} {xa : Nat → Value} {W : WX} {zb : Bool} {zv : V} {En : Ends} {s : L2.St} {G G' G1 H H' H1 : Hp} {r r1 : Rho} {f f' f1 t fv : List Addr}
theorem PostS.base {x : RS} (h : PostS K cl xa W zb zv En G H f t x) (e : Ext f G H f1 G1 H1) : PostS K cl xa W zb zv En G1 H1 f1 t x := by
  cases x with
  | nx r => exact fun s G' H' f' o e' => h s G' H' f' o (e.trans e' fun _ z => z)
  | bk r => exact fun s G' H' f' o e' => h s G' H' f' o (e.trans e' fun _ z => z)
  | ct r => exact fun s G' H' f' o e' => h s G' H' f' o (e.trans e' fun _ z => z)
  | er k r => exact fun s G' H' f' o e' => h s G' H' f' o (e.trans e' fun _ z => z)
  | rt d => exact fun v fv G' H' a b c e' => h v fv G' H' a b c (e.trans e' fun _ z => z)
  | stuck => exact h
mutual
theorem tgIn_S : ∀ (tg : Tg) (vs : List Nat), (∀ i ∈ tgS tg, i ∈ vs) → tgIn vs tg = true
  | .n i, vs, h => by unfold tgIn; simp only [List.contains_iff_mem]; exact h i (by unfold tgS; simp)
  | .t l, vs, h => by unfold tgIn; exact tgsIn_S l vs (by unfold tgS at h; exact h)
theorem tgsIn_S : ∀ (l : Tgs) (vs : List Nat), (∀ i ∈ tgsS l, i ∈ vs) → tgsIn vs l = true
  | .nil, vs, h => by unfold tgsIn; rfl
  | .cons x r, vs, h => by
    unfold tgsS at h
    unfold tgsIn
    rw [tgIn_S x vs fun i hi => h i (List.mem_append_left _ hi), tgsIn_S r vs fun i hi => h i (List.mem_append_right _ hi)]; rfl
end
theorem Zp.put {tg : Tg} {s s1 : L2.St} (zz : Zp zb zv s) (h0 : (zb && (tgS tg).contains 0) = false) (wp : ∀ vs, tgIn vs tg = true → L2.wipe s1 vs = L2.wipe s vs) : Zp zb zv s1 := fun hb => by
  have e := zz hb
  rw [hb, Bool.true_and] at h0
  have n0 : 0 ∉ tgS tg := fun hm => by
    rw [List.contains_iff_mem.mpr hm] at h0; cases h0
  have := wp (tgS tg) (tgIn_S tg _ fun _ h => h)
  rw [← wipe_out n0, this, wipe_out n0, e]
/-- a test, then one way or the other -/
theorem PostE.tst {x : RE} {A B : Rho → RS} {Q : Bool → Hp → Prop} (zz : Zp zb zv s) (h : PostS K cl xa W zb zv En G H f t (x.tst A B))
    (n : ∀ r1 b G1 H1 f1, Ok K cl G1 H1 r1 s f1 t → Ext f G H f1 G1 H1 → PostS K cl xa W zb zv En G H f t (if b = true then A r1 else B r1) → Q b H1) :
    PostE K cl xa W s G H f t (fun _ _ v _ _ H' _ => ∃ b, v = .bl b ∧ Q b H') x := by
  cases x with
  | ok o r1 =>
    unfold RE.tst at h
    intro v fv G1 H1 f1 o1 e1 i1
    cases eo : o.get r1 with
    | none => simp only [eo] at h; exact h.elim
    | some d =>
      simp only [eo] at h
      obtain ⟨fx, rd⟩ := i1.rep o1 eo
      have e2 : Ext f G H f1 G1 H1 := e1.sub fun a ha => List.mem_append_left _ ha
      cases d with
      | bl b =>
        refine ⟨b, rd.bl, n r1 b G1 H1 f1 o1.tail e2 ?_⟩
        cases b with
        | true => exact h
        | false => exact h
      | _ => exact h.elim
  | err k r => exact fun G' H' f' o e => h s G' H' f' o e zz
  | stuck => exact h
/-- an expression, then what its value does -/
theorem PostE.stm {x : RE} {A : D → Rho → RS} {Q : QE} (zz : Zp zb zv s) (h : PostS K cl xa W zb zv En G H f t (match x with
      | .ok (.val d) r1 => A d r1
      | .ok (.slot _) _ => .stuck
      | .err k r1 => .er k r1
      | .stuck => .stuck))
    (n : ∀ d r1 v fv G1 H1 f1, x = .ok (.val d) r1 → Ok K cl G1 H1 r1 s f1 (fv ++ t) → Ext f G H (f1 ++ fv) G1 H1 → Rep K cl G1 H1 d v fv → PostS K cl xa W zb zv En G H f t (A d r1) → Q (.val d) r1 v fv G1 H1 f1) :
    PostE K cl xa W s G H f t Q x := by
  cases x with
  | ok o r1 =>
    cases o with
    | slot i => exact h.elim
    | val d => exact fun v fv G1 H1 f1 o1 e1 i1 => n d r1 v fv G1 H1 f1 rfl o1 e1 i1 h
  | err k r => exact fun G' H' f' o e => h s G' H' f' o e zz
  | stuck => exact h
end

section
variable {X : Cx} {cl : Cl} {xa : Nat → Value} {W : WX} {P : Phi} {C : CC} {n fu : Nat} {zb : Bool} {zv : V} {sc : Scope}
/-- a statement's run keeps to the language's -/
abbrev SSt (cl : Cl) (xa : Nat → Value) (W : WX) (zb : Bool) (zv : V) (P : Phi) (fu : Nat) (X : Cx) (st : Stmt) (irs : ISs) : Prop := PS X st (tS X.K cl xa W zb zv (evalSs P fu irs))
abbrev SSs (cl : Cl) (xa : Nat → Value) (W : WX) (zb : Bool) (zv : V) (P : Phi) (fu : Nat) (X : Cx) (sts : List Stmt) (irs : ISs) : Prop := PSs X sts (tS X.K cl xa W zb zv (evalSs P fu irs))
theorem evalSs_one (s : IS) (r : Rho) : evalSs P fu (one s) r = evalS P fu s r := by
  unfold one
  rw [evalSs]
  cases h : evalS P fu s r <;> simp only [evalSs]
theorem ss_one {st : Stmt} {s : IS} (h : PS X st (tS X.K cl xa W zb zv (evalS P fu s))) : SSt cl xa W zb zv P fu X st (one s) := by
  unfold SSt
  rw [show evalSs P fu (one s) = evalS P fu s from funext fun r => evalSs_one s r]
  exact h
theorem evalSs_app (a b : ISs) : ∀ r : Rho, evalSs P fu (appS a b) r = match evalSs P fu a r with
    | .nx r1 => evalSs P fu b r1
    | q => q := by
  have go : ∀ (n : Nat) (a : ISs), sizeOf a ≤ n → ∀ r : Rho, evalSs P fu (appS a b) r = match evalSs P fu a r with
      | .nx r1 => evalSs P fu b r1
      | q => q := by
    intro n
    induction n with
    | zero => intro a h; cases a <;> simp at h
    | succ n ih =>
      intro a h r
      cases a with
      | nil => unfold appS; simp only [evalSs]
      | cons x a =>
        unfold appS
        simp only [evalSs]
        cases evalS P fu x r with
        | nx r1 => exact ih a (by simp at h; omega) r1
        | _ => rfl
  exact go _ a (Nat.le_refl _)
/-- a block -/
theorem ss_block {rec : Stmt → Option ISs} (hr : ∀ st irs, rec st = some irs → SSt cl xa W zb zv P fu X st irs) : ∀ (sts : List Stmt) (irs : ISs), cB rec sts = some irs → SSs cl xa W zb zv P fu X sts irs
  | [], irs, h => by
    unfold cB at h; cases h
    refine pss_nil.weak fun En s H ⟨G, r, f, t, o, zz, h⟩ => ?_
    unfold evalSs at h
    exact h s G H f o Ext.refl zz
  | st :: sts, irs, h => by
    unfold cB at h
    split at h
    · rename_i a r h1 h2
      cases h
      have p1 := hr st _ h1
      have p2 := ss_block hr sts r h2
      refine (pss_cons p1 p2).weak fun En s H ⟨G, r0, f, t, o, zz, h⟩ => ?_
      refine ⟨G, r0, f, t, o, zz, ?_⟩
      rw [evalSs_app] at h
      cases hx : evalSs P fu a r0 with
      | nx r1 =>
        simp only [hx] at h
        exact fun s1 G1 H1 f1 o1 e1 z1 => ⟨G1, r1, f1, t, o1, z1, h.base e1⟩
      | rt d => simp only [hx] at h; exact h
      | bk r1 => simp only [hx] at h; exact h
      | ct r1 => simp only [hx] at h; exact h
      | er k r1 => simp only [hx] at h; exact h
      | stuck => simp only [hx] at h; exact h
    · cases h
/-- a name's object gets known ahead of a statement -/
def tPinS (t : TS) : TS := fun En σ H => (∃ a kvs, H a = some (.dK kvs) ∧ ∀ ob, t En σ (upd H a (.frz ob (.dK kvs)))) ∨ t En σ H
theorem ps_pin {st : Stmt} {t : TS} (h : PS X st t) : PS X st (tPinS t) := ⟨fun pins s σ H D I q => by
  rcases q with ⟨a, kvs, e, q⟩ | q
  · obtain ⟨ob, I2⟩ := I.lock e trivial
    exact h.run pins s σ _ D I2 (q ob)
  · exact h.run pins s σ H D I q⟩
theorem ss_frz {st : Stmt} {irs : ISs} {i : Nat} (h : SSt cl xa W zb zv P fu X st irs) : SSt cl xa W zb zv P fu X st (.cons (.ex (.v i)) irs) := by
  refine (ps_pin h).weak fun En s H ⟨G, r, f, t, o, zz, h⟩ => ?_
  unfold evalSs at h
  unfold evalS at h
  have key : tE X.K cl xa (fun _ _ _ _ => True) (evalE P (.v i)) s H fun v H' => tS X.K cl xa W zb zv (evalSs P fu irs) En s H' := by
    refine ⟨G, r, f, t, o, ?_⟩
    cases hx : evalE P (.v i) r with
    | stuck => simp only [hx] at h; exact h.elim
    | err k r1 => exact fun _ _ _ _ _ => trivial
    | ok od r1 =>
      simp only [hx] at h
      intro v fv G1 H1 f1 o1 e1 i1
      exact ⟨G1, r1, f1, t, o1.tail, zz, h.base (e1.sub fun a ha => List.mem_append_left _ ha)⟩
  obtain ⟨v, _, q⟩ := tE_v key
  rcases q with ⟨a, kvs, _, hH, q⟩ | q
  · exact .inl ⟨a, kvs, hH, q⟩
  · exact .inr q
theorem ss_frzs {st : Stmt} {irs : ISs} : ∀ l : List Nat, SSt cl xa W zb zv P fu X st irs → SSt cl xa W zb zv P fu X st (addF l irs)
  | [], h => h
  | i :: l, h => ss_frz (ss_frzs l h)
theorem ss_pass {pos : Pos} : SSt cl xa W zb zv P fu X (.Pass pos) .nil := by
  refine ps_pass.weak fun En s H ⟨G, r, f, t, o, zz, h⟩ => ?_
  unfold evalSs at h
  exact h s G H f o Ext.refl zz
theorem ss_brk {pos : Pos} : SSt cl xa W zb zv P fu X (.Break pos) (one .brk) := by
  refine ss_one (ps_break.weak fun En s H ⟨G, r, f, t, o, zz, h⟩ => ?_)
  unfold evalS at h
  exact h s G H f o Ext.refl zz
theorem ss_cnt {pos : Pos} : SSt cl xa W zb zv P fu X (.Continue pos) (one .cnt) := by
  refine ss_one (ps_continue.weak fun En s H ⟨G, r, f, t, o, zz, h⟩ => ?_)
  unfold evalS at h
  exact h s G H f o Ext.refl zz
theorem ret_key {x : IE} {En : Ends} {s : L2.St} {H : Hp} (h : tS X.K cl xa W zb zv (evalS P fu (.ret x)) En s H) : tE X.K cl xa W (evalE P x) s H En.rt := by
  obtain ⟨G, r, f, t, o, zz, h⟩ := h
  unfold evalS at h
  refine ⟨G, r, f, t, o, PostE.stm (A := fun d _ => .rt d) zz h fun d r1 v fv G1 H1 f1 _ o1 e1 i1 q => q v fv G1 H1 i1 (fun a ha => o1.fr a (by simp [ha])) o1.gh (e1.sub fun a ha => List.mem_append_right _ ha)⟩
theorem ss_ret {e : Expr} {x : IE} {pos : Pos} (he : PE X e (tE X.K cl xa W (evalE P x))) : SSt cl xa W zb zv P fu X (.Return (some e) pos) (one (.ret x)) :=
  ss_one ((ps_ret he).weak fun En s H h => ret_key h)
theorem ss_retN {pos : Pos} : SSt cl xa W zb zv P fu X (.Return none pos) (one (.ret (.c .non))) := by
  refine ss_one (ps_retN.weak fun En s H h => ?_)
  obtain ⟨G, r, f, t, o, h⟩ := ret_key h
  exact PostE.fin h o (New.non o.gh)
theorem ss_if {c : Expr} {a b : List Stmt} {pos : Pos} {x : IE} {p q : ISs} (hc : PT X c (tB (tE X.K cl xa W (evalE P x)))) (ha : SSs cl xa W zb zv P fu X a p) (hb : SSs cl xa W zb zv P fu X b q) : SSt cl xa W zb zv P fu X (.If c a b pos) (one (.if_ x p q)) := by
  refine ss_one ((ps_if hc ha hb).weak fun En s H ⟨G, r, f, t, o, zz, h⟩ => ⟨G, r, f, t, o, ?_⟩)
  unfold evalS at h
  refine PostE.tst (Q := fun b H' => if b = true then tS X.K cl xa W zb zv (evalSs P fu p) En s H' else tS X.K cl xa W zb zv (evalSs P fu q) En s H') zz h fun r1 b G1 H1 f1 o1 e1 h1 => ?_
  cases b with
  | true => exact ⟨G1, r1, f1, t, o1, zz, PostS.base h1 e1⟩
  | false => exact ⟨G1, r1, f1, t, o1, zz, PostS.base h1 e1⟩
theorem ss_ex {e : Expr} {x : IE} {pos : Pos} (he : PE X e (tE X.K cl xa W (evalE P x))) (hs : swapsWith e none pos.line X.env = pure false) : SSt cl xa W zb zv P fu X (.Expr e pos) (one (.ex x)) := by
  refine ss_one ((ps_expr he hs).weak fun En s H ⟨G, r, f, t, o, zz, h⟩ => ⟨G, r, f, t, o, ?_⟩)
  unfold evalS at h
  cases hx : evalE P x r with
  | ok od r1 =>
    simp only [hx] at h
    exact fun v fv G1 H1 f1 o1 e1 i1 => h s G1 H1 f1 o1.tail (e1.sub fun a ha => List.mem_append_left _ ha) zz
  | err k r1 => simp only [hx] at h; exact fun G' H' f' o e => h s G' H' f' o e zz
  | stuck => simp only [hx] at h; exact h
theorem asg_nx {k : Bool} {tg : Tg} {En : Ends} {s : L2.St} {r1 : Rho} {G H G1 H1 : Hp} {f t f1 fv : List Addr} {d : D} {v : V} (h0 : (zb && (tgS tg).contains 0) = false) (zz : Zp zb zv s) (o1 : Ok X.K cl G1 H1 r1 s f1 (fv ++ t)) (e1 : Ext f G H (f1 ++ fv) G1 H1) (i1 : Rep X.K cl G1 H1 d v fv) (hod : k = true ∨ odD d = false)
    (q : PostS X.K cl xa W zb zv En G H f t (match bindT tg (if k then d else d.frz) r1 with | some r2 => .nx r2 | none => .stuck)) : gT X.K tg v s H1 En.nx := by
  cases k with
  | false =>
    simp only [Bool.false_eq_true, if_false] at q
    obtain ⟨o2, e2, i2⟩ := o1.frz (hod.resolve_left (by simp)) i1
    cases hb : bindT tg d.frz r1 with
    | none => simp only [hb] at q; exact q.elim
    | some r2 =>
      simp only [hb] at q
      exact bind_ok (fv := []) o2 (Rep.of_F i2) hb fun s1 f2 o3 sub wp => q s1 _ H1 f2 o3 ((e1.trans e2 fun _ z => z).sub fun a ha => by
        rcases sub a ha with z | z
        · exact z
        · cases z) (zz.put h0 wp)
  | true =>
  simp only [if_true] at q
  cases hb : bindT tg d r1 with
  | none => simp only [hb] at q; exact q.elim
  | some r2 =>
    simp only [hb] at q
    refine bind_ok o1 i1 hb fun s1 f2 o2 sub wp => q s1 G1 H1 f2 o2 (e1.sub fun a ha => ?_) (zz.put h0 wp)
    rcases sub a ha with z | z <;> simp [z]
/-- an owned dict that gets a name is known from now on -/
theorem asg_key {k : Bool} {tg : Tg} {x : IE} {En : Ends} {s : L2.St} {H : Hp} (h0 : (zb && (tgS tg).contains 0) = false) (h : tS X.K cl xa W zb zv (evalS P fu (.asg k tg x)) En s H) : tAsg (tPin (tE X.K cl xa W (evalE P x))) (gT X.K tg) En s H := by
  obtain ⟨G, r, f, t, o, zz, h⟩ := h
  unfold evalS at h
  refine ⟨G, r, f, t, o, PostE.stm (A := fun d r1 => match bindT tg (if k then d else d.frz) r1 with | some r2 => .nx r2 | none => .stuck) zz h fun d r1 v fv G1 H1 f1 _ o1 e1 i1 q => ?_⟩
  by_cases hk : k = true ∨ odD d = false
  · exact .inr (asg_nx h0 zz o1 e1 i1 hk q)
  · simp only [not_or, Bool.not_eq_true, Bool.not_eq_false] at hk
    obtain ⟨rfl, hod⟩ := hk
    cases d with
    | dct b ks ds =>
      cases b with
      | false => cases hod
      | true =>
        obtain ⟨a, kvs, rfl, hH, hf⟩ := o1.frzD i1
        refine .inl ⟨a, kvs, rfl, hH, fun ob => ?_⟩
        obtain ⟨o2, e2, i2⟩ := hf ob
        exact asg_nx (k := true) (fv := []) (d := .dct false ks ds) h0 zz o2 (by rw [List.append_nil]; exact e1.trans e2 fun _ z => z) (Rep.of_F i2) (.inl rfl) q
    | _ => cases hod
/-- the same, when the value is no dict -/
theorem asg_keyL {k : Bool} {tg : Tg} {x : IE} {En : Ends} {s : L2.St} {H : Hp} (nd : ∀ r d r1, evalE P x r = .ok (.val d) r1 → odD d = false) (h0 : (zb && (tgS tg).contains 0) = false) (h : tS X.K cl xa W zb zv (evalS P fu (.asg k tg x)) En s H) : tAsg (tE X.K cl xa W (evalE P x)) (gT X.K tg) En s H := by
  obtain ⟨G, r, f, t, o, zz, h⟩ := h
  unfold evalS at h
  exact ⟨G, r, f, t, o, PostE.stm (A := fun d r1 => match bindT tg (if k then d else d.frz) r1 with | some r2 => .nx r2 | none => .stuck) zz h fun d r1 v fv G1 H1 f1 hx o1 e1 i1 q => asg_nx h0 zz o1 e1 i1 (.inr (nd _ _ _ hx)) q⟩
theorem lcGo_od {own : List Nat} {bd : D → Rho → Option Rho} {tst elt : Rho → RE} : ∀ {ds : List D} {r r2 : Rho} {acc : List D} {o : Od}, lcGo own bd tst elt ds r acc = .ok o r2 → ∃ l, o = .val (.lst true l)
  | [], r, r2, acc, o, h => by unfold lcGo at h; cases h; exact ⟨_, rfl⟩
  | d :: ds, r, r2, acc, o, h => by
    unfold lcGo at h
    split at h
    · cases h
    · split at h
      · split at h
        · split at h
          · exact lcGo_od h
          · cases h
        · cases h
      · exact lcGo_od h
      · cases h
theorem lc_od {own : List Nat} {tg : Tg} {it : II} {ifs : IEs} {x : IE} (r : Rho) (d : D) (r1 : Rho) (h : evalE P (.lc own tg it ifs x) r = .ok (.val d) r1) : odD d = false := by
  unfold evalE at h
  split at h
  · split at h
    · split at h
      · rename_i e
        obtain ⟨l, rfl⟩ := lcGo_od e
        cases h; rfl
      · cases h
    · cases h
  · cases h
  · cases h
theorem sw_pure {y : Str} {py : Pos} {elt : Expr} {gs : List Comprehension} {scope : Scope} {pos : Pos} {l : Nat} {env : Env} : ∃ b : Bool, swapsWith (.ListComp elt gs scope pos) (some (.Name y py)) l env = pure b ∧ (b = true → env.kindOf y = some .local) := by
  refine ⟨env.blockKind == .function && env.kindOf y == some .local && py.line == pos.line && !(scope.names.any fun (n, k) => n == y && (k == .local || k == .cell)), rfl, fun h => ?_⟩
  simp only [Bool.and_eq_true, beq_iff_eq] at h
  exact h.1.1.2
theorem sw_pureD {y : Str} {py : Pos} {kx elt : Expr} {gs : List Comprehension} {scope : Scope} {pos : Pos} {l : Nat} {env : Env} : ∃ b : Bool, swapsWith (.DictComp kx elt gs scope pos) (some (.Name y py)) l env = pure b ∧ (b = true → env.kindOf y = some .local) := by
  refine ⟨env.blockKind == .function && env.kindOf y == some .local && py.line == pos.line && !(scope.names.any fun (n, k) => n == y && (k == .local || k == .cell)), rfl, fun h => ?_⟩
  simp only [Bool.and_eq_true, beq_iff_eq] at h
  exact h.1.1.2
/-- t = e, e no comprehension -/
theorem ss_asg {k : Bool} {tg e : Expr} {t : Tg} {x : IE} {pos : Pos} (he : PE X e (tE X.K cl xa W (evalE P x))) (hg : PG X tg (gT X.K t)) (ht : cT C sc tg = some t) (h1 : ¬ (isTup tg && isTup e) = true) (h2 : isLC e = false ∨ ∃ l, t = .t l)
    (h0 : (zb && (tgS t).contains 0) = false) (h3 : ∀ a b c d, e ≠ .SetComp a b c d) : SSt cl xa W zb zv P fu X (.Assign [tg] e pos) (one (.asg k t x)) := by
  refine ss_one ((ps_asg (pe_pin he) hg ?_ ?_ ?_).weak fun En s H h => asg_key h0 h)
  · show swapsWith e (some tg) pos.line X.env = pure false
    rcases h2 with h2 | ⟨l, rfl⟩
    · cases e <;> first | rfl | (cases h2; done) | exact absurd rfl (h3 _ _ _ _)
    · obtain ⟨es, k, p, rfl⟩ := cT_t ht
      cases e <;> rfl
  · cases tg <;> unfold cT at ht <;> first | (cases ht; done) | rfl | (cases e <;> first | rfl | exact absurd rfl h1)
  · rw [each_cons ht]; rfl
end
end GF
namespace GF
open PySem L2 PySem.Spec PyProof.Rows

/-! ## a, b = x, y -/
section
variable {K : PySem.W.Frag} {cl : Cl} {G G1 H H1 : Hp} {f f1 fa t : List Addr} {r r1 : Rho} {s : L2.St}
theorem Ok.putK {k : Bool} {i : Nat} {d : D} {v : V} (o : Ok K cl G1 H1 r1 s f1 (fa ++ t)) (h : Rep K cl G1 H1 d v fa) (hod : k = true ∨ odD d = false) (hi : i < r1.length) :
    ∃ G2 f2, Ok K cl G2 H1 (r1.set i (some (if k then d else d.frz))) (s.set i (some v)) f2 t ∧ Ext (f1 ++ fa) G1 H1 f2 G2 H1 := by
  cases k with
  | true =>
    obtain ⟨f2, o2, sub⟩ := Ok.put o h hi
    exact ⟨G1, f2, o2, Ext.sub (f1 := f1 ++ fa) Ext.refl fun a ha => by rcases sub a ha with z | z <;> simp [z]⟩
  | false =>
    obtain ⟨o1, e1, rf⟩ := o.frz (hod.resolve_left (by simp)) h
    obtain ⟨f2, o2, sub⟩ := Ok.put (fv := []) o1 (Rep.of_F rf) hi
    exact ⟨_, f2, o2, e1.sub fun a ha => by
      rcases sub a ha with z | z
      · exact z
      · cases z⟩
end
section
variable {X : Cx} {cl : Cl} {xa : Nat → Value} {W : WX} {P : Phi} {fu : Nat} {zb : Bool} {zv : V}
theorem par_key {k1 k2 : Bool} {i j : Nat} {xs : IEs} {En : Ends} {s : L2.St} {H : Hp} (h0 : zb = true → i ≠ 0 ∧ j ≠ 0) (h : tS X.K cl xa W zb zv (evalS P fu (.par k1 k2 i j xs)) En s H) : tPar i j (tO X.K cl xa W (evalO P xs)) En s H := by
  obtain ⟨G, r, f, t, o, zz, h⟩ := h
  unfold evalS at h
  refine ⟨G, r, f, t, o, ?_⟩
  cases hx : evalO P xs r with
  | stuck => simp only [hx] at h; exact h
  | err k r1 => simp only [hx] at h; exact fun G' H' f' o e => h s G' H' f' o e zz
  | ok os r1 =>
    simp only [hx] at h
    intro vs fv G1 H1 f1 o1 e1 i1
    split at h
    · rename_i d1 d2 r2 e
      cases e
      split at h
      · rename_i hc
        obtain ⟨hij, hi, hj, hk1, hk2⟩ := hc
        obtain ⟨v, _, fa, _, rfl, ha, ⟨w, _, fb, _, rfl, hb, ⟨rfl, rfl⟩, rfl⟩, rfl⟩ := i1
        have ha : Rep X.K cl G1 H1 d1 v fa := ha
        have hb : Rep X.K cl G1 H1 d2 w fb := hb
        rw [List.append_nil] at o1 e1
        rw [List.append_assoc] at o1
        obtain ⟨G2, f2, o2, e2⟩ := Ok.putK (i := i) o1 ha hk1 hi
        have hb2 : Rep X.K cl G2 H1 d2 w fb := hb.keep e2.gs fun _ _ => rfl
        obtain ⟨G3, f3, o3, e3⟩ := Ok.putK (i := j) o2 hb2 hk2 (by rw [List.length_set]; exact hj)
        have e12 := e1.trans e2 fun a ha => by
          rcases List.mem_append.mp ha with z | z <;> simp [z]
        have e12' : Ext f G H (f2 ++ fb) G2 H1 := ⟨e12.keep, e12.there, e12.gs, e12.gn, fun a ha => by
          rcases List.mem_append.mp ha with z | z
          · exact e12.fn a z
          · exact e1.fn a (by simp [z])⟩
        refine ⟨v, w, rfl, h _ G3 H1 f3 o3 (e12'.trans e3 fun _ z => z) fun hz => ?_⟩
        rw [List.getElem?_set_ne (h0 hz).2, List.getElem?_set_ne (h0 hz).1]
        exact zz hz
      · exact h.elim
    · exact h.elim
    · rename_i e; cases e
    · exact h.elim
end
theorem swapped_par {env : Env} {x y : Str} {px py pt pt2 : Pos} {kt k2 : Nat} {a b : Expr} (hk : env.blockKind = .function) (hx : env.kindOf x = some .local) (hy : env.kindOf y = some .local) (hl : py.line = px.line) (hne : x ≠ y) (ha : NoStar a) (hb : NoStar b)
    (hf : (foldedForSure 8 a && foldedForSure 8 b) = false) (hc : (constantsAlone 8 a && constantsAlone 8 b) = false) : swappedStores [.Tuple [.Name x px, .Name y py] kt pt] (.Tuple [a, b] k2 pt2) env = pure (some [x, y]) := by
  have e1 : ∀ (z : Expr), NoStar z → (match z with | .Starred .. => true | _ => false) = false := fun z h => by
    cases z <;> first | rfl | exact absurd rfl (h _ _)
  have hne2 : (y == x) = false := by simpa using Ne.symm hne
  have hne3 : (x == y) = false := by simpa using hne
  unfold swappedStores
  simp only [List.length_cons, List.length_nil, hk, List.any_cons, List.any_nil, e1 a ha, e1 b hb, List.head?_cons, Option.map_some, Option.getD_some, Expr.pos, List.filterMap_cons, hx, hy, hl, beq_self_eq_true, Bool.and_self, if_true, List.filterMap_nil, List.all_cons, List.all_nil, Bool.and_true, hf, hc]
  have : ([x, y].eraseDups).length = 2 := by simp [List.eraseDups_cons, hne2, hne3]
  simp [this]
  intro h
  exfalso
  rcases h with z | z
  · cases a <;> first | (cases z; done) | exact ha _ _ rfl
  · cases b <;> first | (cases z; done) | exact hb _ _ rfl
section
variable {X : Cx} {cl : Cl} {xa : Nat → Value} {W : WX} {P : Phi} {C : CC} {n fu : Nat} {zb : Bool} {zv : V} {sc : Scope}
theorem ss_par {f : Expr → Option IE} {x y : Str} {px py pt pt2 pos : Pos} {kt kt2 i j : Nat} {a b : Expr} {k1 k2 : Bool} {irs : IEs} (g : Good C cl xa P n X) (so : ScOk sc X) (hf : ∀ e ir, f e = some ir → SE cl xa W P X e ir) (hc : cL f [a, b] = some irs)
    (hi : X.N[i]? = some x) (hj : X.N[j]? = some y) (hij : i ≠ j) (hx : X.env.scope.names.lookup x = some .local) (hy : X.env.scope.names.lookup y = some .local) (hl : py.line = px.line) (hne : x ≠ y)
    (h1 : (foldedForSure 8 a && foldedForSure 8 b) = false) (h2 : (constantsAlone 8 a && constantsAlone 8 b) = false) (h0 : zb = true → i ≠ 0 ∧ j ≠ 0) :
    SSt cl xa W zb zv P fu X (.Assign [.Tuple [.Name x px, .Name y py] kt pt] (.Tuple [a, b] kt2 pt2) pos) (one (.par k1 k2 i j irs)) := by
  obtain ⟨pa, ns⟩ := sndO (P := P) (W := W) (xa := xa) (cl := cl) (X := X) hf hc
  have hb : X.env.blockKind = .function := by unfold Env.blockKind; rw [so.fk]; rfl
  exact ss_one ((ps_par g.calm g.nd hi hj hij hx hy pa (swapped_par hb hx hy hl hne (ns a (by simp)) (ns b (by simp)) h1 h2)).weak fun En s H h => par_key h0 h)
end
end GF
namespace GF
open PySem L2 PySem.Spec PyProof.Rows

section
variable {X : Cx} {cl : Cl} {xa : Nat → Value} {W : WX} {P : Phi} {C : CC} {n fu : Nat} {zb : Bool} {zv : V} {sc : Scope}
/-! ### loops -/
theorem for_key {vs : List Nat} {tg : Tg} {it : II} {b : ISs} {En : Ends} {s : L2.St} {H : Hp} (h0 : (zb && (tgS tg).contains 0) = false) (ok : isT tg = true → ∃ l, tg = .t l) (h : tS X.K cl xa W zb zv (evalS P fu (.for_ tg it b)) En s H) :
    tFor (tI X.K cl xa W (isT tg) (evalI P it)) (gT X.K tg) (tS X.K cl xa W zb zv (evalSs P fu b)) En s H := by
  obtain ⟨G, r, f, t, o, zz, h⟩ := h
  refine ⟨G, r, f, t, o, ?_⟩
  unfold evalS at h
  cases hx : evalI P it r with
  | stuck => simp only [hx] at h; exact h
  | err k r1 => simp only [hx] at h; exact fun G' H' f' o e => h s G' H' f' o e zz
  | ok ds r1 =>
    simp only [hx] at h
    intro J G1 H1 f1 o1 e1 w
    have h1 := h.base e1
    clear h
    refine for_it w (fun i σ H' => ∃ G' r' f', Ok X.K cl G' H' r' σ f' t ∧ Ext f1 G1 H1 f' G' H' ∧ Zp zb zv σ ∧ PostS X.K cl xa W zb zv En G1 H1 f1 t (forGo (bindT tg) (fun r => evalSs P fu b r) (ds.drop i) r')) ?_ ?_ ?_ ?_
    · exact ⟨G1, r1, f1, o1, Ext.refl, zz, h1⟩
    · rintro i σ H' hi ⟨G', r', f', o2, e2, _⟩
      exact e2.gs.trans o2.gh
    · rintro i y σ H2 H3 hi ⟨G', r', f', o2, e2, z2, hpost⟩ ⟨d, hd, item⟩
      have hdr : ds.drop i = d :: ds.drop (i + 1) := by
        obtain ⟨hlt, e⟩ := List.getElem?_eq_some_iff.mp hd
        rw [List.drop_eq_getElem_cons hlt, e]
      rw [hdr] at hpost
      unfold forGo at hpost
      cases hb : bindT tg d r' with
      | none => simp only [hb] at hpost; exact hpost.elim
      | some r2 =>
        simp only [hb] at hpost
        refine item_bind o2 e2.gs item hb ok fun s1 f3 o3 e3 _ wp => ⟨G', r2, f3, t, o3, z2.put h0 wp, ?_⟩
        have e13 := e2.trans e3 fun _ z => z
        cases hz : evalSs P fu b r2 with
        | nx r3 =>
          simp only [hz] at hpost
          exact fun s4 G4 H4 f4 o4 e4 z4 => ⟨G4, r3, f4, o4, e13.trans e4 fun _ z => z, z4, hpost⟩
        | ct r3 =>
          simp only [hz] at hpost
          exact fun s4 G4 H4 f4 o4 e4 z4 => ⟨G4, r3, f4, o4, e13.trans e4 fun _ z => z, z4, hpost⟩
        | bk r3 =>
          simp only [hz] at hpost
          exact fun s4 G4 H4 f4 o4 e4 z4 => hpost s4 G4 H4 f4 o4 (e13.trans e4 fun _ z => z) z4
        | er k r3 =>
          simp only [hz] at hpost
          exact fun s4 G4 H4 f4 o4 e4 z4 => hpost s4 G4 H4 f4 o4 (e13.trans e4 fun _ z => z) z4
        | rt d' =>
          simp only [hz] at hpost
          exact fun v fv G4 H4 a b c e4 => hpost v fv G4 H4 a b c (e13.trans e4 fun _ z => z)
        | stuck => simp only [hz] at hpost; exact hpost
    · rintro σ H' ⟨G', r', f', o2, e2, z2, hpost⟩
      rw [List.drop_length] at hpost
      unfold forGo at hpost
      exact hpost σ G' H' f' o2 e2 z2
theorem ss_for {tg iter : Expr} {body : List Stmt} {pos : Pos} {t : Tg} {i : II} {b : ISs} (g : Good C cl xa P n X) (po : PassesOwn (model X.prog X.w) X.A X.env X.xe)
    (pi : PI X tg iter (tI X.K cl xa W (isT t) (evalI P i))) (fs : ∀ x, foldedSetIterable iter X.env x = pure x) (pg : PG X tg (gT X.K t)) (h0 : (zb && (tgS t).contains 0) = false) (hb : SSs cl xa W zb zv P fu X body b) : SSt cl xa W zb zv P fu X (.For tg iter body [] pos) (one (.for_ t i b)) := by
  refine ss_one ((ps_for po g.calm pi pg hb fs).weak fun En s H h => for_key (vs := []) h0 (fun hp => ?_) h)
  cases t with
  | n i => cases hp
  | t l => exact ⟨_, rfl⟩
theorem ss_whl {c : Expr} {body : List Stmt} {pos : Pos} {x : IE} {b : ISs} (po : PassesOwn (model X.prog X.w) X.A X.env X.xe) (hc : PT X c (tB (tE X.K cl xa W (evalE P x)))) (hb : SSs cl xa W zb zv P fu X body b) :
    SSt cl xa W zb zv P fu X (.While c body [] pos) (one (.whl x b)) := by
  refine ss_one ((ps_while po hc hb).weak fun En s H ⟨G, r, f, t, o, zz, h⟩ => ?_)
  unfold evalS at h
  refine ⟨fun m σ H' => ∃ G' r' f', Ok X.K cl G' H' r' σ f' t ∧ Zp zb zv σ ∧ PostS X.K cl xa W zb zv En G' H' f' t (whlGo (fun r => evalE P x r) (fun r => evalSs P fu b r) m r'), ⟨fu, G, r, f, o, zz, h⟩, ?_⟩
  rintro m σ H' ⟨G', r', f', o1, z1, hpost⟩
  cases m with
  | zero => unfold whlGo at hpost; exact hpost.elim
  | succ m =>
    unfold whlGo at hpost
    refine ⟨G', r', f', t, o1, PostE.tst (Q := fun b1 H1 => if b1 = true then ∃ N : L2.St → Hp → Prop, (∀ σ' H', N σ' H' → ∃ m', m' < m + 1 ∧ ∃ G' r' f', Ok X.K cl G' H' r' σ' f' t ∧ Zp zb zv σ' ∧ PostS X.K cl xa W zb zv En G' H' f' t (whlGo (fun r => evalE P x r) (fun r => evalSs P fu b r) m' r')) ∧
        tS X.K cl xa W zb zv (evalSs P fu b) { En with nx := N, ct := N, bk := En.nx } σ H1 else En.nx σ H1) z1 hpost fun r2 bb G2 H2 f2 o2 e2 h2 => ?_⟩
    cases bb with
    | false =>
      simp only [Bool.false_eq_true, if_false] at h2 ⊢
      exact h2 σ G2 H2 f2 o2 e2 z1
    | true =>
      simp only [if_true] at h2 ⊢
      have h3 := PostS.base h2 e2
      refine ⟨fun σ' H' => ∃ G3 r3 f3, Ok X.K cl G3 H' r3 σ' f3 t ∧ Zp zb zv σ' ∧ PostS X.K cl xa W zb zv En G3 H' f3 t (whlGo (fun r => evalE P x r) (fun r => evalSs P fu b r) m r3), fun σ' H' z => ⟨m, Nat.lt_succ_self m, z⟩, G2, r2, f2, t, o2, z1, ?_⟩
      cases hz : evalSs P fu b r2 with
      | nx r3 =>
        simp only [hz] at h3
        exact fun s4 G4 H4 f4 o4 e4 z4 => ⟨G4, r3, f4, o4, z4, h3.base e4⟩
      | ct r3 =>
        simp only [hz] at h3
        exact fun s4 G4 H4 f4 o4 e4 z4 => ⟨G4, r3, f4, o4, z4, h3.base e4⟩
      | bk r3 =>
        simp only [hz] at h3
        exact fun s4 G4 H4 f4 o4 e4 z4 => h3 s4 G4 H4 f4 o4 e4 z4
      | er k r3 =>
        simp only [hz] at h3
        exact fun s4 G4 H4 f4 o4 e4 z4 => h3 s4 G4 H4 f4 o4 e4 z4
      | rt d' =>
        simp only [hz] at h3
        exact fun v fv G4 H4 a b c e4 => h3 v fv G4 H4 a b c e4
      | stuck => simp only [hz] at h3; exact h3

/-! ### what an own list or instance takes -/
theorem app_key {i : Nat} {x : IE} {En : Ends} {s : L2.St} {H : Hp} (h : tS X.K cl xa W zb zv (evalS P fu (.app i x)) En s H) :
    tVar i s H fun v H1 => (∃ a vs, v = .ref a ∧ SqL X.K H1 a vs) ∧ tE X.K cl xa W (evalE P x) s H1 fun y H2 => ∃ l xs, s[i]? = some (some (.ref l)) ∧ H2 l = some (.lst xs) ∧ xs.length < sizeLine ∧ En.nx s (upd H2 l (.lst (xs ++ [y]))) := by
  obtain ⟨G, r, f, t, o, zz, h⟩ := h
  unfold evalS at h
  split at h
  case isFalse => exact h.elim
  rename_i hown
  have hd0 : ∃ es, getS r i = some (.lst true es) := by
    unfold isOwnL at hown
    split at hown
    · rename_i e; exact ⟨_, e⟩
    · cases hown
  obtain ⟨es, hg0⟩ := hd0
  have key : PostE X.K cl xa W s G H f t (fun _ _ y _ _ H2 _ => ∃ l xs, s[i]? = some (some (.ref l)) ∧ H2 l = some (.lst xs) ∧ xs.length < sizeLine ∧ En.nx s (upd H2 l (.lst (xs ++ [y])))) (evalE P x r) := by
    refine PostE.stm (A := fun d r1 => match getS r1 i with
      | some (.lst true ds) => if odD d = false ∧ ds.length < sizeLine then .nx (r1.set i (some (.lst true (ds ++ [d.frz])))) else .stuck
      | _ => .stuck) zz h fun d r1 v fv G1 H1 f1 _ o1 e1 i1 q => ?_
    cases hod : odD d with
    | true =>
      exfalso
      split at q
      · split at q
        · rename_i hq; rw [hod] at hq; cases hq.1
        · exact q
      · exact q
    | false =>
    obtain ⟨o2, e2, rf⟩ := o1.frz hod i1
    cases hg : getS r1 i with
    | none => simp only [hg] at q; exact q.elim
    | some z =>
      cases z with
      | lst b ds =>
        cases b with
        | false => simp only [hg] at q; exact q.elim
        | true =>
          simp only [hg] at q
          split at q
          · rename_i hl
            replace hl := hl.2
            obtain ⟨w, f0, fa, fb, h1, h2, h3, h4, _⟩ := o2.sl.at hg
            obtain ⟨a, vs, rfl, hH, rs, rfl⟩ := h2
            have hda : ∀ z ∈ fa ++ fb, z ≠ a := fun z hz e => by
              subst e
              have nd := o2.nd
              rw [h3] at nd
              simp only [List.nodup_append, List.mem_append, List.mem_cons, List.not_mem_nil, or_false] at nd
              rcases List.mem_append.mp hz with y | y
              · exact nd.1.2.2 z y z (.inl rfl) rfl
              · exact nd.1.2.1.2.2 z rfl z y rfl
            have sl := h4 _ (upd H1 a (.lst (vs ++ [v]))) (.lst true (ds ++ [d.frz])) (.ref a) [a] (fun _ _ z => z) (fun z hz => upd_ne (hda z hz)) ⟨a, _, rfl, upd_same, RepFs.app rs (RepFs.cons rf RepFs.nil), rfl⟩
            rw [set_same h1] at sl
            have ha : a ∈ f1 := by rw [h3]; simp
            have e3 := e1.trans e2 fun _ z => z
            refine ⟨a, vs, h1, hH, by rw [← rs.len]; exact hl, q s _ _ f1 ⟨by rw [h3]; exact sl, o2.nd, o2.fr, fun z ob e => ?_, fun z hz => ?_⟩ ⟨fun z h1 h2 => ?_, fun z h1 => ?_, e3.gs, e3.gn, e3.fn⟩ zz⟩
            · have ga := o2.fr a (List.mem_append_left _ ha)
              rw [upd_ne (fun z' => by rw [z', ga] at e; cases e)]; exact o2.gh z ob e
            · rw [upd_ne (fun e => o2.disj hz (by rw [e]; exact ha))]; exact o2.th z hz
            · have ne : z ≠ a := fun e => by
                rcases e3.fn a ha with y | y
                · exact h2 (by rw [e]; exact y)
                · exact h1 (by rw [e]; exact y)
              rw [upd_ne ne]; exact e3.keep z h1 h2
            · by_cases e : z = a
              · subst e; rw [upd_same]; simp
              · rw [upd_ne e]; exact e3.there z h1
          · exact q.elim
      | _ => simp only [hg] at q; exact q.elim
  obtain ⟨v, f0, fa, fb, hv, ⟨a0, vs0, rfl, hH0, _⟩, _⟩ := o.sl.at hg0
  exact ⟨_, hv, ⟨a0, vs0, rfl, .inl (.inl hH0)⟩, G, r, f, t, o, key⟩
/-! ### o[k] = x -/
/-- what an own object is changed to -/
theorem Ok.put_at {K : PySem.W.Frag} {cl : Cl} {G1 H1 : Hp} {r1 : Rho} {s : L2.St} {f1 t : List Addr} {i : Nat} {c : D} (o2 : Ok K cl G1 H1 r1 s f1 t) (hg : getS r1 i = some c) (hown : c.own = true) : ∃ a, s[i]? = some (some (.ref a)) ∧ Rep K cl G1 H1 c (.ref a) [a] ∧
    ∀ u c', Rep K cl G1 (upd H1 a u) c' (.ref a) [a] → Ok K cl G1 (upd H1 a u) (r1.set i (some c')) s f1 t ∧ ∀ f G H, Ext f G H f1 G1 H1 → Ext f G H f1 G1 (upd H1 a u) := by
  obtain ⟨w, f0, fa, fb, h1, h2, h3, h4, _⟩ := o2.sl.at hg
  have h2' := h2
  have hone : ∃ a, f0 = [a] ∧ w = .ref a := by
    rcases h2.one with rfl | ⟨a, ob, e1, e2, _⟩
    · cases c with
      | lst b ds =>
        cases b with
        | false => cases hown
        | true => obtain ⟨a, _, _, _, _, e⟩ := h2; cases e
      | dct b ks ds =>
        cases b with
        | false => cases hown
        | true => obtain ⟨a, _, _, _, _, _, e⟩ := h2; cases e
      | ins b k ns ds =>
        cases b with
        | false => cases hown
        | true => obtain ⟨a, _, _, _, _, _, _, _, _, e⟩ := h2; cases e
      | _ => cases hown
    · exact ⟨a, e1, e2⟩
  obtain ⟨a, rfl, rfl⟩ := hone
  have ha : a ∈ f1 := by rw [h3]; simp
  have hda : ∀ z ∈ fa ++ fb, z ≠ a := fun z hz e => by
    subst e
    have nd := o2.nd
    rw [h3] at nd
    simp only [List.nodup_append, List.mem_append, List.mem_cons, List.not_mem_nil, or_false] at nd
    rcases List.mem_append.mp hz with y | y
    · exact nd.1.2.2 z y z (.inl rfl) rfl
    · exact nd.1.2.1.2.2 z rfl z y rfl
  refine ⟨a, h1, h2, fun u c' rc => ?_⟩
  have sl := h4 _ (upd H1 a u) c' (.ref a) [a] (fun _ _ z => z) (fun z hz => upd_ne (hda z hz)) rc
  rw [set_same h1] at sl
  refine ⟨⟨by rw [h3]; exact sl, o2.nd, o2.fr, fun z ob e => ?_, fun z hz => ?_⟩, fun f G H e3 => ⟨fun z h1 h2 => ?_, fun z h1 => ?_, e3.gs, e3.gn, e3.fn⟩⟩
  · have ga := o2.fr a (List.mem_append_left _ ha)
    rw [upd_ne (fun z' => by rw [z', ga] at e; cases e)]; exact o2.gh z ob e
  · rw [upd_ne (fun e => o2.disj hz (by rw [e]; exact ha))]; exact o2.th z hz
  · have ne : z ≠ a := fun e => by
      rcases e3.fn a ha with y | y
      · exact h2 (by rw [e]; exact y)
      · exact h1 (by rw [e]; exact y)
    rw [upd_ne ne]; exact e3.keep z h1 h2
  · by_cases e : z = a
    · subst e; rw [upd_same]; simp
    · rw [upd_ne e]; exact e3.there z h1
/-- a list's item, or a dict's -/
def rSetDL : V → V → V → Hp → (Hp → Prop) → Prop := fun o i v H Q => rSetD o i v H Q ∨ rSetL o i v H Q
theorem set_DL {X : Cx} (hu : X.A.units + 1 < cLine) : PSet X rSetDL := by
  intro pins s σ H o i v ov iv u Q I ro ri rv h
  rcases h with h | h
  · exact set_dict hu pins s σ H o i v ov iv u Q I ro ri rv h
  · exact set_list pins s σ H o i v ov iv u Q I ro ri rv h
theorem put_key {i : Nat} {k x : IE} {En : Ends} {s : L2.St} {H : Hp} (h : tS X.K cl xa W zb zv (evalS P fu (.put i k x)) En s H):
    tAsg (tE X.K cl xa W (evalE P x)) (gSub (tVar i) (tE X.K cl xa W (evalE P k)) rSetDL) En s H := by
  obtain ⟨G, r, f, t, o, zz, h⟩ := h
  unfold evalS at h
  refine ⟨G, r, f, t, o, PostE.stm (A := fun d r1 => if (getS r1 i).isSome && !odD d then match evalE P k r1 with
        | .ok o r2 => match o.get r2, getS r2 i with
          | some kd, some c => match putD c kd d.frz with
            | some c' => .nx (r2.set i (some c'))
            | none => .stuck
          | _, _ => .stuck
        | .err k r2 => .er k r2
        | .stuck => .stuck
      else .stuck) zz h fun d r1 v fv G1 H1 f1 _ o1 e1 i1 q => ?_⟩
  split at q
  case isFalse => exact q.elim
  rename_i hsome
  simp only [Bool.and_eq_true, Bool.not_eq_true'] at hsome
  obtain ⟨hsome, hod⟩ := hsome
  obtain ⟨o2, e2, rf⟩ := o1.frz hod i1
  have e12 := e1.trans e2 fun _ z => z
  obtain ⟨c0, hc0⟩ := Option.isSome_iff_exists.mp hsome
  obtain ⟨w0, g0, ga, gb, hs0, _⟩ := o2.sl.at hc0
  refine ⟨w0, hs0, _, r1, f1, t, o2, ?_⟩
  cases hk : evalE P k r1 with
  | stuck => rw [hk] at q; exact q.elim
  | err n r2 =>
    rw [hk] at q
    exact fun G3 H3 f3 o3 e3 => q s G3 H3 f3 o3 (e12.trans e3 fun _ z => z) zz
  | ok ok r2 =>
    rw [hk] at q
    intro y fy G3 H3 f3 o3 e3 i3
    have e13 : Ext f G H f3 G3 H3 := (e12.trans e3 fun _ z => z).sub fun a ha => List.mem_append_left _ ha
    cases hkd : ok.get r2 with
    | none => simp only [hkd] at q; exact q.elim
    | some kd =>
      cases hc : getS r2 i with
      | none => simp only [hkd, hc] at q; exact q.elim
      | some c =>
        simp only [hkd, hc] at q
        cases hp : putD c kd d.frz with
        | none => rw [hp] at q; exact q.elim
        | some c' =>
          rw [hp] at q
          simp only at q
          obtain ⟨fx, rk⟩ := i3.rep o3 hkd
          have o3' := o3.tail
          have rf3 : RepF X.K cl G3 d.frz v := rf.mono e3.gs
          have hown : c.own = true := by
            unfold putD at hp
            split at hp
            · rfl
            · rfl
            · cases hp
          obtain ⟨a, hsa, rc, up⟩ := o3'.put_at hc hown
          have ew : w0 = .ref a := by rw [hs0] at hsa; cases hsa; rfl
          subst ew
          cases c with
          | dct b ks vs =>
            cases b with
            | false => cases hown
            | true =>
            simp only [putD] at hp
            split at hp
            case isFalse => cases hp
            rename_i hlen
            obtain ⟨a', kvs, ea, hH, hks, hvs, _⟩ := rc
            cases ea
            unfold dctPut at hp
            rw [hks] at hp
            cases ek : keyD kd with
            | none => rw [ek] at hp; cases hp
            | some j =>
              rw [ek] at hp
              have hy := keyD_V rk ek
              subst hy
              have hkl : kvs.length < sizeLine := by
                have e := (keysD_V (K := X.K) (cl := cl) (G := G3) hks).len
                rw [List.length_map, List.length_map] at e
                omega
              have hany : (kvs.any fun kv => decide (kv.1 = j)) = (kvs.map (·.1)).any fun i => decide (i = j) := by rw [List.any_map]; rfl
              have fin : ∀ c', Rep X.K cl G3 (upd H3 a (.dK (putK kvs j v))) c' (.ref a) [a] → PostS X.K cl xa W zb zv En G H f t (.nx (r2.set i (some c'))) → rSetDL (.ref a) (kV j) v H3 fun H4 => En.nx s H4 := by
                intro c' rc' q'
                obtain ⟨ok', ex'⟩ := up _ _ rc'
                exact .inl ⟨a, _, rfl, DPut.k hH hkl, q' s G3 _ f3 ok' (ex' f G H e13) zz⟩
              dsimp only at hp
              by_cases hin : ((kvs.map (·.1)).any fun i => decide (i = j)) = true
              · rw [if_pos hin] at hp
                cases hp
                refine fin (.dct true ks (putV j d.frz (kvs.map (·.1)) vs)) ⟨a, _, rfl, upd_same, ?_, ?_, rfl⟩ q
                · unfold putK
                  rw [hany, if_pos hin, hks, List.map_map]
                  congr 1
                  apply List.map_congr_left
                  intro kv _
                  by_cases z : kv.1 = j <;> simp [z]
                · unfold putK
                  rw [hany, if_pos hin]
                  exact putV_V rf3 hvs
              · rw [if_neg hin] at hp
                cases hp
                refine fin (.dct true (ks ++ [kd]) (vs ++ [d.frz])) ⟨a, _, rfl, upd_same, ?_, ?_, rfl⟩ q
                · unfold putK
                  rw [hany, if_neg hin, keysD_app hks ek, List.map_append]
                  rfl
                · unfold putK
                  rw [hany, if_neg hin, List.map_append]
                  exact RepFs.app hvs (RepFs.cons rf3 RepFs.nil)
          | lst b ds =>
            cases b with
            | false => cases hown
            | true =>
            cases kd with
            | int jj =>
             simp only [putD] at hp
             split at hp
             · rename_i n hn
               cases hp
               obtain ⟨a', us, ea, hH, hus, _⟩ := rc
               cases ea
               have hy : y = .int jj := rk.int
               subst hy
               rw [hus.len] at hn
               obtain ⟨ok', ex'⟩ := up (.lst (us.set n v)) (.lst true (ds.set n d.frz)) ⟨a, _, rfl, upd_same, hus.set rf3, rfl⟩
               exact .inr ⟨a, us, jj, n, rfl, rfl, hH, hn, q s G3 _ f3 ok' (ex' f G H e13) zz⟩
             · cases hp
            | _ => cases hp
          | ins b _ _ _ => cases hp
          | _ => cases hown
/-- x[k] = e -/
theorem ss_put {x : Str} {px pos' pos : Pos} {k e : Expr} {i : Nat} {y z : IE} (hu : X.A.units + 65 < cLine) (hN : X.N[i]? = some x) (hv : Vis X.env.scope x) (hd : notDbg x = true) (hk : PE X k (tE X.K cl xa W (evalE P y))) (he : PE X e (tE X.K cl xa W (evalE P z)))
    (hs : isSl k = false) (h2 : isLC e = false) (h3 : ∀ a b c d, e ≠ .SetComp a b c d) : SSt cl xa W zb zv P fu X (.Assign [.Subscript (.Name x px) k pos'] e pos) (one (.put i y z)) := by
  refine ss_one ((ps_asg he (pg_sub (pe_var hN hv (dbg hd).1 (dbg hd).2) hk (set_DL (by omega)) ?_) ?_ ?_ ?_).weak fun En s H h => put_key h)
  · intro v
    cases k <;> first | rfl | (cases hs; done)
  · show swapsWith e (some (.Subscript (.Name x px) k pos')) pos.line X.env = pure false
    cases e <;> first | rfl | (cases h2; done) | exact absurd rfl (h3 _ _ _ _)
  · cases e <;> rfl
  · rfl
end
end GF
namespace GF
open PySem L2 PySem.Spec PyProof.Rows

/-! ## x[k], y[j] = a, b -/
section
variable {X : Cx} {cl : Cl} {xa : Nat → Value} {W : WX} {P : Phi} {C : CC} {n fu : Nat} {zb : Bool} {zv : V} {sc : Scope}
def RS.then_ (x : RS) (k : Rho → RS) : RS := match x with
  | .nx r => k r
  | q => q
/-- a value is stored at slot i's key k, on with K' -/
theorem store_key {i : Nat} {k : IE} {K' : Rho → RS} {En : Ends} {s : L2.St} {G H G1 H1 : Hp} {f t f1 : List Addr} {r1 : Rho} {d : D} {v : V} {Q : L2.St → Hp → Prop} (zz : Zp zb zv s) (o2 : Ok X.K cl G1 H1 r1 s f1 t) (e12 : Ext f G H f1 G1 H1) (rf : RepF X.K cl G1 d v)
    (q : PostS X.K cl xa W zb zv En G H f t ((putIx i (fun r => evalE P k r) d r1).then_ K'))
    (fin : ∀ G3 H3 f3 r3, Ok X.K cl G3 H3 r3 s f3 t → Ext f G H f3 G3 H3 → Same G1 G3 → PostS X.K cl xa W zb zv En G H f t (K' r3) → Q s H3) :
    gSub (tVar i) (tE X.K cl xa W (evalE P k)) rSetDL v s H1 Q := by
  unfold putIx at q
  split at q
  case isFalse => exact q.elim
  rename_i hsome
  obtain ⟨c0, hc0⟩ := Option.isSome_iff_exists.mp hsome
  obtain ⟨w0, g0, ga, gb, hs0, _⟩ := o2.sl.at hc0
  refine ⟨w0, hs0, _, r1, f1, t, o2, ?_⟩
  cases hk : evalE P k r1 with
  | stuck => simp only [hk] at q; exact q.elim
  | err n r2 =>
    simp only [hk] at q
    exact fun G3 H3 f3 o3 e3 => q s G3 H3 f3 o3 (e12.trans e3 fun _ z => z) zz
  | ok ok r2 =>
    simp only [hk] at q
    intro y fy G3 H3 f3 o3 e3 i3
    have e13 : Ext f G H f3 G3 H3 := (e12.trans e3 fun _ z => z).sub fun a ha => List.mem_append_left _ ha
    cases hkd : ok.get r2 with
    | none => simp only [hkd] at q; exact q.elim
    | some kd =>
      cases hc : getS r2 i with
      | none => simp only [hkd, hc] at q; exact q.elim
      | some c =>
        simp only [hkd, hc] at q
        cases hp : putD c kd d with
        | none => simp only [hp] at q; exact q.elim
        | some c' =>
          simp only [hp] at q
          have q : PostS X.K cl xa W zb zv En G H f t (K' (r2.set i (some c'))) := q
          obtain ⟨fx, rk⟩ := i3.rep o3 hkd
          have o3' := o3.tail
          have rf3 : RepF X.K cl G3 d v := rf.mono e3.gs
          have hown : c.own = true := by
            unfold putD at hp
            split at hp
            · rfl
            · rfl
            · cases hp
          obtain ⟨a, hsa, rc, up⟩ := o3'.put_at hc hown
          have ew : w0 = .ref a := by rw [hs0] at hsa; cases hsa; rfl
          subst ew
          cases c with
          | dct b ks vs =>
            cases b with
            | false => cases hown
            | true =>
            simp only [putD] at hp
            split at hp
            case isFalse => cases hp
            rename_i hlen
            obtain ⟨a', kvs, ea, hH, hks, hvs, _⟩ := rc
            cases ea
            unfold dctPut at hp
            rw [hks] at hp
            cases ek : keyD kd with
            | none => rw [ek] at hp; cases hp
            | some j =>
              rw [ek] at hp
              have hy := keyD_V rk ek
              subst hy
              have hkl : kvs.length < sizeLine := by
                have e := (keysD_V (K := X.K) (cl := cl) (G := G3) hks).len
                rw [List.length_map, List.length_map] at e
                omega
              have hany : (kvs.any fun kv => decide (kv.1 = j)) = (kvs.map (·.1)).any fun i => decide (i = j) := by rw [List.any_map]; rfl
              have fin' : ∀ c', Rep X.K cl G3 (upd H3 a (.dK (putK kvs j v))) c' (.ref a) [a] → PostS X.K cl xa W zb zv En G H f t (K' (r2.set i (some c'))) → rSetDL (.ref a) (kV j) v H3 fun H4 => Q s H4 := by
                intro c' rc' q'
                obtain ⟨ok', ex'⟩ := up _ _ rc'
                exact .inl ⟨a, _, rfl, DPut.k hH hkl, fin _ _ _ _ ok' (ex' f G H e13) e3.gs q'⟩
              dsimp only at hp
              by_cases hin : ((kvs.map (·.1)).any fun i => decide (i = j)) = true
              · rw [if_pos hin] at hp
                cases hp
                refine fin' (.dct true ks (putV j d (kvs.map (·.1)) vs)) ⟨a, _, rfl, upd_same, ?_, ?_, rfl⟩ q
                · unfold putK
                  rw [hany, if_pos hin, hks, List.map_map]
                  congr 1
                  apply List.map_congr_left
                  intro kv _
                  by_cases z : kv.1 = j <;> simp [z]
                · unfold putK
                  rw [hany, if_pos hin]
                  exact putV_V rf3 hvs
              · rw [if_neg hin] at hp
                cases hp
                refine fin' (.dct true (ks ++ [kd]) (vs ++ [d])) ⟨a, _, rfl, upd_same, ?_, ?_, rfl⟩ q
                · unfold putK
                  rw [hany, if_neg hin, keysD_app hks ek, List.map_append]
                  rfl
                · unfold putK
                  rw [hany, if_neg hin, List.map_append]
                  exact RepFs.app hvs (RepFs.cons rf3 RepFs.nil)
          | lst b ds =>
            cases b with
            | false => cases hown
            | true =>
            cases kd with
            | int jj =>
             simp only [putD] at hp
             split at hp
             · rename_i n hn
               cases hp
               obtain ⟨a', us, ea, hH, hus, _⟩ := rc
               cases ea
               have hy : y = .int jj := rk.int
               subst hy
               rw [hus.len] at hn
               obtain ⟨ok', ex'⟩ := up (.lst (us.set n v)) (.lst true (ds.set n d)) ⟨a, _, rfl, upd_same, hus.set rf3, rfl⟩
               exact .inr ⟨a, us, jj, n, rfl, rfl, hH, hn, fin _ _ _ _ ok' (ex' f G H e13) e3.gs q⟩
             · cases hp
            | _ => cases hp
          | ins b _ _ _ => cases hp
          | _ => cases hown
theorem put2_key {i j : Nat} {k1 k2 x : IE} {En : Ends} {s : L2.St} {H : Hp} (h : tS X.K cl xa W zb zv (evalS P fu (.put2 i j k1 k2 x)) En s H) :
    tAsg (tE X.K cl xa W (evalE P x)) (gTup X.K 2 (gCons (gSub (tVar i) (tE X.K cl xa W (evalE P k1)) rSetDL) (gCons (gSub (tVar j) (tE X.K cl xa W (evalE P k2)) rSetDL) gNil))) En s H := by
  obtain ⟨G, r, f, t, o, zz, h⟩ := h
  unfold evalS at h
  refine ⟨G, r, f, t, o, PostE.stm (A := fun d r1 => match d with
      | .tup [d1, d2] => match putIx i (fun r => evalE P k1 r) d1 r1 with
        | .nx r2 => putIx j (fun r => evalE P k2 r) d2 r2
        | q => q
      | _ => .stuck) zz h fun d r1 v fv G1 H1 f1 _ o1 e1 i1 q => ?_⟩
  cases d with
  | tup ds =>
    match ds, q, i1 with
    | [d1, d2], q, i1 =>
      obtain ⟨a, vs, rfl, s1, s2, rs⟩ := Rep.tup o1.gh i1
      obtain ⟨_, rfl⟩ := i1.F rfl
      unfold RepFs at rs
      obtain ⟨v1, r', rfl, h1, rs⟩ := rs
      unfold RepFs at rs
      obtain ⟨v2, r'', rfl, h2, rs⟩ := rs
      have := rs.nilV
      subst this
      rw [List.append_nil] at e1
      refine ⟨a, [v1, v2], rfl, s2, rfl, v1, [v2], rfl, ?_⟩
      refine store_key (K' := fun r2 => putIx j (fun r => evalE P k2 r) d2 r2) (En := En) zz (o1.tail) e1 h1 (by
        unfold RS.then_
        exact q) fun G3 H3 f3 r3 o3 e3 sg q3 => ?_
      refine ⟨v2, [], rfl, ?_⟩
      refine store_key (K' := fun r => .nx r) (En := En) zz o3 e3 (h2.mono sg) (by
        have e : (putIx j (fun r => evalE P k2 r) d2 r3).then_ (fun r => .nx r) = putIx j (fun r => evalE P k2 r) d2 r3 := by
          cases putIx j (fun r => evalE P k2 r) d2 r3 <;> rfl
        rw [e]
        exact q3) fun G4 H4 f4 r4 o4 e4 _ q4 => ?_
      exact ⟨rfl, q4 s G4 H4 f4 o4 e4 zz⟩
    | [], q, _ => exact q.elim
    | [_], q, _ => exact q.elim
    | _ :: _ :: _ :: _, q, _ => exact q.elim
  | _ => exact q.elim
theorem ss_put2 {x y : Str} {px py p1 p2 pt pt2 pos : Pos} {kt kt2 : Nat} {k1 k2 a b : Expr} {i j : Nat} {u w z : IE} (hc : X.calm = true) (hu : X.A.units + 65 < cLine) (hN : X.N[i]? = some x) (hM : X.N[j]? = some y) (hv : Vis X.env.scope x) (hw : Vis X.env.scope y) (hd : notDbg x = true) (he : notDbg y = true)
    (h1 : PE X k1 (tE X.K cl xa W (evalE P u))) (h2 : PE X k2 (tE X.K cl xa W (evalE P w))) (h3 : PE X (.Tuple [a, b] kt2 pt2) (tE X.K cl xa W (evalE P z))) (s1 : isSl k1 = false) (s2 : isSl k2 = false) :
    SSt cl xa W zb zv P fu X (.Assign [.Tuple [.Subscript (.Name x px) k1 p1, .Subscript (.Name y py) k2 p2] kt pt] (.Tuple [a, b] kt2 pt2) pos) (one (.put2 i j u w z)) := by
  have g1 : PG X (.Subscript (.Name x px) k1 p1) (gSub (tVar i) (tE X.K cl xa W (evalE P u)) rSetDL) := pg_sub (pe_var hN hv (dbg hd).1 (dbg hd).2) h1 (set_DL (by omega)) (by
    intro v
    cases k1 <;> first | rfl | (cases s1; done))
  have g2 : PG X (.Subscript (.Name y py) k2 p2) (gSub (tVar j) (tE X.K cl xa W (evalE P w)) rSetDL) := pg_sub (pe_var hM hw (dbg he).1 (dbg he).2) h2 (set_DL (by omega)) (by
    intro v
    cases k2 <;> first | rfl | (cases s2; done))
  refine ss_one ((ps_asg h3 (pg_tup hc (pgs_cons g1 (pgs_cons g2 pgs_nil))) ?_ ?_ ?_).weak fun En s H h => put2_key h)
  · rfl
  · unfold swappedStores
    simp
  · rfl
end
end GF
namespace GF
open PySem L2 PySem.Spec PyProof.Rows

section
variable {X : Cx} {cl : Cl} {xa : Nat → Value} {W : WX} {P : Phi} {C : CC} {n fu : Nat} {zb : Bool} {zv : V} {sc : Scope}
theorem ss_app {x : Str} {e : Expr} {q apos pos pos' : Pos} {i : Nat} {y : IE} (hN : X.N[i]? = some x) (hv : Vis X.env.scope x) (hd : notDbg x = true) (he : SE cl xa W P X e y) (hline : (apos.endLine == pos.line) = true) :
    SSt cl xa W zb zv P fu X (.Expr (.Call (.Attribute (.Name x q) "append" apos) [e] [] pos) pos') (one (.app i y)) := by
  have pa : PA X [e] (tCons (tE X.K cl xa W (evalE P y)) tNil) := pa_cons he.pe pa_nil (star_cons he.ns)
  have pc := pe_bmN (pe_var (pos := q) hN hv (dbg hd).1 (dbg hd).2) rfl pa he.ns hline (m := "append")
  refine ss_one ((ps_expr pc).weak fun En s H h => ?_)
  obtain ⟨v, h1, h2, h3⟩ := app_key h
  refine ⟨v, h1, "list", "list.append", rAppend, PySem.F.plainAttrs_list, PySem.F.slot_list_append, PySem.F.type_list_append, mt_append, .inl ?_, ?_⟩
  · obtain ⟨a, vs, e1, e2⟩ := h2
    exact ⟨a, vs, e1, rfl, e2⟩
  · obtain ⟨G, r, f, t, o, h3⟩ := h3
    refine ⟨G, r, f, t, o, PostE.mono h3 fun _ _ w _ _ H' _ ⟨l, xs, k1, k2, k3, k4⟩ => ?_⟩
    rw [h1] at k1
    injection k1 with k1; injection k1 with k1
    exact ⟨l, xs, w, k1, rfl, k2, k3, k4⟩
/-! ### an own instance's field -/
theorem putN_V {K : PySem.W.Frag} {G : Hp} {i : Nat} {d : D} {v : V} (inj : ∀ j, cl.fn j = cl.fn i → j = i) (hv : RepF K cl G d v) : ∀ {ns : List Nat} {ds : List D} {vs : List V}, ns.length = vs.length → RepFs K cl G ds vs →
    ∃ us, L2.putF (cl.fn i) v ((ns.map cl.fn).zip vs) = ((putN i d ns ds).1.map cl.fn).zip us ∧ RepFs K cl G (putN i d ns ds).2 us ∧ (putN i d ns ds).1.length = us.length ∧ (∀ j ∈ (putN i d ns ds).1, j ∈ ns ∨ j = i)
  | [], ds, vs, hl, h => by
    cases vs with
    | cons _ _ => cases hl
    | nil =>
      have : ds = [] := by
        cases ds with
        | nil => rfl
        | cons d ds => unfold RepFs at h; obtain ⟨_, _, e, _⟩ := h; cases e
      subst this
      exact ⟨[v], by simp [putN, L2.putF], by simp only [putN]; exact RepFs.cons hv RepFs.nil, by simp [putN], fun j hj => by simp [putN] at hj; exact .inr hj⟩
  | j :: ns, ds, vs, hl, h => by
    cases vs with
    | nil => cases hl
    | cons u vs =>
      cases ds with
      | nil => unfold RepFs at h; cases h
      | cons d0 ds =>
        unfold RepFs at h
        obtain ⟨u', r, e, h1, h2⟩ := h
        cases e
        have hl' : ns.length = vs.length := by simpa using hl
        by_cases hj : j = i
        · subst hj
          refine ⟨v :: vs, by simp [putN, L2.putF], by simp only [putN, if_pos]; exact RepFs.cons hv h2, by simp [putN, hl'], fun k hk => ?_⟩
          simp only [putN, if_pos] at hk
          exact .inl hk
        · obtain ⟨us, e1, e2, e3, e4⟩ := putN_V inj hv hl' h2
          have ne : cl.fn j ≠ cl.fn i := fun e => hj (inj j e)
          refine ⟨u :: us, ?_, ?_, ?_, fun k hk => ?_⟩
          · simp only [putN, if_neg hj, List.map_cons, List.zip_cons_cons, L2.putF, if_neg ne, e1]
          · simp only [putN, if_neg hj]; exact RepFs.cons h1 e2
          · simp only [putN, if_neg hj, List.length_cons, e3]
          · simp only [putN, if_neg hj] at hk
            rcases List.mem_cons.mp hk with z | z
            · exact .inl (by rw [z]; exact List.mem_cons_self)
            · rcases e4 k z with y | y
              · exact .inl (List.mem_cons_of_mem _ y)
              · exact .inr y
theorem ss_setf {x f : Str} {e : Expr} {q apos pos : Pos} {i j : Nat} {y : IE} (g : Good C cl xa P n X) (hN : X.N[i]? = some x) (hv : Vis X.env.scope x) (hd : notDbg x = true) (hf : C.F.lookup f = some j) (he : SE cl xa W P X e y) :
    SSt cl xa W zb zv P fu X (.Assign [.Attribute (.Name x q) f apos] e pos) (one (.setf i j y)) := by
  obtain ⟨rfl, inj⟩ := g.fld f j hf
  have hsw : swapsWith e (some (.Attribute (.Name x q) (cl.fn j) apos)) pos.line X.env = pure false := by cases e <;> rfl
  refine ss_one ((ps_fld (pe_var hN hv (dbg hd).1 (dbg hd).2) he.pe hsw).weak fun En s H ⟨G, r, f, t, o, zz, h⟩ => ⟨G, r, f, t, o, ?_⟩)
  unfold evalS at h
  refine PostE.stm (A := fun d r1 => match getS r1 i with
    | some (.ins true k ns ds) => if ns.length < 100 && P.fl k j && !odD d then .nx (r1.set i (some (.ins true k (putN j d.frz ns ds).1 (putN j d.frz ns ds).2))) else .stuck
    | _ => .stuck) zz h fun d r1 v fv G1 H1 f1 _ o1 e1 i1 q => ?_
  cases hod : odD d with
  | true =>
    exfalso
    split at q
    · split at q
      · rename_i hq; rw [hod] at hq; simp at hq
      · exact q
    · exact q
  | false =>
  obtain ⟨o2, e2, rf⟩ := o1.frz hod i1
  cases hg : getS r1 i with
  | none => simp only [hg] at q; exact q.elim
  | some z =>
    cases z with
    | ins b k ns ds =>
      cases b with
      | false => simp only [hg] at q; exact q.elim
      | true =>
        simp only [hg] at q
        split at q
        · rename_i hl
          simp only [Bool.and_eq_true, decide_eq_true_eq] at hl
          replace hl := hl.1
          obtain ⟨w, f0, fa, fb, h1, h2, h3, h4, _⟩ := o2.sl.at hg
          obtain ⟨a, A, dx, vs, rfl, hA, hH, ⟨hlen, hall⟩, rs, rfl⟩ := h2
          obtain ⟨us, p1, p2, p3, p4⟩ := putN_V inj rf hlen rs
          have hfj := g.hfs k j hl.2
          obtain ⟨c1, c2⟩ := g.att k A j hA hfj
          have hda : ∀ z ∈ fa ++ fb, z ≠ a := fun z hz e => by
            subst e
            have nd := o2.nd
            rw [h3] at nd
            simp only [List.nodup_append, List.mem_append, List.mem_cons, List.not_mem_nil, or_false] at nd
            rcases List.mem_append.mp hz with y | y
            · exact nd.1.2.2 z y z (.inl rfl) rfl
            · exact nd.1.2.1.2.2 z rfl z y rfl
          have hall2 : (putN j d.frz ns ds).1.all (cl.hf k) = true := List.all_eq_true.mpr fun m hm => by
            rcases p4 m hm with z | z
            · exact List.all_eq_true.mp hall m z
            · rw [z]; exact hfj
          have sl := h4 _ (upd H1 a (.ins A dx (L2.putF (cl.fn j) v ((ns.map cl.fn).zip vs)))) (.ins true k (putN j d.frz ns ds).1 (putN j d.frz ns ds).2) (.ref a) [a] (fun _ _ z => z) (fun z hz => upd_ne (hda z hz))
            ⟨a, A, dx, us, rfl, hA, by rw [upd_same, p1], ⟨p3, hall2⟩, p2, rfl⟩
          rw [set_same h1] at sl
          have ha : a ∈ f1 := by rw [h3]; simp
          have e3 := e1.trans e2 fun _ z => z
          refine ⟨.ref a, h1, a, A, dx, _, rfl, hH, c1, c2, ?_, q s _ _ f1 ⟨by rw [h3]; exact sl, o2.nd, o2.fr, fun z ob e => ?_, fun z hz => ?_⟩ ⟨fun z h1 h2 => ?_, fun z h1 => ?_, e3.gs, e3.gn, e3.fn⟩ zz⟩
          · rw [List.length_zip, List.length_map]
            omega
          · have ga := o2.fr a (List.mem_append_left _ ha)
            rw [upd_ne (fun z' => by rw [z', ga] at e; cases e)]; exact o2.gh z ob e
          · rw [upd_ne (fun e => o2.disj hz (by rw [e]; exact ha))]; exact o2.th z hz
          · have ne : z ≠ a := fun e => by
              rcases e3.fn a ha with y | y
              · exact h2 (by rw [e]; exact y)
              · exact h1 (by rw [e]; exact y)
            rw [upd_ne ne]; exact e3.keep z h1 h2
          · by_cases e : z = a
            · subst e; rw [upd_same]; simp
            · rw [upd_ne e]; exact e3.there z h1
        · exact q.elim
    | _ => simp only [hg] at q; exact q.elim
end
end GF
namespace GF
open PySem L2 PySem.Spec PyProof.Rows

section
variable {X : Cx} {cl : Cl} {xa : Nat → Value} {W : WX} {P : Phi} {C : CC} {n fu : Nat} {zb : Bool} {zv : V} {sc : Scope}
/-! ### raise and try -/
theorem ss_raise {e : Expr} {k : Nat} {pos : Pos} (g : Good C cl xa P n X) (so : ScOk sc X) (tk : Takes X W) (h : cRaise C sc e = some k) : SSt cl xa W zb zv P fu X (.Raise (some e) none pos) (one (.raise k)) := by
  unfold cRaise at h
  split at h
  · rename_i x p es pos'
    split at h
    · rename_i hc
      simp only [Bool.and_eq_true] at hc
      obtain ⟨⟨h1, h2⟩, h3⟩ := hc
      unfold msgOk at h3
      split at h3
      · split at h
        · rename_i k' hT
          cases h
          obtain ⟨A, m1, m2, m3, m4, m5⟩ := g.exc x _ hT
          refine ss_one ((ps_raise g.calm tk (pmk_own PySem.F.excBase_ValueError m5 m1 m3 m4 (so.glo h1) (dbg h2).1)).weak fun En s H ⟨G, r, f, t, o, zz, h⟩ => ?_)
          unfold evalS at h
          have := h s G H f o Ext.refl zz
          rw [m2] at this
          exact this
        · cases h
      · cases h3
    · cases h
  · cases h
/-- an except suite does not ask where it stands -/
theorem ss_su {sts : List Stmt} {irs : ISs} (h : cSu sts = some irs) : SSs cl xa W zb zv P fu X sts irs := by
  have one_ : ∀ {st : Stmt}, SSt cl xa W zb zv P fu X st irs → SSs cl xa W zb zv P fu X [st] irs := fun h => pss_one h
  unfold cSu at h
  split at h
  · cases h; exact one_ ss_retN
  · rw [Option.map_eq_some_iff] at h
    obtain ⟨x, hx, rfl⟩ := h
    exact one_ (ss_ret (se_const hx).pe)
  · cases h; exact one_ ss_pass
  · cases h; exact one_ ss_brk
  · cases h; exact one_ ss_cnt
  · cases h
/-- the handlers, as the kit has them -/
theorem hds_ok (g : Good C cl xa P n X) (so : ScOk sc X) : ∀ {hs : List ExceptHandler} {ih : IHs}, cHs C sc hs = some ih → ∃ l, HdsOk X hs l ∧
    ∀ (En : Ends) (k : Nat) (r : Rho) (s : L2.St) (G H : Hp) (f t : List Addr), Ok X.K cl G H r s f t → Zp zb zv s → PostS X.K cl xa W zb zv En G H f t (evalH P fu ih k r) → wMany X.K W En l (xa k) none s H
  | [], ih, h => by
    unfold cHs at h; cases h
    refine ⟨[], .nil, fun En k r s G H f t o zz h => ?_⟩
    unfold evalH at h
    exact h s G H f o Ext.refl zz
  | hd :: hs, ih, h => by
    unfold cHs at h
    split at h
    · rename_i e; cases e
    · rename_i x p b bs pos r e
      cases e
      split at h
      · rename_i hc
        simp only [Bool.and_eq_true] at hc
        split at h
        · rename_i k0 ss hs' hT h2 h3
          cases h
          obtain ⟨l, hl, hk⟩ := hds_ok g so h3
          obtain ⟨A, m1, m2, _⟩ := g.exc x _ hT
          refine ⟨(xa k0, fun _ _ _ => tS X.K cl xa W zb zv (evalSs P fu ss)) :: l, .cons ⟨so.glo hc.1, (dbg hc.2).1, .inl (by rw [m2]; exact m1)⟩ (fun a oe cls d pn _ _ => ss_su (X := X.suite a ((a, oe) :: pn)) h2) hl, fun En k r s G H f t o zz h => ?_⟩
          unfold evalH at h
          refine ⟨P.sub k k0, g.sub k k0 ⟨x, hT⟩, fun hb a _ => ?_, fun hb => ?_⟩
          · rw [if_pos hb] at h
            exact ⟨G, r, f, t, o, zz, h⟩
          · rw [if_neg (by rw [hb]; exact Bool.false_ne_true)] at h
            exact hk En k r s G H f t o zz h
        · cases h
      · cases h
    · cases h
theorem Good.tr (g : Good C cl xa P n X) {pn : List (Addr × Obj)} {xe : Value → Shared → Prop} : Good C cl xa P n (X.tr pn xe) where
  calm := g.calm
  nd := g.nd
  hN := g.hN
  room := g.room
  con := g.con
  fn := fun x f h => let ⟨fa, h1, h2⟩ := g.fn x f h; ⟨fa, h1, h2.blk rfl rfl rfl rfl rfl⟩
  cls := fun x k h => let ⟨A, fi, h1, h2, h3, h4⟩ := g.cls x k h; ⟨A, fi, h1, h2, h3, h4.blk rfl rfl rfl rfl rfl⟩
  exc := g.exc
  sub := g.sub
  exi := g.exi
  kit := g.kit
  blt := g.blt
  fld := g.fld
  att := g.att
  hfs := g.hfs
  mth := fun m j k f A h1 h2 h3 => let ⟨fa, k1, k2, k3, k4⟩ := g.mth m j k f A h1 h2 h3; ⟨fa, k1, k2, k3.blk rfl rfl rfl rfl rfl, k4⟩
theorem ScOk.tr (so : ScOk sc X) {pn : List (Addr × Obj)} {xe : Value → Shared → Prop} : ScOk sc (X.tr pn xe) := ⟨so.k, so.f, so.fk⟩
/-- where a statement stands -/
structure StOk (X : Cx) (W : WX) : Prop where
  tk : Takes X W
  po : PassesOwn (model X.prog X.w) X.A X.env X.xe
  hs : X.stack = X.env :: X.outer
  hf : X.env.frame = some X.env.locals
theorem ss_try {body : List Stmt} {h0 : ExceptHandler} {hds : List ExceptHandler} {pos : Pos} {b : ISs} {ih : IHs} (g : Good C cl xa P n X) (so : ScOk sc X) (st : StOk X W) (hh : cHs C sc (h0 :: hds) = some ih)
    (hb : ∀ (W' : WX) (pn : List (Addr × Obj)) (xe : Value → Shared → Prop), StOk (X.tr pn xe) W' → SSs cl xa W' zb zv P fu (X.tr pn xe) body b) : SSt cl xa W zb zv P fu X (.Try body (h0 :: hds) [] [] pos) (one (.try_ b ih)) := by
  obtain ⟨l, hl, hk⟩ := hds_ok (W := W) (fu := fu) (zb := zb) (zv := zv) g so hh
  refine ss_one ((ps_try_many (tb := fun W' => tS X.K cl xa W' zb zv (evalSs P fu b)) st.hs st.hf st.tk (fun W' pn xe tk po => hb W' pn xe ⟨tk, po, st.hs, st.hf⟩) hl).weak fun En s H ⟨G, r, f, t, o, zz, h⟩ => ⟨G, r, f, t, o, zz, ?_⟩)
  unfold evalS at h
  cases hx : evalSs P fu b r with
  | nx r1 => simp only [hx] at h; exact h
  | bk r1 => simp only [hx] at h; exact h
  | ct r1 => simp only [hx] at h; exact h
  | rt d => simp only [hx] at h; exact h
  | stuck => simp only [hx] at h; exact h
  | er k r1 =>
    simp only [hx] at h
    exact fun s1 G1 H1 f1 o1 e1 z1 => hk En k r1 s1 G1 H1 f1 t o1 z1 (h.base e1)

/-! ### try: .. except X as e: return isinstance(e, Y) -/
def rvV : D → V
  | .bl b => .bl b
  | .int i => .int i
  | .str s => .str s
  | _ => .non
theorem rv_ok {c : Const} {d : D} (h : cConst c = some (.c d)) : ∀ K cl G, RepF K cl G d (rvV d) := by
  unfold cConst at h
  split at h <;> cases h <;> intro K cl G <;> unfold RepF rvV <;> rfl
def suTs (X : Cx) (i j : Nat) (d1 d2 : D) : Addr → Value → Option Addr → TS := fun a cls d En σ H => ∃ D bb, cls = .ref D ∧ d = none ∧ L2.ExcC X.K D ∧ PySem.W.kitOne X.K cls (xa j) = some bb ∧ σ[i]? = some (some (.ref a)) ∧ En.rt (rvV (if bb then d1 else d2)) H
section
variable {X0 : Cx}
theorem isE_pe {a : Addr} {oe : Obj} {D : Addr} {pn : List (Addr × Obj)} {n y : Str} {p p1 p2 pos : Pos} {i : Nat} {A : Addr} {bb : Bool} (hC : L2.ExcC X.K D) (hz : Zc (.ref D) none oe) (hf : ∃ vs, oe.data = .fields vs) (hN : X.N[i]? = some n) (hv : Vis X.env.scope n) (hd : notDbg n = true)
    (hg : Gl X "isinstance") (hm : X.mg "isinstance" = none) (hy : Gl X y) (hdy : notDbg y = true) (hA : X.mg y = some (.ref A)) (hk : PySem.W.kitOne X.K (.ref D) (.ref A) = some bb) :
    PE (X.suite a ((a, oe) :: pn)) (.Call (.Name "isinstance" p) [.Name n p1, .Name y p2] [] pos) (fun σ H Q => σ[i]? = some (some (.ref a)) ∧ Q (.bl bb) H) := by
  refine (pe_callB (call_isE hC hz hf) (X := X.suite a ((a, oe) :: pn)) hg hm (by decide +kernel) (pa_cons (pe_var (X := X.suite a ((a, oe) :: pn)) hN hv (dbg hd).1 (dbg hd).2) (pa_cons (pe_glob (X := X.suite a ((a, oe) :: pn)) (v := .ref A) hy hA rfl (dbg hdy).1) pa_nil)) (by decide +kernel) (by decide +kernel)).weak fun σ H Q h => ?_
  exact ⟨.ref a, h.1, .ref A, .ref A, bb, rfl, fun u r => r, hk, h.2⟩
theorem suA_inv {n : Str} {su : List Stmt} {y : Str} {d1 d2 : D} (h : suA n su = some (y, d1, d2)) :
    (∃ p p1 p2 q pos, su = [.Return (some (.Call (.Name "isinstance" p) [.Name n p1, .Name y p2] [] q)) pos] ∧ d1 = .bl true ∧ d2 = .bl false) ∨
    (∃ p p1 p2 q c k q1 d k' q2 q3 pos, su = [.Return (some (.IfExp (.Call (.Name "isinstance" p) [.Name n p1, .Name y p2] [] q) (.Constant c k q1) (.Constant d k' q2) q3)) pos] ∧ cConst c = some (.c d1) ∧ cConst d = some (.c d2)) := by
  unfold suA at h
  split at h
  · split at h
    · rename_i hc
      obtain ⟨rfl, rfl⟩ := hc
      cases h
      exact .inl ⟨_, _, _, _, _, rfl, rfl, rfl⟩
    · cases h
  · split at h
    · rename_i hc
      obtain ⟨rfl, rfl⟩ := hc
      split at h
      · rename_i h1 h2
        cases h
        exact .inr ⟨_, _, _, _, _, _, _, _, _, _, _, _, rfl, h1, h2⟩
      · cases h
    · cases h
  · cases h
theorem excK_inv {z : Str} {m : Nat} (h : excK C sc z = some m) : gloK sc z = true ∧ notDbg z = true ∧ C.T.lookup z = some (.exc m) := by
  unfold excK at h
  split at h
  · rename_i hc
    rw [Bool.and_eq_true] at hc
    split at h
    · rename_i hT
      cases h
      exact ⟨hc.1, hc.2, hT⟩
    · cases h
  · cases h
theorem rvV_rep {d : D} {K : PySem.W.Frag} {cl : Cl} {G H : Hp} {v : V} {f : List Addr} (h0 : ∀ K cl G, RepF K cl G d (rvV d)) : Rep K cl G H d (rvV d) [] := Rep.of_F (h0 _ _ _)
theorem tryA_inv {hds : List ExceptHandler} {b irs : ISs} (hh : cTryA C sc b hds = some irs) : ∃ x np nm su pos' y d1 d2 k j i, hds = [.ExceptHandler (some (.Name x np)) (some nm) su pos'] ∧ suA nm su = some (y, d1, d2) ∧
    (sc.names.lookup nm = some .local ∧ gloK sc "isinstance" = true ∧ C.B.contains ("isinstance" : Str) = true ∧ (C.self = true → ixS C.N nm ≠ some 0) ∧ notDbg nm = true) ∧ excK C sc x = some k ∧ excK C sc y = some j ∧ ixS C.N nm = some i ∧ irs = one (.tryA b k j i d1 d2) := by
  unfold cTryA at hh
  split at hh
  · rename_i x np nm su pos'
    split at hh
    · rename_i y d1 d2 e
      split at hh
      · rename_i hc
        split at hh
        · rename_i k j i h1 h2 h3
          cases hh
          exact ⟨x, np, nm, su, pos', y, d1, d2, k, j, i, rfl, e, hc, h1, h2, h3, rfl⟩
        · cases hh
      · cases hh
    · cases hh
  · cases hh
theorem ss_tryA {body : List Stmt} {h0 : ExceptHandler} {hds : List ExceptHandler} {pos : Pos} {b : ISs} {irs : ISs} (g : Good C cl xa P n X) (so : ScOk sc X) (st : StOk X W) (hh : cTryA C sc b (h0 :: hds) = some irs)
    (hb : ∀ (W' : WX) (pn : List (Addr × Obj)) (xe : Value → Shared → Prop), StOk (X.tr pn xe) W' → SSs cl xa W' zb zv P fu (X.tr pn xe) body b) : SSt cl xa W zb zv P fu X (.Try body (h0 :: hds) [] [] pos) irs := by
  obtain ⟨x, np, nm, su, pos', y, d1, d2, k, j, i, e, hsu, ⟨c1, c2, c3, c4, c5⟩, hk, hj, hi, rfl⟩ := tryA_inv hh
  cases e
  obtain ⟨k1, k2, k3⟩ := excK_inv hk
  obtain ⟨j1, j2, j3⟩ := excK_inv hj
  obtain ⟨A, a1, a2, _⟩ := g.exc x _ k3
  obtain ⟨B, b1, b2, _⟩ := g.exc y _ j3
  have hN : X.N[i]? = some nm := by rw [g.hN]; exact ixS_at hi
  have hv : Vis X.env.scope nm := so.vis (by unfold visK; rw [c1])
  have hln : X.env.kindOf nm = some .local := by
    obtain ⟨k', e1, e2 | ⟨e2, _⟩⟩ := so.k _ _ c1
    · show X.env.scope.names.lookup nm = some .local
      rw [e1, e2]
    · cases e2
  have cons : ∃ b₀ suite, su = b₀ :: suite ∧ (∀ K cl G, RepF K cl G d1 (rvV d1)) ∧ (∀ K cl G, RepF K cl G d2 (rvV d2)) := by
    rcases suA_inv hsu with ⟨p, p1, p2, q, pos, rfl, rfl, rfl⟩ | ⟨p, p1, p2, q, c, k, q1, d, k', q2, q3, pos, rfl, h1, h2⟩
    · exact ⟨_, _, rfl, fun K cl G => by unfold RepF rvV; rfl, fun K cl G => by unfold RepF rvV; rfl⟩
    · exact ⟨_, _, rfl, rv_ok h1, rv_ok h2⟩
  obtain ⟨b₀, suite, rfl, hd1, hd2⟩ := cons
  refine ss_one ((ps_try_as (i := i) (c := xa k) (ts := suTs (xa := xa) X i j d1 d2) (tb := fun W' => tS X.K cl xa W' zb zv (evalSs P fu b)) st.hs st.hf g.nd hN hln ⟨so.glo k1, (dbg k2).1, .inl (by rw [a2]; exact a1)⟩ st.tk (fun W' pn xe tk po => hb W' pn xe ⟨tk, po, st.hs, st.hf⟩) fun a oe cls d pn hz hf => ?_).weak fun En s H ⟨G, r, f, t, o, zz, h⟩ => ⟨G, r, f, t, o, zz, ?_⟩)
  · refine ⟨fun pins s σ H En I ⟨D, bb, e1, e2, hC, hkit, hσ, hrt⟩ => ?_⟩
    subst e1 e2
    rw [b2] at hkit
    have call : ∀ p p1 p2 q, PE (X.suite a ((a, oe) :: pn)) (.Call (.Name "isinstance" p) [.Name nm p1, .Name y p2] [] q) (fun σ H Q => σ[i]? = some (some (.ref a)) ∧ Q (.bl bb) H) := fun p p1 p2 q =>
      isE_pe hC hz hf hN hv c5 (so.glo c2) (g.blt _ c3) (so.glo j1) j2 b1 hkit
    rcases suA_inv hsu with ⟨p, p1, p2, q, pos, e, rfl, rfl⟩ | ⟨p, p1, p2, q, c, k, q1, d, k', q2, q3, pos, e, h1, h2⟩
    · cases e
      refine (pss_one (ps_ret (call p p1 p2 q))).run pins s σ H En I ⟨hσ, ?_⟩
      cases bb <;> exact hrt
    · cases e
      have cc : ∀ {c : Const} {m : Nat} {q : Pos} {d : GF.D}, cConst c = some (.c d) → PE (X.suite a ((a, oe) :: pn)) (.Constant c m q) (tC (rvV d)) := fun {c m q d} h => by
        unfold cConst at h
        split at h <;> cases h
        · exact pe_non
        · exact pe_bl
        · exact pe_int
        · exact pe_str
      refine (pss_one (ps_ret (pe_ifExp (pt_val (call p p1 p2 q)) (cc h1) (cc h2)))).run pins s σ H En I ⟨hσ, bb, rfl, ?_⟩
      cases bb <;> exact hrt
  · unfold evalS at h
    cases hx : evalSs P fu b r with
    | nx r1 => simp only [hx] at h; exact h
    | bk r1 => simp only [hx] at h; exact h
    | ct r1 => simp only [hx] at h; exact h
    | rt d => simp only [hx] at h; exact h
    | stuck => simp only [hx] at h; exact h
    | er m r1 =>
      simp only [hx] at h
      by_cases hia' : (P.ia && decide (i < r1.length)) = true
      · rw [if_pos hia'] at h
        obtain ⟨hia, hlr⟩ := Bool.and_eq_true _ _ ▸ hia'
        have hlr := of_decide_eq_true hlr
        intro s1 G1 H1 f1 o1 e1 z1
        refine ⟨P.sub m k, g.sub m k ⟨x, k3⟩, fun hs a na => ?_, fun hs => ?_⟩
        · rw [if_pos hs] at h
          obtain ⟨D, hD, hC⟩ := g.exi hia m
          have hlen : i < s1.length := by rw [← o1.sl.len]; exact hlr
          refine ⟨D, P.sub m j, hD, rfl, hC, g.kit hia m j ⟨y, j3⟩, by simp [hlen], ?_⟩
          have rr : Rep X.K cl G1 H1 (if P.sub m j then d1 else d2) (rvV (if P.sub m j then d1 else d2)) [] := by
            cases P.sub m j
            · exact Rep.of_F (hd2 _ _ _)
            · exact Rep.of_F (hd1 _ _ _)
          exact h _ [] G1 H1 rr (by simp) o1.gh (e1.sub (by simp))
        · rw [if_neg (by rw [hs]; exact Bool.false_ne_true)] at h
          exact h s1 G1 H1 f1 o1 e1 z1
      · rw [if_neg hia'] at h
        exact h.elim
end

/-! ### every statement -/
theorem ss_setDC {k : Bool} {y : Str} {py : Pos} {kx elt : Expr} {gens : List Comprehension} {scope : Scope} {pos spos : Pos} {tg : Tg} {ir : IE} {rec : Scope → Bool → Expr → Option IE} (g : Good C cl xa P n X) (so : ScOk sc X) (hse : SE cl xa W P X (.DictComp kx elt gens scope pos) ir)
    (hf : ∀ md e ir, rec sc md e = some ir → SE cl xa W P X e ir) (hb : ∀ scope X' md e ir, Good C cl xa P n X' → ScOk scope X' → Takes X' W0 → rec scope md e = some ir → SE cl xa W0 P X' e ir)
    (h : cDC C rec sc kx elt gens scope = some ir) (h00 : (zb && (tgS tg).contains 0) = false) (ht : cT C sc (.Name y py) = some tg) : SSt cl xa W zb zv P fu X (.Assign [.Name y py] (.DictComp kx elt gens scope pos) spos) (one (.asg k tg ir)) := by
  have ht0 := ht
  unfold cT at ht
  split at ht
  case isFalse => cases ht
  rename_i hl
  rw [Option.map_eq_some_iff] at ht
  obtain ⟨i, hi, rfl⟩ := ht
  have hN : X.N[i]? = some y := by rw [g.hN]; exact ixS_at hi
  have loc := so.loc hl
  obtain ⟨own, tg', iter, ifs, t, ii, c, kk, x, rfl, rfl, l⟩ := dc_ok g so hf hb h
  obtain ⟨b, hb1, hb2⟩ := sw_pureD (y := y) (py := py) (kx := kx) (elt := elt) (gs := [⟨tg', iter, ifs, 0⟩]) (scope := scope) (pos := pos) (l := spos.line) (env := X.env)
  cases b with
  | false =>
    refine ss_one ((ps_set g.nd hN loc.1 (pe_pin hse.pe) hb1 loc.2).weak fun En s H h => ?_)
    have := asg_key h00 h
    unfold gT at this
    exact this
  | true =>
    refine ss_one ((ps_setDc g.calm g.nd hN (hb2 rfl) hb1 l.pi l.ok l.pg l.pt l.pk l.pe l.fs).weak fun En s H h => ?_)
    have := asg_key h00 h
    unfold gT at this
    exact l.key this
theorem cE1_DC {C : CC} {rec : Scope → Bool → Expr → Option IE} {sc : Scope} {md : Bool} {kx vx : Expr} {gens : List Comprehension} {scope : Scope} {p : Pos} : cE1 C rec sc md (.DictComp kx vx gens scope p) = (match gens with
    | [_, _] => cDC2 C rec sc kx vx gens scope
    | _ => cDC C rec sc kx vx gens scope) := by unfold cE1; rfl
theorem ss_setDC2 {k : Bool} {y : Str} {py : Pos} {kx elt : Expr} {gens : List Comprehension} {scope : Scope} {pos spos : Pos} {tg : Tg} {ir : IE} {rec : Scope → Bool → Expr → Option IE} (g : Good C cl xa P n X) (so : ScOk sc X) (hse : SE cl xa W P X (.DictComp kx elt gens scope pos) ir)
    (hf : ∀ md e ir, rec sc md e = some ir → SE cl xa W P X e ir) (hb : ∀ scope X' md e ir, Good C cl xa P n X' → ScOk scope X' → Takes X' W0 → rec scope md e = some ir → SE cl xa W0 P X' e ir)
    (h : cDC2 C rec sc kx elt gens scope = some ir) (h00 : (zb && (tgS tg).contains 0) = false) (ht : cT C sc (.Name y py) = some tg) : SSt cl xa W zb zv P fu X (.Assign [.Name y py] (.DictComp kx elt gens scope pos) spos) (one (.asg k tg ir)) := by
  have ht0 := ht
  unfold cT at ht
  split at ht
  case isFalse => cases ht
  rename_i hl
  rw [Option.map_eq_some_iff] at ht
  obtain ⟨i, hi, rfl⟩ := ht
  have hN : X.N[i]? = some y := by rw [g.hN]; exact ixS_at hi
  have loc := so.loc hl
  obtain ⟨own, vs1, tg', iter, tg1, iter1, t, ii, t1, ii1, kk, x, rfl, rfl, l⟩ := dc2_ok g so hf hb h
  obtain ⟨b, hb1, hb2⟩ := sw_pureD (y := y) (py := py) (kx := kx) (elt := elt) (gs := [⟨tg', iter, [], 0⟩, ⟨tg1, iter1, [], 0⟩]) (scope := scope) (pos := pos) (l := spos.line) (env := X.env)
  cases b with
  | false =>
    refine ss_one ((ps_set g.nd hN loc.1 (pe_pin hse.pe) hb1 loc.2).weak fun En s H h => ?_)
    have := asg_key h00 h
    unfold gT at this
    exact this
  | true =>
    refine ss_one ((ps_setDc2 g.calm g.nd hN (hb2 rfl) hb1 l.pi l.ok l.sub l.pg l.pt l.pi1 l.pg1 l.pt l.pk l.pe l.fs l.fs1).weak fun En s H h => ?_)
    have := asg_key h00 h
    unfold gT at this
    exact l.key this
theorem ss_setLC {k : Bool} {y : Str} {py : Pos} {elt : Expr} {gens : List Comprehension} {scope : Scope} {pos spos : Pos} {tg : Tg} {ir : IE} {rec : Scope → Bool → Expr → Option IE} (g : Good C cl xa P n X) (so : ScOk sc X) (hse : SE cl xa W P X (.ListComp elt gens scope pos) ir)
    (hf : ∀ md e ir, rec sc md e = some ir → SE cl xa W P X e ir) (hb : ∀ scope X' md e ir, Good C cl xa P n X' → ScOk scope X' → Takes X' W0 → rec scope md e = some ir → SE cl xa W0 P X' e ir)
    (h : cLC C rec sc elt gens scope = some ir) (h00 : (zb && (tgS tg).contains 0) = false) (ht : cT C sc (.Name y py) = some tg) : SSt cl xa W zb zv P fu X (.Assign [.Name y py] (.ListComp elt gens scope pos) spos) (one (.asg k tg ir)) := by
  have ht0 := ht
  unfold cT at ht
  split at ht
  case isFalse => cases ht
  rename_i hl
  rw [Option.map_eq_some_iff] at ht
  obtain ⟨i, hi, rfl⟩ := ht
  have hN : X.N[i]? = some y := by rw [g.hN]; exact ixS_at hi
  have loc := so.loc hl
  obtain ⟨own, tg', iter, ifs, t, ii, c, x, rfl, rfl, l⟩ := lc_ok g so hf hb h
  obtain ⟨b, hb1, hb2⟩ := sw_pure (y := y) (py := py) (elt := elt) (gs := [⟨tg', iter, ifs, 0⟩]) (scope := scope) (pos := pos) (l := spos.line) (env := X.env)
  cases b with
  | false =>
    refine ss_one ((ps_set g.nd hN loc.1 hse.pe hb1 loc.2).weak fun En s H h => ?_)
    have := asg_keyL lc_od h00 h
    unfold gT at this
    exact this
  | true =>
    refine ss_one ((ps_setLc g.calm g.nd hN (hb2 rfl) hb1 l.pi l.ok l.pg l.pt l.pe l.fs).weak fun En s H h => ?_)
    have := asg_keyL lc_od h00 h
    unfold gT at this
    exact l.key this
theorem sndS1 {m : Nat} {rec : Stmt → Option ISs} (g : Good C cl xa P n X) (so : ScOk sc X) (st : StOk X W)
    (hr : ∀ (X' : Cx) (W' : WX) s irs, Good C cl xa P n X' → ScOk sc X' → StOk X' W' → rec s = some irs → SSt cl xa W' C.self zv P fu X' s irs) {s : Stmt} {irs : ISs}
    (h : cS1 C (cE C m sc) (cI C (cE C m) sc) sc rec s = some irs) : SSt cl xa W C.self zv P fu X s irs := by
  have hf : ∀ md e ir, cE C m sc md e = some ir → SE cl xa W P X e ir := fun md e ir h => sndE m g so st.tk h
  have hb : ∀ sts irs, cB rec sts = some irs → SSs cl xa W C.self zv P fu X sts irs := fun sts irs h => ss_block (fun s irs h => hr X W s irs g so st h) sts irs h
  have var : ∀ {x : Str} {i : Nat}, (if (visK sc x && notDbg x) = true then ixS C.N x else none) = some i → X.N[i]? = some x ∧ Vis X.env.scope x ∧ notDbg x = true := by
    intro x i h
    split at h
    · rename_i hc
      simp only [Bool.and_eq_true] at hc
      exact ⟨by rw [g.hN]; exact ixS_at h, so.vis hc.1, hc.2⟩
    · cases h
  unfold cS1 at h
  split at h
  · split at h
    · rename_i h1 h2 h3
      cases h
      obtain ⟨v1, v2, v3⟩ := var h1
      exact ss_setf g v1 v2 v3 h2 (hf _ _ _ h3)
    · cases h
  · split at h
    · cases h
    · rename_i hn
      split at h
      · rename_i h1 h2 h3
        cases h
        obtain ⟨v1, v2, v3⟩ := var h1
        simp only [Bool.or_eq_true, not_or, Bool.not_eq_true] at hn
        refine ss_put g.hu v1 v2 v3 (hf _ _ _ h2).pe (hf _ _ _ h3).pe hn.1 hn.2 (fun a b c d e' => ?_)
        · subst e'
          cases m <;> simp only [cE, cE1, cE0, unOf, rgOf, reduceCtorEq] at h3
      · cases h
  · rename_i tg e pos _ _
    split at h
    · split at h
      · rename_i y hp2
        cases h
        unfold cPut2 at hp2
        split at hp2
        · split at hp2
          · cases hp2
          rename_i hs
          simp only [Bool.or_eq_true, not_or, Bool.not_eq_true] at hs
          split at hp2
          · rename_i h1 h2 h3 h4 h5
            cases hp2
            obtain ⟨v1, v2, v3⟩ := var h1
            obtain ⟨w1, w2, w3⟩ := var h2
            exact ss_put2 g.calm g.hu v1 w1 v2 w2 v3 w3 (hf _ _ _ h3).pe (hf _ _ _ h4).pe (hf _ _ _ h5).pe hs.1 hs.2
          · cases hp2
        · cases hp2
      unfold cPar at h
      split at h
      · split at h
        · rename_i h1 h2 h3
          split at h
          · rename_i hc
            cases h
            obtain ⟨c1, c2, c3, c4, c5, c6, c7, c8⟩ := hc
            have lk : ∀ {z : Str}, sc.names.lookup z = some .local → X.env.scope.names.lookup z = some .local := fun {z} hz => by
              obtain ⟨k', e1, e2 | ⟨e2, _⟩⟩ := so.k _ _ hz
              · rw [e1, e2]
              · cases e2
            exact ss_par g so (fun e ir h => hf false e ir h) h3 (by rw [g.hN]; exact ixS_at h1) (by rw [g.hN]; exact ixS_at h2) c5 (lk c1) (lk c2) c3 c4 c6 c7 c8
          · cases h
        · cases h
      · cases h
    · rename_i hn
      split at h
      · rename_i t y h1 h2
        split at h
        · cases h
        rename_i h0
        have h0 : (C.self && (tgS t).contains 0) = false := by simpa using h0
        cases h
        have gen : (isLC e = false ∨ ∃ l, t = .t l) → SSt cl xa W C.self zv P fu X (.Assign [tg] e pos) (one (.asg (keepT C t) t y)) := fun hh => by
          refine ss_asg (hf _ _ _ h2).pe (pg_cT g.calm g.nd g.hN so tg t h1) h1 hn hh h0 (fun a b c d e' => ?_)
          · subst e'
            cases m <;> simp only [cE, cE1, cE0, unOf, rgOf, reduceCtorEq] at h2
        cases hl : isLC e with
        | false => exact gen (.inl hl)
        | true =>
          cases t with
          | t l => exact gen (.inr ⟨l, rfl⟩)
          | n i =>
            have tgn : (∃ y py, tg = .Name y py) := by
              cases tg <;> first | (unfold cT at h1; cases h1; done) | exact ⟨_, _, rfl⟩ | skip
              unfold cT at h1
              rw [Option.map_eq_some_iff] at h1
              obtain ⟨_, _, h1⟩ := h1
              cases h1
            obtain ⟨y, py, rfl⟩ := tgn
            cases e <;> simp only [isLC, Bool.false_eq_true] at hl
            · cases m with
              | zero => cases h2
              | succ m =>
                have h3 := h2
                unfold cE cE1 at h3
                exact ss_setLC g so (hf _ _ _ h2) (fun md e ir h => sndE m g so st.tk h) (fun scope X' md e ir g' so' tk' h => sndE m g' so' tk' h) h3 h0 h1
            · cases m with
              | zero => cases h2
              | succ m =>
                have h3 := h2
                unfold cE at h3
                rw [cE1_DC] at h3
                split at h3
                · exact ss_setDC2 g so (hf _ _ _ h2) (fun md e ir h => sndE m g so st.tk h) (fun scope X' md e ir g' so' tk' h => sndE m g' so' tk' h) h3 h0 h1
                · exact ss_setDC g so (hf _ _ _ h2) (fun md e ir h => sndE m g so st.tk h) (fun scope X' md e ir g' so' tk' h => sndE m g' so' tk' h) h3 h0 h1
      · cases h
  · split at h
    · rename_i hc
      simp only [Bool.and_eq_true, decide_eq_true_eq] at hc
      obtain ⟨rfl, hline⟩ := hc
      split at h
      · rename_i i e h1
        rw [Option.map_eq_some_iff] at h
        obtain ⟨y, h2, rfl⟩ := h
        obtain ⟨v1, v2, v3⟩ := var h1
        exact ss_app v1 v2 v3 (hf _ _ _ h2) hline
      · cases h
    · cases h
  · rename_i e pos _
    split at h
    · cases h
    · rename_i hn
      rw [Option.map_eq_some_iff] at h
      obtain ⟨y, h2, rfl⟩ := h
      refine ss_ex (hf _ _ _ h2).pe ?_
      cases e <;> first | rfl | exact absurd rfl hn | (cases m <;> simp only [cE, cE1, cE0, unOf, rgOf, reduceCtorEq] at h2)
  · split at h
    · rename_i h1 h2 h3
      cases h
      exact ss_if (hf _ _ _ h1).pt (hb _ _ h2) (hb _ _ h3)
    · cases h
  · split at h
    · rename_i h1 h2 h3
      split at h
      · rename_i hok0
        simp only [Bool.and_eq_true, Bool.not_eq_true'] at hok0
        obtain ⟨hok, h0⟩ := hok0
        cases h
        obtain ⟨pi, fs⟩ := si_cI_any g so hf h2 (fun l hl => cT_t (hl ▸ h1)) hok
        exact ss_for g st.po pi fs (pg_cT g.calm g.nd g.hN so _ _ h1) h0 (hb _ _ h3)
      · cases h
    · cases h
  · split at h
    · rename_i h1 h2
      cases h
      exact ss_whl st.po (hf _ _ _ h1).pt (hb _ _ h2)
    · cases h
  · cases h; exact ss_retN
  · rw [Option.map_eq_some_iff] at h
    obtain ⟨y, h2, rfl⟩ := h
    unfold cRet at h2
    split at h2
    · split at h2
      · rename_i hc
        simp only [Bool.and_eq_true] at hc
        rw [Option.map_eq_some_iff] at h2
        obtain ⟨i, hi, rfl⟩ := h2
        exact ss_ret ((pe_var (by rw [g.hN]; exact ixS_at hi) (so.vis hc.1) (dbg hc.2).1 (dbg hc.2).2).weak fun s H Q h => tE_mv h)
      · exact ss_ret (hf _ _ _ h2).pe
    · exact ss_ret (hf _ _ _ h2).pe
  · rw [Option.map_eq_some_iff] at h
    obtain ⟨k, h2, rfl⟩ := h
    exact ss_raise g so st.tk h2
  · split at h
    · rename_i b h1
      have body : ∀ (W' : WX) (pn : List (Addr × Obj)) (xe : Value → Shared → Prop), StOk (X.tr pn xe) W' → SSs cl xa W' C.self zv P fu (X.tr pn xe) _ b := fun W' pn xe st' => ss_block (fun s irs h => hr _ W' s irs g.tr so.tr st' h) _ _ h1
      split at h
      · rename_i y hT
        cases h
        exact ss_tryA g so st hT body
      · split at h
        · rename_i h2
          cases h
          exact ss_try g so st h2 body
        · cases h
    · cases h
  · cases h; exact ss_pass
  · cases h; exact ss_brk
  · cases h; exact ss_cnt
  · cases h
theorem sndS (m : Nat) : ∀ (k : Nat) {X : Cx} {W : WX} {s : Stmt} {irs : ISs}, Good C cl xa P n X → ScOk sc X → StOk X W → cS C m sc k s = some irs → SSt cl xa W C.self zv P fu X s irs
  | 0, _, _, _, _, _, _, _, h => by cases h
  | k + 1, X, W, s, irs, g, so, st, h => by
    unfold cS at h
    rw [Option.map_eq_some_iff] at h
    obtain ⟨a, h, rfl⟩ := h
    exact ss_frzs _ (sndS1 g so st (fun X' W' s irs g so st h => sndS m k g so st h) h)
theorem sndB {sts : List Stmt} {irs : ISs} (g : Good C cl xa P n X) (so : ScOk sc X) (st : StOk X W) (h : cBody C sc sts = some irs) : SSs cl xa W C.self zv P fu X sts irs :=
  ss_block (fun s irs h => sndS 30 12 g so st h) sts irs h
end
end GF
namespace GF
open PySem L2 PySem.Spec PyProof.Rows

/-! ## defs and programs -/
section
variable {K : PySem.W.Frag} {cl : Cl} {G H : Hp}
theorem slots_none : ∀ m : Nat, Slots K cl G H (List.replicate m none) (List.replicate m none) []
  | 0 => by unfold Slots; rfl
  | m + 1 => by rw [List.replicate_succ]; unfold Slots; exact slots_none m
theorem slots_start {m : Nat} : ∀ {ds : List D} {vs : List V}, RepFs K cl G ds vs → Slots K cl G H (ds.map some ++ List.replicate m none) (vs.map some ++ List.replicate m none) []
  | [], vs, h => by unfold RepFs at h; subst h; exact slots_none m
  | d :: ds, vs, h => by
    unfold RepFs at h
    obtain ⟨v, r, rfl, h1, h2⟩ := h
    rw [List.map_cons, List.map_cons, List.cons_append, List.cons_append]
    unfold Slots
    exact ⟨v, [], [], rfl, Rep.of_F h1, slots_start h2, rfl⟩
end
/-- a def of the text and its form in the language -/
structure FnD (T : CC) (K : PySem.W.Frag) (fi : FnI) (sb : Bool) (fa : Addr) : Prop where
  ex : ∃ (x qual : Str) (st : Stmt) (fd : FuncData) (N ps mu : List Str) (fz : List (Nat × Nat)), Fun K x qual st fa fd ∧ Binds K fd ps [] ∧ FnScope N ps (defScope st) ∧ fi.params = ps.length ∧ fi.slots = N.length ∧
    (cBody { T with N := N, self := sb, mu := mu, fz := fz } (defScope st) (defBody st) = some fi.body ∨ fi.body = .cons .brk .nil)
/-- the module behind its top -/
structure Mo (T : CC) (cl : Cl) (xa : Nat → Value) (p : Prg) (K : PySem.W.Frag) (mg : Str → Option Value) : Prop where
  con : ∀ x d, T.T.lookup x = some (.con d) → ∃ u v, mg x = some u ∧ RelV v u ∧ ∀ G, RepF K cl G d v
  fn : ∀ x f, T.T.lookup x = some (.fn f) → ∃ fa fi, mg x = some (.ref fa) ∧ p.fns[f]? = some fi ∧ FnD T K fi false fa
  cls : ∀ x k, T.T.lookup x = some (.cls k) → ∃ A fa ci, mg x = some (.ref A) ∧ cl.ad k = some A ∧ Mk K A fa ∧ p.cls.lookup k = some ci ∧ FnD T K ci.init true fa
  exc : ∀ x k, T.T.lookup x = some (.exc k) → ∃ A, mg x = some (.ref A) ∧ xa k = .ref A ∧ PySem.W.keepIn K (.ref A) = true ∧ PySem.W.subIn K (.ref A) (.type "BaseException") = some true ∧ PySem.W.typeIn K (.ref A) = some (.type "type") ∧
    PySem.W.excIn K A [.type "ValueError", .type "Exception", .type "BaseException", .type "object"] "ValueError.__new__" = true
  sub : ∀ j k, (∃ x, T.T.lookup x = some (.exc k)) → PySem.W.exmOne K (xa j) (xa k) = some (p.sub j k)
  exi : p.ia = true → ∀ k, ∃ A, xa k = .ref A ∧ L2.ExcC K A
  kit : p.ia = true → ∀ j k, (∃ x, T.T.lookup x = some (.exc k)) → PySem.W.kitOne K (xa j) (xa k) = some (p.sub j k)
  blt : ∀ x, T.B.contains x = true → mg x = none
  fld : ∀ f i, T.F.lookup f = some i → cl.fn i = f ∧ ∀ j, cl.fn j = f → j = i
  att : ∀ k A i, cl.ad k = some A → cl.hf k i = true → Cls K A ∧ NoAttr K A (cl.fn i)
  hfs : ∀ k i, p.fl k i = true → cl.hf k i = true
  mth : ∀ m j k f A, T.M.lookup m = some j → ((p.cls.lookup k).bind fun ci => ci.meths.lookup j) = some f → cl.ad k = some A → ∃ fa fi, Cls K A ∧ Meth K A m fa ∧ p.fns[f]? = some fi ∧ FnD T K fi false fa ∧ ∀ i, cl.hf k i = true → cl.fn i ≠ m
section
variable {T : CC} {cl : Cl} {xa : Nat → Value} {p : Prg} {K : PySem.W.Frag} {mg : Str → Option Value} {P : Program} {w : World} {base : Heap}
/-- the promise of a def, all calls within it one level down -/
abbrev AllGood (T : CC) (cl : Cl) (xa : Nat → Value) (φ : Phi) (n : Nat) (K : PySem.W.Frag) (mg : Str → Option Value) : Prop :=
  ∀ (X : Cx) (b : Bool) (mu : List Str) (fz : List (Nat × Nat)), X.K = K → X.mg = mg → X.calm = true → X.N.Nodup → Room (n + 5) X.A → Good { T with N := X.N, self := b, mu := mu, fz := fz } cl xa φ n X
theorem ext_new {d : D} {v : V} {fv : List Addr} {G G' H H' : Hp} (h1 : Rep K cl G' H' d v fv) (h2 : ∀ a ∈ fv, G' a = none) (h3 : Same G' H') (e : Ext [] G H fv G' H') : New K cl G H d v fv G' H' where
  rep := h1
  fre := fun a ha => ⟨h2 a ha, by
    rcases e.fn a ha with z | z
    · cases z
    · exact z⟩
  gh := h3
  gs := e.gs
  hs := fun b o hb => (e.keep b (by rw [hb]; simp) (by simp)).trans hb
  gn := fun a g1 g2 => by
    rcases e.gn a g1 g2 with z | z
    · cases z
    · exact z
theorem scOk_of {N ps : List Str} {X : Cx} {sc : Scope} (S : FnScope N ps sc) (he : X.env.scope = sc) (hf : X.fn = fun _ => true) : ScOk sc X where
  k := fun x k h => ⟨k, by rw [he]; exact h, .inl rfl⟩
  f := fun x _ => by rw [hf]
  fk := by rw [he]; exact S.kind
theorem fn_def {φ : Phi} {n fu : Nat} {fi : FnI} {fa : Addr} (g : AllGood T cl xa φ n K mg) (d : FnD T K fi false fa) :
    PySem.W.keepIn K (.ref fa) = true ∧ ∃ fd ps, Binds K fd ps [] ∧ FnOk P w K mg base (L2.CX P w) (n + 6) fa fd ps (spF K cl xa fun ds => if ds.length = fi.params then runF φ fu fi.slots fi.body ds else .stuck) := by
  obtain ⟨x, qual, st, fd, N, ps, mu, fz, F, hb, S, e1, e2, hc⟩ := d.ex
  refine ⟨F.kp, fd, ps, hb, F.okX (k := n + 5) S (fun vs H Q E h => ?_) fun cdv A outer s H vs Q E hr h => ?_⟩
  · obtain ⟨G, ds, _, rs, h⟩ := h
    by_cases hl : ds.length = fi.params
    · rw [← rs.len, hl, e1]
    · simp only [if_neg hl] at h
  · obtain ⟨G, ds, gh, rs, h⟩ := h
    rcases hc with hc | hc
    case inr =>
      exfalso
      by_cases hl : ds.length = fi.params
      · simp only [if_pos hl, runF, hc, evalSs, evalS] at h
      · simp only [if_neg hl] at h
    have hX := g (cxOf (L2.CX P w) P w K mg base N qual (defScope st) fa cdv A outer s H E) false mu fz rfl rfl rfl S.nd hr
    have st' : StOk (cxOf (L2.CX P w) P w K mg base N qual (defScope st) fa cdv A outer s H E) (fun cls d _ H => E cls d H) := ⟨takes_of rfl rfl rfl rfl, passes_of rfl, rfl, rfl⟩
    refine ⟨_, sndB (fu := fu) (zv := .non) hX (scOk_of S rfl rfl) st' hc, G, ds.map some ++ List.replicate (fi.slots - ds.length) none, [], [], ⟨?_, by simp, by simp, gh, by simp⟩, fun hz => (by cases hz), ?_⟩
    · show Slots K cl G H _ (start N vs) []
      unfold L2.start
      rw [e2, rs.len]
      exact slots_start rs
    · by_cases hl : ds.length = fi.params
      · simp only [if_pos hl] at h
        unfold runF at h
        cases hx : evalSs φ fu fi.body (ds.map some ++ List.replicate (fi.slots - ds.length) none) with
        | nx r =>
          rw [hx] at h
          exact fun s' G' H' f' o e _ => h .non [] G' H' (ext_new (New.non o.gh).rep (by simp) o.gh (e.sub (by simp)))
        | rt z =>
          rw [hx] at h
          exact fun v fv G' H' a b c e => h v fv G' H' (ext_new a b c e)
        | er k r =>
          rw [hx] at h
          intro s' G' H' f' o e _
          have nw := ext_new (New.non (K := K) (cl := cl) o.gh).rep (by simp) o.gh (e.sub (by simp))
          exact h G' H' ⟨nw.gh, nw.gs, nw.hs, nw.gn⟩
        | bk r => rw [hx] at h; exact h.elim
        | ct r => rw [hx] at h; exact h.elim
        | stuck => rw [hx] at h; exact h.elim
      · simp only [if_neg hl] at h
theorem init_def {φ : Phi} {n fu k : Nat} {fi : FnI} {fa A0 : Addr} (g : AllGood T cl xa φ n K mg) (d : FnD T K fi true fa) (hA : cl.ad k = some A0) :
    PySem.W.keepIn K (.ref fa) = true ∧ ∃ fd ps, Binds K fd ps [] ∧ FnOk P w K mg base (L2.CX P w) (n + 6) fa fd ps (spI K cl xa A0 fun ds => if ds.length + 1 = fi.params then runI φ fu k fi.slots fi.body ds else .stuck) := by
  obtain ⟨x, qual, st, fd, N, ps, mu, fz, F, hb, S, e1, e2, hc⟩ := d.ex
  refine ⟨F.kp, fd, ps, hb, F.okX (k := n + 5) S (fun vs H Q E h => ?_) fun cdv A outer s H vs Q E hr h => ?_⟩
  · obtain ⟨x, dx, us, G, ds, rfl, _, _, _, rs, h⟩ := h
    by_cases hl : ds.length + 1 = fi.params
    · rw [List.length_cons, ← rs.len, hl, e1]
    · simp only [if_neg hl] at h
  · obtain ⟨x, dx, us, G, ds, rfl, hx0, hgx, gh, rs, h⟩ := h
    rcases hc with hc | hc
    case inr =>
      exfalso
      by_cases hl : ds.length + 1 = fi.params
      · simp only [if_pos hl, runI, hc, evalSs, evalS] at h
      · simp only [if_neg hl] at h
    have hX := g (cxOf (L2.CX P w) P w K mg base N qual (defScope st) fa cdv A outer s H E) true mu fz rfl rfl rfl S.nd hr
    have st' : StOk (cxOf (L2.CX P w) P w K mg base N qual (defScope st) fa cdv A outer s H E) (fun cls d _ H => E cls d H) := ⟨takes_of rfl rfl rfl rfl, passes_of rfl, rfl, rfl⟩
    refine ⟨_, sndB (fu := fu) (zv := .ref x) hX (scOk_of S rfl rfl) st' hc, G, some (.ins true k [] []) :: (ds.map some ++ List.replicate (fi.slots - 1 - ds.length) none), [x], [], ⟨?_, by simp, ?_, gh, by simp⟩, fun _ => rfl, ?_⟩
    · show Slots K cl G H _ (start N (.ref x :: us)) [x]
      unfold L2.start
      rw [List.map_cons, List.cons_append]
      unfold Slots
      refine ⟨.ref x, [x], [], rfl, ⟨x, A0, dx, [], rfl, hA, by simpa using hx0, ⟨rfl, rfl⟩, RepFs.nil, rfl⟩, ?_, rfl⟩
      rw [List.length_cons, ← rs.len, e2, show N.length - (ds.length + 1) = N.length - 1 - ds.length by omega]
      exact slots_start rs
    · intro a ha
      simp at ha; subst ha; exact hgx
    · by_cases hl : ds.length + 1 = fi.params
      · simp only [if_pos hl] at h
        unfold runI at h
        cases hx : evalSs φ fu fi.body (some (.ins true k [] []) :: (ds.map some ++ List.replicate (fi.slots - 1 - ds.length) none)) with
        | nx r =>
          rw [hx] at h
          intro s' G' H' f' o e zz
          cases hg : getS r 0 with
          | none => simp only [hg] at h
          | some z =>
            cases z with
            | ins b k' ns vs' =>
              cases b with
              | false => simp only [hg] at h
              | true =>
                simp only [hg] at h
                · skip
                  obtain ⟨v, f1, fa', fb, h1, h2, h3, _⟩ := o.sl.at hg
                  have hv := zz rfl
                  rw [h1] at hv
                  injection hv with hv; injection hv with hv
                  subst hv
                  have h2' := h2
                  obtain ⟨a, A', dx', ws, ea, _, _, _, _, rfl⟩ := h2'
                  cases ea
                  refine h G' H' h2 (o.fr x (by rw [h3]; simp)) o.gh e.gs (fun a ha hne => e.keep a ha (by simp; exact hne)) (fun a g1 g2 => ?_)
                  rcases e.gn a g1 g2 with z | z
                  · simp at z; subst z
                    exact absurd (o.fr a (by rw [h3]; simp)) g1
                  · exact z
            | _ => simp only [hg] at h
        | er k' r =>
          rw [hx] at h
          intro s' G' H' f' o e _
          refine h G' H' o.gh e.gs (fun a ha hne => e.keep a ha (by simp; exact hne)) fun a g1 g2 => ?_
          rcases e.gn a g1 g2 with z | z
          · simp at z; exact .inr z
          · exact .inl z
        | rt z => rw [hx] at h; exact h.elim
        | bk r => rw [hx] at h; exact h.elim
        | ct r => rw [hx] at h; exact h.elim
        | stuck => rw [hx] at h; exact h.elim
      · simp only [if_neg hl] at h
theorem fn_none {f : Addr} {fd : FuncData} {ps : List Str} {k : Nat} {sp : Sp} (h : ∀ vs H Q E, ¬ sp vs H Q E) : FnOk P w K mg base (L2.CX P w) k f fd ps sp :=
  ⟨fun vs H Q E q => absurd q (h vs H Q E), fun A outer s H args us vs Q E _ _ _ _ q => absurd q (h vs H Q E)⟩
/-- the whole module, by the depth of its calls -/
theorem Mo.all (m : Mo T cl xa p K mg) : ∀ n : Nat, AllGood T cl xa (p.phi n) (6 * n) K mg
  | 0, X, b, mu, fz, e1, e2, hc, hN, hr => by
    subst e1 e2
    exact {
      calm := hc
      nd := hN
      hN := rfl
      room := hr
      con := m.con
      fn := fun x f h => by
        obtain ⟨fa, fi, h1, h2, d⟩ := m.fn x f h
        obtain ⟨x', qual, st, fd, N, ps, mu, fz, F, hb, S, _⟩ := d.ex
        exact ⟨fa, h1, F.kp, fd, ps, hb, fn_none fun vs H Q E ⟨_, _, _, _, z⟩ => z⟩
      cls := fun x k h => by
        obtain ⟨A, fa, ci, h1, h2, h3, h4, d⟩ := m.cls x k h
        obtain ⟨x', qual, st, fd, N, ps, mu, fz, F, hb, S, _⟩ := d.ex
        exact ⟨A, fa, h1, h2, h3, F.kp, fd, ps, hb, fn_none fun vs H Q E ⟨_, _, _, _, _, _, _, _, _, _, z⟩ => z⟩
      exc := fun x k h => by
        obtain ⟨A, h1, h2, h3, h4, h5, h6⟩ := m.exc x k h
        exact ⟨A, h1, h2, h3, raises_own h4 h5, h6⟩
      sub := m.sub
      exi := m.exi
      kit := m.kit
      blt := m.blt
      fld := m.fld
      att := m.att
      hfs := m.hfs
      mth := fun mm j k f A h1 h2 h3 => by
        obtain ⟨fa, fi, k1, k2, k3, d, k4⟩ := m.mth mm j k f A h1 h2 h3
        obtain ⟨x', qual, st, fd, N, ps, mu, fz, F, hb, S, _⟩ := d.ex
        exact ⟨fa, k1, k2, ⟨F.kp, fd, ps, hb, fn_none fun vs H Q E ⟨_, _, _, _, z⟩ => z⟩, k4⟩ }
  | n + 1, X, b, mu, fz, e1, e2, hc, hN, hr => by
    have ih := m.all n
    subst e1 e2
    have fnEq : ∀ f fi, p.fns[f]? = some fi → (p.phi (n + 1)).fn f = fun ds => if ds.length = fi.params then runF (p.phi n) p.fuel fi.slots fi.body ds else .stuck := fun f fi h => by
      funext ds
      show (match p.fns[f]? with | some fi => _ | none => _) = _
      rw [h]
    exact {
      calm := hc
      nd := hN
      hN := rfl
      room := hr
      con := m.con
      fn := fun x f h => by
        obtain ⟨fa, fi, h1, h2, d⟩ := m.fn x f h
        rw [fnEq f fi h2]
        obtain ⟨k1, k2⟩ := fn_def (P := X.prog) (w := X.w) (base := X.base) (fu := p.fuel) ih d
        exact ⟨fa, h1, k1, k2⟩
      cls := fun x k h => by
        obtain ⟨A, fa, ci, h1, h2, h3, h4, d⟩ := m.cls x k h
        have e : (p.phi (n + 1)).mkI k = fun ds => if ds.length + 1 = ci.init.params then runI (p.phi n) p.fuel k ci.init.slots ci.init.body ds else .stuck := by
          funext ds
          show (match p.cls.lookup k with | some ci => _ | none => _) = _
          rw [h4]
        rw [e]
        obtain ⟨k1, k2⟩ := init_def (P := X.prog) (w := X.w) (base := X.base) (fu := p.fuel) ih d h2
        exact ⟨A, fa, h1, h2, h3, k1, k2⟩
      exc := fun x k h => by
        obtain ⟨A, h1, h2, h3, h4, h5, h6⟩ := m.exc x k h
        exact ⟨A, h1, h2, h3, raises_own h4 h5, h6⟩
      sub := m.sub
      exi := m.exi
      kit := m.kit
      blt := m.blt
      fld := m.fld
      att := m.att
      hfs := m.hfs
      mth := fun mm j k f A h1 h2 h3 => by
        obtain ⟨fa, fi, k1, k2, k3, d, k4⟩ := m.mth mm j k f A h1 h2 h3
        rw [fnEq f fi k3]
        obtain ⟨k5, k6⟩ := fn_def (P := X.prog) (w := X.w) (base := X.base) (fu := p.fuel) ih d
        exact ⟨fa, k1, k2, ⟨k5, k6⟩, k4⟩ }
end
end GF
namespace GF
open PySem L2 PySem.Spec PyProof.Rows

/-! ## a law -/
/-- whether an error of the class at S is what «except T» names -/
theorem exm_of {K : PySem.W.Frag} {S T : Addr} {b : Bool} (h1 : PySem.W.subIn K (.ref T) (.type "BaseException") = some true) (h2 : PySem.W.isClsIn K T = true) (h3 : PySem.W.typeIn K (.ref T) = some (.type "type")) (h4 : PySem.W.subIn K (.ref S) (.ref T) = some b) :
    PySem.W.exmOne K (.ref S) (.ref T) = some b := by
  have c2 : (PySem.W.clsIn K T).isSome = true := h2
  unfold PySem.W.exmOne PySem.W.kitCls
  simp only [h1, h3, h4, c2, beq_self_eq_true, if_true, Bool.and_self]
section
variable {T : CC} {cl : Cl} {xa : Nat → Value} {p : Prg} {K : PySem.W.Frag} {mg : Str → Option Value} {P : Program} {w : World} {base : Heap}
theorem ints_V {G : Hp} : ∀ ns : List Int, RepFs K cl G (ns.map D.int) (ns.map V.int)
  | [] => RepFs.nil
  | n :: ns => RepFs.cons (by unfold RepF; rfl) (ints_V ns)
/-- law's promise: at most 63 ints handed in, True comes out -/
def spLaw (K : PySem.W.Frag) : Sp := fun vs H Q _ => ∃ (a : Addr) (ns : List Int), vs = [.ref a] ∧ SqL K H a (ns.map V.int) ∧ ns.length ≤ 63 ∧ ∀ H', Q (.bl true) H'
theorem law_ok {x qual : Str} {st : Stmt} {fa : Addr} {fd : FuncData} {N ps mu : List Str} {fz : List (Nat × Nat)} {b : ISs} {n : Nat} (m : Mo T cl xa p K mg) (F : Fun K x qual st fa fd) (S : FnScope N ps (defScope st)) (hps : ps.length = 1)
    (hc : cBody { T with N := N, self := false, mu := mu, fz := fz } (defScope st) (defBody st) = some b) (hlaw : ∀ ns : List Int, ns.length ≤ 63 → runF (p.phi n) p.fuel N.length b [.lst false (ns.map .int)] = .ok (.bl true)) :
    FnOk P w K mg base (L2.CX P w) (6 * n + 6) fa fd ps (spLaw K) := by
  have g := m.all n
  refine F.okX (k := 6 * n + 5) S (fun vs H Q E ⟨a, ns, e, _⟩ => by rw [e, hps]; rfl) fun cdv A outer s H vs Q E hr h => ?_
  obtain ⟨a, ns, rfl, hs, hn, hq⟩ := h
  have hX := g (cxOf (L2.CX P w) P w K mg base N qual (defScope st) fa cdv A outer s H E) false mu fz rfl rfl rfl S.nd hr
  have st' : StOk (cxOf (L2.CX P w) P w K mg base N qual (defScope st) fa cdv A outer s H E) (fun cls d _ H => E cls d H) := ⟨takes_of rfl rfl rfl rfl, passes_of rfl, rfl, rfl⟩
  have rs : RepFs K cl H [.lst false (ns.map .int)] [.ref a] := RepFs.cons (by unfold RepF; exact ⟨rfl, a, _, rfl, hs, ints_V ns⟩) RepFs.nil
  have hl := hlaw ns hn
  refine ⟨_, sndB (fu := p.fuel) (zv := .non) hX (scOk_of S rfl rfl) st' hc, H, [D.lst false (ns.map .int)].map some ++ List.replicate (N.length - [D.lst false (ns.map .int)].length) none, [], [], ⟨?_, by simp, by simp, fun _ _ z => z, by simp⟩, fun hz => (by cases hz), ?_⟩
  · show Slots K cl H H _ (start N [.ref a]) []
    unfold L2.start
    exact slots_start rs
  · unfold runF at hl
    cases hx : evalSs (p.phi n) p.fuel b ([D.lst false (ns.map .int)].map some ++ List.replicate (N.length - [D.lst false (ns.map .int)].length) none) with
    | rt z =>
      rw [hx] at hl
      cases hl
      intro v fv G' H' a1 b1 c1 e1
      have : v = .bl true := a1.bl
      subst this
      exact hq H'
    | nx r => rw [hx] at hl; cases hl
    | er k r => rw [hx] at hl; cases hl
    | bk r => rw [hx] at hl; cases hl
    | ct r => rw [hx] at hl; cases hl
    | stuck => rw [hx] at hl; cases hl
theorem cx_none {P : Program} {w : World} (H : Hp) (s : Shared) (e : Value) (s' : Shared) : L2.CX P w [] H s (fun _ _ _ => False) e s' → False := fun h => by
  obtain ⟨_, _, _, _, _, _, _, _, _, _, _, _, z⟩ := h
  exact z
theorem law_walk {l : PySem.W.OpenLaw} {k : Nat} {q : Program} {loose : List Str} {XP : (Str → Option Value) → Heap → Prop} {YP : World → Heap → Prop} {d : DefRec} {K : Params → PySem.W.Frag} (hn : l.most = some 63) (hdf : d.params.defaults = []) (hr : Room k callerA)
    (hY : ∀ (w : World) (h : Heap), YP w h → (K w.params).In h)
    (F : ∀ (w : World) (mg : Str → Option Value) (fa : Addr) (h : Heap), (K w.params).In h → h.Ns mainGlobals mg → mg d.name = some (.ref fa) →
      ∃ fd : FuncData, (∀ (s : Shared) (u : Value), BindsTo s fd ⟨[u], []⟩ [("script", u)]) ∧ ∀ base : Heap, (K w.params).In base → base.Ns mainGlobals mg → FnOk l.prog w (K w.params) mg base (L2.CX l.prog w) k fa fd ["script"] (spLaw (K w.params))) :
    PySem.W.WalkO q loose XP YP l.row.toRowW d [] (fun f vs => PySem.call f vs) :=
  L2.walk_of (n := 63) (k := k) (x := "script") (CX := fun w => L2.CX l.prog w) (sp := fun w => spLaw (K w.params)) hn (by decide) hdf hr hY F (fun _ _ a ns hl _ hS => ⟨a, ns, rfl, hS, hl, fun _ => rfl⟩) fun _ H s e s' z => cx_none H s e s' z
end
end GF
/-! typed functions and that the language runs like them -/
namespace GF
open PySem

/-- what a typed function says: a value, an error's number, or nothing -/
inductive M (α : Type) where
  | ok (a : α)
  | er (k : Nat)
  | st
namespace M
variable {α β σ ρ : Type}
def bind : M α → (α → M β) → M β
  | .ok a, k => k a
  | .er e, _ => .er e
  | .st, _ => .st
def ofO : Option α → (α → M β) → M β
  | some a, k => k a
  | none, _ => .st
def get : M α → Option α
  | .ok a => some a
  | _ => none
/-- an error caught -/
def catch_ (p : Nat → Bool) (h : M α) : M α → M α
  | .er k => if p k then h else .er k
  | x => x
end M
def gd (c : Prop) [Decidable c] {α : Type} (t : M α) : M α := if c then t else .st
def gO (c : Prop) [Decidable c] {α : Type} (t : Option α) : Option α := if c then t else none
/-- how a block ends -/
inductive Out (σ ρ : Type) where
  | nx (s : σ)
  | bk (s : σ)
  | ct (s : σ)
  | rt (v : ρ)
/-- how a loop ends -/
inductive Aft (σ ρ : Type) where
  | nx (s : σ)
  | rt (v : ρ)
section
variable {α β σ ρ : Type}
def fold (B : α → σ → M σ) : List α → σ → M σ
  | [], s => .ok s
  | a :: l, s => (B a s).bind (fold B l)
def loop (B : α → σ → M (Out σ ρ)) : List α → σ → M (Aft σ ρ)
  | [], s => .ok (.nx s)
  | a :: l, s => (B a s).bind fun
    | .nx s => loop B l s
    | .ct s => loop B l s
    | .bk s => .ok (.nx s)
    | .rt v => .ok (.rt v)
def whileM (c : σ → M Bool) (B : σ → M (Out σ ρ)) : Nat → σ → M (Aft σ ρ)
  | 0, _ => .st
  | n + 1, s => (c s).bind fun
    | true => (B s).bind fun
      | .nx s => whileM c B n s
      | .ct s => whileM c B n s
      | .bk s => .ok (.nx s)
      | .rt v => .ok (.rt v)
    | false => .ok (.nx s)
end

/-! ## expressions -/
section
variable {P : Phi} {e x y z : IE} {es : IEs} {r r1 r2 : Rho} {α β γ : Type}
def EvO (P : Phi) (e : IE) (r : Rho) (t : Option α) (f : α → D) : Prop := ∀ a, t = some a → ∃ o, evalE P e r = .ok o r ∧ o.get r = some (f a)
def EvV (P : Phi) (e : IE) (r : Rho) (t : Option α) (f : α → D) (r' : Rho) : Prop := ∀ a, t = some a → evalE P e r = .ok (.val (f a)) r'
/-- what may raise -/
def EvX (P : Phi) (e : IE) (r : Rho) (t : M α) (f : α → D) (r' : Rho) : Prop := (∀ a, t = .ok a → evalE P e r = .ok (.val (f a)) r') ∧ ∀ k, t = .er k → evalE P e r = .err k r'
/-- plain: the value is d -/
abbrev PO (P : Phi) (e : IE) (r : Rho) (d : D) : Prop := ∃ o, evalE P e r = .ok o r ∧ o.get r = some d
abbrev PV (P : Phi) (e : IE) (r : Rho) (d : D) (r' : Rho) : Prop := evalE P e r = .ok (.val d) r'
abbrev PL (P : Phi) (es : IEs) (r : Rho) (ds : List D) (r' : Rho) : Prop := evalL P es r = .ok ds r'
abbrev PI (P : Phi) (it : II) (r : Rho) (ds : List D) (r' : Rho) : Prop := evalI P it r = .ok ds r'
def POs (P : Phi) (es : IEs) (r : Rho) (ds : List D) : Prop := ∃ os, evalO P es r = .ok os r ∧ getAll r os = some ds

theorem evO {a : α} {f : α → D} {d : D} (h : PO P e r d) (q : f a = d) : EvO P e r (some a) f := fun _ e' => by cases e'; rw [q]; exact h
theorem evV {a : α} {f : α → D} {d : D} (h : PV P e r d r1) (q : f a = d) : EvV P e r (some a) f r1 := fun _ e' => by cases e'; rw [q]; exact h
theorem EvO.p {a : α} {f : α → D} (h : EvO P e r (some a) f) : PO P e r (f a) := h a rfl
theorem EvV.p {a : α} {f : α → D} (h : EvV P e r (some a) f r1) : PV P e r (f a) r1 := h a rfl
theorem EvO.q {t : Option α} {a : α} {f : α → D} (h : EvO P e r t f) (q : t = some a) : PO P e r (f a) := h a q
theorem EvV.q {t : Option α} {a : α} {f : α → D} (h : EvV P e r t f r1) (q : t = some a) : PV P e r (f a) r1 := h a q
theorem evV_bind {t : Option β} {k : β → Option α} {f : α → D} (h : ∀ v, t = some v → EvV P e r (k v) f r1) : EvV P e r (t.bind k) f r1 := fun a q => by
  cases e' : t with
  | none => rw [e'] at q; cases q
  | some v => rw [e'] at q; exact h v e' a q
theorem evO_bind {t : Option β} {k : β → Option α} {f : α → D} (h : ∀ v, t = some v → EvO P e r (k v) f) : EvO P e r (t.bind k) f := fun a q => by
  cases e' : t with
  | none => rw [e'] at q; cases q
  | some v => rw [e'] at q; exact h v e' a q
theorem evV_gO {c : Prop} [Decidable c] {t : Option α} {f : α → D} (h : c → EvV P e r t f r1) : EvV P e r (gO c t) f r1 := fun a q => by
  unfold gO at q
  split at q
  · rename_i hc; exact h hc a q
  · cases q
theorem evO_gO {c : Prop} [Decidable c] {t : Option α} {f : α → D} (h : c → EvO P e r t f) : EvO P e r (gO c t) f := fun a q => by
  unfold gO at q
  split at q
  · rename_i hc; exact h hc a q
  · cases q
theorem PV.o {d : D} (h : PV P e r d r) : PO P e r d := ⟨_, h, rfl⟩
theorem pv_c (d : D) : PV P (.c d) r d r := by unfold PV evalE; rfl
theorem po_b {i : Nat} {d : D} (h : getS r i = some d) : PO P (.b i) r d := ⟨.slot i, by unfold evalE; rw [h], h⟩
theorem pv_v {i : Nat} {d : D} (h : getS r i = some d) (q : d.own = false) : PV P (.v i) r d r := by
  unfold PV evalE; rw [h]; simp only [D.frz_of q, q]; rfl
theorem pv_vo {i : Nat} {d d' : D} (h : getS r i = some d) (q : d.own = true) (q2 : d.frz = d') : PV P (.v i) r d' (r.set i (some d')) := by
  unfold PV evalE; rw [h]; simp only [q, q2, if_true]
theorem pv_mv {i : Nat} {d : D} (h : getS r i = some d) : PV P (.mv i) r d (r.set i none) := by
  unfold PV evalE; rw [h]
theorem pv_op {o : Op} {u w d : D} (h1 : PO P x r u) (h2 : PO P y r w) (q : opD o u w = some d) : PV P (.op o x y) r d r := by
  obtain ⟨a, e1, g1⟩ := h1
  obtain ⟨b, e2, g2⟩ := h2
  unfold PV evalE
  simp only [e1, RE.od, e2, g1, g2, q, optE]
theorem pv_ch {o p : Op} {u w q : D} {b c : Bool} (h1 : PO P x r u) (h2 : PO P y r w) (h3 : PO P z r q) (q1 : opD o u w = some (.bl b)) (q2 : opD p w q = some (.bl c)) : PV P (.ch o p x y z) r (.bl (b && c)) r := by
  obtain ⟨a1, e1, g1⟩ := h1
  obtain ⟨a2, e2, g2⟩ := h2
  obtain ⟨a3, e3, g3⟩ := h3
  unfold PV evalE
  simp only [e1, RE.od, e2, g1, g2, q1]
  cases b <;> simp [e3, g2, g3, q2, optE]
theorem pv_neg {i : Int} (h : PO P x r (.int i)) : PV P (.neg x) r (.int (-i)) r := by
  obtain ⟨a, e1, g1⟩ := h
  unfold PV evalE
  simp only [e1, RE.get, g1]
theorem pv_not {b : Bool} (h : PO P x r (.bl b)) : PV P (.not_ x) r (.bl (!b)) r := by
  obtain ⟨a, e1, g1⟩ := h
  unfold PV evalE
  simp only [e1, RE.get, g1]
theorem po_and {a b : Bool} (h1 : PO P x r (.bl a)) (h2 : PO P y r (.bl b)) : PO P (.and_ x y) r (.bl (a && b)) := by
  obtain ⟨o1, e1, g1⟩ := h1
  unfold PO evalE
  simp only [e1, RE.get, g1]
  cases a
  · exact ⟨_, rfl, rfl⟩
  · simpa using h2
theorem po_or {a b : Bool} (h1 : PO P x r (.bl a)) (h2 : PO P y r (.bl b)) : PO P (.or_ x y) r (.bl (a || b)) := by
  obtain ⟨o1, e1, g1⟩ := h1
  unfold PO evalE
  simp only [e1, RE.get, g1]
  cases a
  · simpa using h2
  · exact ⟨_, rfl, rfl⟩
theorem pv_and {a b : Bool} (h1 : PO P x r (.bl a)) (h2 : PV P y r (.bl b) r) : PV P (.and_ x y) r (.bl (a && b)) r := by
  obtain ⟨o1, e1, g1⟩ := h1
  unfold PV evalE
  simp only [e1, RE.get, g1]
  cases a
  · rfl
  · simpa using h2
theorem pv_or {a b : Bool} (h1 : PO P x r (.bl a)) (h2 : PV P y r (.bl b) r) : PV P (.or_ x y) r (.bl (a || b)) r := by
  obtain ⟨o1, e1, g1⟩ := h1
  unfold PV evalE
  simp only [e1, RE.get, g1]
  cases a
  · simpa using h2
  · rfl
/-- the second one may be partial -/
theorem evO_and {a : Bool} {t : Option Bool} (h1 : PO P x r (.bl a)) (h2 : a = true → EvO P y r t .bl) : EvO P (.and_ x y) r (if a then t else some false) .bl := fun v q => by
  obtain ⟨o1, e1, g1⟩ := h1
  unfold evalE
  simp only [e1, RE.get, g1]
  cases a
  · cases q; exact ⟨_, rfl, rfl⟩
  · exact h2 rfl v q
theorem evO_or {a : Bool} {t : Option Bool} (h1 : PO P x r (.bl a)) (h2 : a = false → EvO P y r t .bl) : EvO P (.or_ x y) r (if a then some true else t) .bl := fun v q => by
  obtain ⟨o1, e1, g1⟩ := h1
  unfold evalE
  simp only [e1, RE.get, g1]
  cases a
  · exact h2 rfl v q
  · cases q; exact ⟨_, rfl, rfl⟩
theorem evV_and {a : Bool} {t : Option Bool} (h1 : PO P x r (.bl a)) (h2 : a = true → EvV P y r t .bl r) : EvV P (.and_ x y) r (if a then t else some false) .bl r := fun v q => by
  obtain ⟨o1, e1, g1⟩ := h1
  unfold evalE
  simp only [e1, RE.get, g1]
  cases a
  · cases q; rfl
  · exact h2 rfl v q
theorem evV_or {a : Bool} {t : Option Bool} (h1 : PO P x r (.bl a)) (h2 : a = false → EvV P y r t .bl r) : EvV P (.or_ x y) r (if a then some true else t) .bl r := fun v q => by
  obtain ⟨o1, e1, g1⟩ := h1
  unfold evalE
  simp only [e1, RE.get, g1]
  cases a
  · exact h2 rfl v q
  · cases q; rfl
theorem evO_ite {a : Bool} {t u : Option α} {f : α → D} (h1 : PO P x r (.bl a)) (h2 : a = true → EvO P y r t f) (h3 : a = false → EvO P z r u f) : EvO P (.ite x y z) r (if a then t else u) f := fun v q => by
  obtain ⟨o1, e1, g1⟩ := h1
  unfold evalE
  simp only [e1, RE.get, g1]
  cases a
  · exact h3 rfl v q
  · exact h2 rfl v q
theorem evV_ite {a : Bool} {t u : Option α} {f : α → D} (h1 : PO P x r (.bl a)) (h2 : a = true → EvV P y r t f r) (h3 : a = false → EvV P z r u f r) : EvV P (.ite x y z) r (if a then t else u) f r := fun v q => by
  obtain ⟨o1, e1, g1⟩ := h1
  unfold evalE
  simp only [e1, RE.get, g1]
  cases a
  · exact h3 rfl v q
  · exact h2 rfl v q
theorem pv_ite {a : Bool} {u w : D} (h1 : PO P x r (.bl a)) (h2 : PV P y r u r) (h3 : PV P z r w r) : PV P (.ite x y z) r (if a then u else w) r := by
  obtain ⟨o1, e1, g1⟩ := h1
  unfold PV evalE
  simp only [e1, RE.get, g1]
  cases a
  · exact h3
  · exact h2
theorem po_ite {a : Bool} {u w : D} (h1 : PO P x r (.bl a)) (h2 : PO P y r u) (h3 : PO P z r w) : PO P (.ite x y z) r (if a then u else w) := by
  obtain ⟨o1, e1, g1⟩ := h1
  unfold PO evalE
  simp only [e1, RE.get, g1]
  cases a
  · exact h3
  · exact h2
theorem pv_ix {u w d : D} (h1 : PO P x r u) (h2 : PO P y r w) (q : ixD u w = some d) : PV P (.ix x y) r d r := by
  obtain ⟨a, e1, g1⟩ := h1
  obtain ⟨b, e2, g2⟩ := h2
  unfold PV evalE
  simp only [e1, RE.od, e2, g1, g2, q, optE]
def PB (P : Phi) (es : IEs) (r : Rho) (b : Option Int) : Prop := evalB P es r = .ok b r
theorem pb_no : PB P .nil r none := by unfold PB evalB; rfl
theorem pb_at {i : Int} (h : PO P x r (.int i)) : PB P (.cons x .nil) r (some i) := by
  obtain ⟨a, e1, g1⟩ := h
  unfold PB evalB
  simp only [e1, g1]
theorem pv_sl {lo hi : IEs} {u d : D} {a b : Option Int} (h1 : PO P x r u) (h2 : PB P lo r a) (h3 : PB P hi r b) (q : slD u a b = some d) : PV P (.sl x lo hi) r d r := by
  obtain ⟨o, e1, g1⟩ := h1
  unfold PB at h2 h3
  unfold PV evalE
  simp only [e1, RE.od, h2, h3, g1, q, optE]
theorem pl_nil : PL P .nil r [] r := by unfold PL evalL; rfl
theorem pl_cons {d d' : D} {ds : List D} (h : PV P x r d r1) (q : d.frz = d') (h2 : PL P es r1 ds r2) : PL P (.cons x es) r (d' :: ds) r2 := by
  unfold PL evalL
  simp only [h, show evalL P es r1 = .ok ds r2 from h2, q]
theorem pos_nil : POs P .nil r [] := ⟨[], by unfold evalO; rfl, rfl⟩
theorem pos_cons {d : D} {ds : List D} (h : PO P x r d) (h2 : POs P es r ds) : POs P (.cons x es) r (d :: ds) := by
  obtain ⟨o, e1, g1⟩ := h
  obtain ⟨os, e2, g2⟩ := h2
  exact ⟨o :: os, by unfold evalO; simp only [e1, e2], by simp only [getAll, g1, g2]⟩
theorem pv_tup {ds : List D} (h : PL P es r ds r1) (q : ds.length ≤ sizeLine) : PV P (.tup es) r (.tup ds) r1 := by
  unfold PV evalE; simp only [show evalL P es r = .ok ds r1 from h, if_pos q]
theorem pv_lst {ds : List D} (h : PL P es r ds r1) (q : ds.length ≤ sizeLine) : PV P (.lst es) r (.lst true ds) r1 := by
  unfold PV evalE; simp only [show evalL P es r = .ok ds r1 from h, if_pos q]
theorem pv_call {f : Nat} {ds : List D} {d : D} (h : PL P es r ds r1) (q : P.fn f ds = .ok d) : PV P (.call f es) r d r1 := by
  unfold PV evalE; simp only [show evalL P es r = .ok ds r1 from h, q, resE]
theorem pv_new {f : Nat} {ds : List D} {d : D} (h : PL P es r ds r1) (q : P.mkI f ds = .ok d) : PV P (.new f es) r d r1 := by
  unfold PV evalE; simp only [show evalL P es r = .ok ds r1 from h, q, resE]
theorem pv_fld {f : Nat} {o : Bool} {c : Nat} {ns : List Nat} {ds : List D} {d : D} (h : PO P x r (.ins o c ns ds)) (q : lookN f ns ds = some d) : PV P (.fld x f) r d r := by
  obtain ⟨a, e1, g1⟩ := h
  unfold PV evalE
  simp only [e1, RE.get, g1, q, optE]
theorem pv_meth {m f : Nat} {o : Bool} {c : Nat} {ns : List Nat} {us ds : List D} {d : D} (h : PV P x r (.ins o c ns us) r) (hm : P.mt c m = some f) (h2 : PL P es r ds r1) (q : P.fn f (.ins false c ns us :: ds) = .ok d) : PV P (.meth x m es) r d r1 := by
  unfold PV evalE
  simp only [show evalE P x r = .ok (.val (.ins o c ns us)) r from h, RE.val, hm, show evalL P es r = .ok ds r1 from h2, q, resE]
theorem pv_bi {b : BI} {ds : List D} {d : D} (h : POs P es r ds) (q : biD b ds = some d) : PV P (.bi b es) r d r := by
  obtain ⟨os, e1, g1⟩ := h
  unfold PV evalE
  simp only [e1, g1, q, optE]
theorem pv_isi {t : Ty} {d : D} {b : Bool} (h : PO P x r d) (q : isTy d t = some b) : PV P (.isi x t) r (.bl b) r := by
  obtain ⟨a, e1, g1⟩ := h
  unfold PV evalE
  simp only [e1, RE.get, g1, q]
theorem pv_bm {m : BM} {u d : D} {ds : List D} {T : Ty} (h : PO P x r u) (hk : kindD u = some T) (hb : okBm m T = true) (h2 : POs P es r ds) (q : bmD m u ds = some d) : PV P (.bm x m es) r d r := by
  obtain ⟨a, e1, g1⟩ := h
  obtain ⟨os, e2, g2⟩ := h2
  unfold PV evalE
  simp only [e1, RE.od, g1, Option.bind, hk, hb, if_true, e2, g2, q, optE]

/-! what may raise -/
theorem evX_call {f : Nat} {ds : List D} {t : M α} {fz : α → D} (h : PL P es r ds r1) (q1 : ∀ a, t = .ok a → P.fn f ds = .ok (fz a)) (q2 : ∀ k, t = .er k → P.fn f ds = .err k) : EvX P (.call f es) r t fz r1 :=
  ⟨fun a e => pv_call h (q1 a e), fun k e => by unfold evalE; simp only [show evalL P es r = .ok ds r1 from h, q2 k e, resE]⟩
theorem evX_new {f : Nat} {ds : List D} {t : M α} {fz : α → D} (h : PL P es r ds r1) (q1 : ∀ a, t = .ok a → P.mkI f ds = .ok (fz a)) (q2 : ∀ k, t = .er k → P.mkI f ds = .err k) : EvX P (.new f es) r t fz r1 :=
  ⟨fun a e => pv_new h (q1 a e), fun k e => by unfold evalE; simp only [show evalL P es r = .ok ds r1 from h, q2 k e, resE]⟩

/-! iterables -/
theorem pi_seq {d : D} {ds : List D} (h : PV P x r d r1) (q : itemsD d = some ds) : PI P (.seq x) r ds r1 := by
  unfold PI evalI; simp only [show evalE P x r = .ok (.val d) r1 from h, q]
theorem pi_rng {ds l : List D} (h : POs P es r ds) (q : rangeD ds = some l) : PI P (.rng es) r l r := by
  obtain ⟨os, e1, g1⟩ := h
  unfold PI evalI; simp only [e1, g1, q]
theorem pi_zip {ds l : List D} (h : PL P es r ds r1) (q : zipK ds = some l) : PI P (.zip es) r l r1 := by
  unfold PI evalI; simp only [show evalL P es r = .ok ds r1 from h, q]
theorem pi_enum {ds l : List D} (h : PL P es r ds r1) (q : enumK ds = some l) : PI P (.enum es) r l r1 := by
  unfold PI evalI; simp only [show evalL P es r = .ok ds r1 from h, q]
end
end GF
namespace GF
open PySem

/-! ## comprehensions -/
def lcO {α β : Type} (c : α → Option Bool) (h : α → Option β) : List α → Option (List β)
  | [] => some []
  | a :: l => (c a).bind fun b => if b then (h a).bind fun y => (lcO c h l).bind fun ys => some (y :: ys) else lcO c h l
section
variable {P : Phi} {own : List Nat} {tg : Tg} {it : II} {c x : IE} {r : Rho} {α β : Type}
theorem lcGo_O {bd : D → Rho → Option Rho} {tst elt : Rho → RE} (g : α → D) (tc : α → Option Bool) (th : α → Option β) (f : β → D) : ∀ (l : List α) (acc : List D) (ys : List β),
    (∀ a ∈ l, ∃ r1, bd (g a) r = some r1 ∧ (∀ b, tc a = some b → ∃ o r2, tst r1 = .ok o r2 ∧ o.get r2 = some (.bl b) ∧ wipeR r2 own = r ∧ (b = true → ∀ y, th a = some y → ∃ w r3, elt r2 = .ok (.val w) r3 ∧ (w.frz = f y ∧ odD w = false) ∧ wipeR r3 own = r))) →
    acc.length + l.length ≤ sizeLine → lcO tc th l = some ys →
    lcGo own bd tst elt (l.map g) r acc = .ok (.val (.lst true (acc ++ ys.map f))) r
  | [], acc, ys, h, hl, e => by
    simp only [lcO, Option.some.injEq] at e
    subst e
    simp [lcGo]
  | a :: l, acc, ys, h, hl, e => by
    obtain ⟨r1, e1, h1⟩ := h a List.mem_cons_self
    rw [List.length_cons] at hl
    unfold lcO at e
    cases ec : tc a with
    | none => rw [ec] at e; cases e
    | some b =>
      rw [ec] at e
      simp only [Option.bind_some] at e
      obtain ⟨o, r2, e2, e3, e4, h2⟩ := h1 b ec
      rw [List.map_cons, lcGo, e1]
      simp only [RE.get, e2, e3]
      cases b with
      | false =>
        simp only [Bool.false_eq_true, if_false] at e
        simp only [e4]
        exact lcGo_O g tc th f l acc ys (fun a ha => h a (List.mem_cons_of_mem _ ha)) (by omega) e
      | true =>
        simp only [if_true] at e
        cases eh : th a with
        | none => rw [eh] at e; cases e
        | some y =>
          rw [eh] at e
          simp only [Option.bind_some] at e
          cases el : lcO tc th l with
          | none => rw [el] at e; cases e
          | some zs =>
            rw [el] at e
            simp only [Option.bind_some, Option.some.injEq] at e
            subst e
            obtain ⟨w, r3, e6, ⟨e7, e9⟩, e8⟩ := h2 rfl y eh
            simp only [e6, e7, e8]
            rw [if_pos ⟨e9, by omega⟩, lcGo_O g tc th f l (acc ++ [f y]) zs (fun a ha => h a (List.mem_cons_of_mem _ ha)) (by rw [List.length_append, List.length_singleton]; omega) el]
            simp
/-- [x for tg in it if c] -/
theorem evV_lcif {tc : α → Option Bool} {th : α → Option β} {f : β → D} (l : List α) (g : α → D) (h1 : PI P it r (l.map g) r) (hf : freeR r own = true) (hb : backR r (wipeR r own) own = r)
    (turn : ∀ a, ∃ r1, bindT tg (g a) (wipeR r own) = some r1 ∧ wipeR r1 own = wipeR r own ∧ EvO P c r1 (tc a) .bl ∧ ∃ f', (∀ y, D.frz (f' y) = f y ∧ odD (f' y) = false) ∧ EvV P x r1 (th a) f' r1) :
    EvV P (.lc own tg it (.cons c .nil) x) r (gO (l.length ≤ sizeLine) (lcO tc th l)) (fun ys => .lst true (ys.map f)) r := fun ys e => by
  unfold gO at e
  split at e
  case isFalse => cases e
  rename_i hl
  unfold evalE
  simp only [show evalI P it r = .ok (l.map g) r from h1, hf, if_true]
  rw [lcGo_O g tc th f l [] ys (fun a ha => by
    obtain ⟨r1, e1, e2, e3, f', e4, e5⟩ := turn a
    refine ⟨r1, e1, fun b hb => ?_⟩
    obtain ⟨o, e6, e7⟩ := e3 b hb
    exact ⟨o, r1, by rw [evalT]; exact e6, e7, e2, fun _ y hy => ⟨_, r1, e5 y hy, e4 y, e2⟩⟩) (by simpa using hl) e]
  simp [hb]
/-- [x for tg in it] -/
theorem evV_lc {th : α → Option β} {f : β → D} (l : List α) (g : α → D) (h1 : PI P it r (l.map g) r) (hf : freeR r own = true) (hb : backR r (wipeR r own) own = r)
    (turn : ∀ a, ∃ r1, bindT tg (g a) (wipeR r own) = some r1 ∧ wipeR r1 own = wipeR r own ∧ ∃ f', (∀ y, D.frz (f' y) = f y ∧ odD (f' y) = false) ∧ EvV P x r1 (th a) f' r1) :
    EvV P (.lc own tg it .nil x) r (gO (l.length ≤ sizeLine) (lcO (fun _ => some true) th l)) (fun ys => .lst true (ys.map f)) r := fun ys e => by
  unfold gO at e
  split at e
  case isFalse => cases e
  rename_i hl
  unfold evalE
  simp only [show evalI P it r = .ok (l.map g) r from h1, hf, if_true]
  rw [lcGo_O g (fun _ => some true) th f l [] ys (fun a ha => by
    obtain ⟨r1, e1, e2, f', e4, e5⟩ := turn a
    refine ⟨r1, e1, fun b hb => ?_⟩
    cases hb
    exact ⟨.val (.bl true), r1, by rw [evalT], rfl, e2, fun _ y hy => ⟨_, r1, e5 y hy, e4 y, e2⟩⟩) (by simpa using hl) e]
  simp [hb]
theorem lcO_pure (p : α → Bool) (h : α → β) : ∀ l : List α, lcO (fun a => some (p a)) (fun a => some (h a)) l = some ((l.filter p).map h)
  | [] => rfl
  | a :: l => by
    unfold lcO
    simp only [Option.bind_some, lcO_pure p h l]
    cases e : p a <;> simp [e]
theorem lcO_map (h : α → β) (l : List α) : lcO (fun _ => some true) (fun a => some (h a)) l = some (l.map h) := by
  have := lcO_pure (fun _ => true) h l
  rw [List.filter_eq_self.mpr (fun _ _ => rfl)] at this
  exact this
end

/-! ## statements -/
def thenS (x : RS) (K : Rho → RS) : RS := match x with
  | .nx r => K r
  | q => q
section
variable {P : Phi} {fu : Nat}
abbrev ex (P : Phi) (fu : Nat) (ss : ISs) (r : Rho) (K : Rho → RS) : RS := thenS (evalSs P fu ss r) K
theorem ex_cons {s : IS} {ss : ISs} {r : Rho} {K : Rho → RS} : ex P fu (.cons s ss) r K = thenS (evalS P fu s r) fun r => ex P fu ss r K := by
  unfold ex; rw [evalSs]
  cases evalS P fu s r <;> rfl
theorem ex_nil {r : Rho} {K : Rho → RS} : ex P fu .nil r K = K r := by unfold ex; rw [evalSs]; rfl
theorem ex_nx {ss : ISs} {r : Rho} : ex P fu ss r .nx = evalSs P fu ss r := by
  unfold ex thenS
  cases evalSs P fu ss r <;> rfl

/-- the run X does what t says; Er: what holds where an error leaves -/
def J {β : Type} (Er : Rho → Prop) (X : RS) (t : M β) (Q : β → RS → Prop) : Prop := match t with
  | .ok b => Q b X
  | .er k => ∃ r, X = .er k r ∧ Er r
  | .st => True
def pR {ρ : Type} (f : ρ → D) : ρ → RS → Prop := fun v X => X = .rt (f v)
def pN {σ : Type} (E : σ → Rho → Prop) : σ → RS → Prop := fun s X => ∃ r, X = .nx r ∧ E s r
def pO {σ ρ : Type} (E : σ → Rho → Prop) (f : ρ → D) : Out σ ρ → RS → Prop
  | .nx s, X => ∃ r, X = .nx r ∧ E s r
  | .ct s, X => ∃ r, X = .ct r ∧ E s r
  | .bk s, X => ∃ r, X = .bk r ∧ E s r
  | .rt v, X => X = .rt (f v)
section
variable {Er : Rho → Prop} {X : RS} {α β γ σ σ' ρ : Type} {Q : β → RS → Prop} {t : M β} {r r1 r2 : Rho} {K : Rho → RS} {e : IE} {s : IS} {ss a b : ISs} {tg : Tg} {i : Nat}
theorem J_ho {o : Option α} {k : α → M β} (h : ∀ v, o = some v → J Er X (k v) Q) : J Er X (M.ofO o k) Q := by
  cases e : o with
  | none => exact trivial
  | some v => exact h v e
theorem J_gd {c : Prop} [Decidable c] (h : c → J Er X t Q) : J Er X (gd c t) Q := by
  unfold gd
  split
  · rename_i hc; exact h hc
  · exact trivial
theorem J_if {c : Prop} [Decidable c] {t u : M β} (h : c → J Er X t Q) (h2 : ¬ c → J Er X u Q) : J Er X (if c then t else u) Q := by
  split
  · rename_i hc; exact h hc
  · rename_i hc; exact h2 hc
theorem J_asg {kp : Bool} {d d' : D} (h : PV P e r d r1) (hd : (if kp = true then d else d.frz) = d') (hb : bindT tg d' r1 = some r2) (k : J Er (ex P fu ss r2 K) t Q) : J Er (ex P fu (.cons (.asg kp tg e) ss) r K) t Q := by
  subst hd
  rw [ex_cons]
  unfold evalS
  simp only [show evalE P e r = .ok (.val d) r1 from h, hb, thenS]
  exact k
theorem J_asgX {kp : Bool} {tx : M α} {f f' : α → D} {k : α → M β} (h : EvX P e r tx f r1) (he : Er r1) (hd : ∀ v, (if kp = true then f v else (f v).frz) = f' v) (hk : ∀ v, tx = .ok v → ∃ r2, bindT tg (f' v) r1 = some r2 ∧ J Er (ex P fu ss r2 K) (k v) Q) : J Er (ex P fu (.cons (.asg kp tg e) ss) r K) (tx.bind k) Q := by
  cases q : tx with
  | st => exact trivial
  | ok v =>
    obtain ⟨r2, h1, h2⟩ := hk v q
    exact J_asg (h.1 v q) (hd v) h1 h2
  | er k =>
    rw [ex_cons]
    unfold evalS
    simp only [h.2 k q, thenS]
    exact ⟨r1, rfl, he⟩
theorem J_ex {d : D} (h : PV P e r d r1) (k : J Er (ex P fu ss r1 K) t Q) : J Er (ex P fu (.cons (.ex e) ss) r K) t Q := by
  rw [ex_cons]
  unfold evalS
  simp only [show evalE P e r = .ok (.val d) r1 from h, thenS]
  exact k
theorem J_exX {tx : M α} {f : α → D} {k : α → M β} (h : EvX P e r tx f r1) (he : Er r1) (hk : ∀ v, tx = .ok v → J Er (ex P fu ss r1 K) (k v) Q) : J Er (ex P fu (.cons (.ex e) ss) r K) (tx.bind k) Q := by
  cases q : tx with
  | st => exact trivial
  | ok v => exact J_ex (h.1 v q) (hk v q)
  | er k =>
    rw [ex_cons]
    unfold evalS
    simp only [h.2 k q, thenS]
    exact ⟨r1, rfl, he⟩
theorem J_ret {d : D} {b : β} (h : PV P e r d r1) (q : Q b (.rt d)) : J Er (ex P fu (.cons (.ret e) ss) r K) (.ok b) Q := by
  rw [ex_cons]
  unfold evalS
  simp only [show evalE P e r = .ok (.val d) r1 from h, thenS]
  exact q
theorem J_retX {tx : M α} {f : α → D} {k : α → M β} (h : EvX P e r tx f r1) (he : Er r1) (hk : ∀ v, tx = .ok v → ∃ b, k v = .ok b ∧ Q b (.rt (f v))) : J Er (ex P fu (.cons (.ret e) ss) r K) (tx.bind k) Q := by
  cases q : tx with
  | st => exact trivial
  | ok v =>
    obtain ⟨b, h1, h2⟩ := hk v q
    simp only [M.bind, h1]
    exact J_ret (h.1 v q) h2
  | er k =>
    rw [ex_cons]
    unfold evalS
    simp only [h.2 k q, thenS]
    exact ⟨r1, rfl, he⟩
theorem J_raise {k : Nat} (he : Er r) : J Er (ex P fu (.cons (.raise k) ss) r K) (.er k : M β) Q := by
  rw [ex_cons, evalS]
  exact ⟨r, rfl, he⟩
theorem J_brk {b : β} (q : Q b (.bk r)) : J Er (ex P fu (.cons .brk ss) r K) (.ok b) Q := by
  rw [ex_cons, evalS]
  exact q
theorem J_cnt {b : β} (q : Q b (.ct r)) : J Er (ex P fu (.cons .cnt ss) r K) (.ok b) Q := by
  rw [ex_cons, evalS]
  exact q
theorem J_nil {b : β} (q : Q b (K r)) : J Er (ex P fu .nil r K) (.ok b) Q := by
  rw [ex_nil]
  exact q
/-- on with what stands behind -/
theorem J_on (k : J Er (K r) t Q) : J Er (ex P fu .nil r K) t Q := by
  rw [ex_nil]
  exact k
theorem J_app {ds : List D} {d d' : D} (h0 : getS r i = some (.lst true ds)) (h : PV P e r d r1) (h1 : getS r1 i = some (.lst true ds)) (hd : d.frz = d') (hl : ds.length < sizeLine) (hr : r1.set i (some (.lst true (ds ++ [d']))) = r2) (od : odD d = false) (k : J Er (ex P fu ss r2 K) t Q) : J Er (ex P fu (.cons (.app i e) ss) r K) t Q := by
  rw [ex_cons]
  unfold evalS
  simp only [h0, isOwnL, if_true, show evalE P e r = .ok (.val d) r1 from h, h1, od, hl, hd, hr, and_self, if_true, thenS]
  exact k
theorem J_setf {f c : Nat} {d d' : D} {ns : List Nat} {ds : List D} (h : PV P e r d r1) (h1 : getS r1 i = some (.ins true c ns ds)) (hn : (ns.length < 100 && P.fl c f) = true) (hd : d.frz = d') (hr : r1.set i (some (.ins true c (putN f d' ns ds).1 (putN f d' ns ds).2)) = r2) (od : odD d = false) (k : J Er (ex P fu ss r2 K) t Q) : J Er (ex P fu (.cons (.setf i f e) ss) r K) t Q := by
  rw [ex_cons]
  unfold evalS
  simp only [show evalE P e r = .ok (.val d) r1 from h, h1, hn, od, Bool.not_false, Bool.and_true, if_true, hd, hr, thenS]
  exact k
/-- if: both ways on -/
theorem J_ifX {c : IE} {v : Bool} {ta tb : M β} (h : PO P c r (.bl v)) (h1 : v = true → J Er (ex P fu a r fun r => ex P fu ss r K) ta Q) (h2 : v = false → J Er (ex P fu b r fun r => ex P fu ss r K) tb Q) : J Er (ex P fu (.cons (.if_ c a b) ss) r K) (if v then ta else tb) Q := by
  obtain ⟨o, e1, g1⟩ := h
  rw [ex_cons]
  unfold evalS
  simp only [e1, RE.tst, g1]
  cases v
  · exact h2 rfl
  · exact h1 rfl
/-- if: both ways come together -/
theorem J_ifN {c : IE} {v : Bool} {E : σ → Rho → Prop} {ta tb : M σ} {k : σ → M β} (h : PO P c r (.bl v)) (h1 : v = true → J Er (ex P fu a r .nx) ta (pN E)) (h2 : v = false → J Er (ex P fu b r .nx) tb (pN E)) (hk : ∀ s r, E s r → J Er (ex P fu ss r K) (k s) Q) :
    J Er (ex P fu (.cons (.if_ c a b) ss) r K) ((if v then ta else tb).bind k) Q := by
  obtain ⟨o, e1, g1⟩ := h
  rw [ex_cons]
  unfold evalS
  simp only [e1, RE.tst, g1]
  have gen : ∀ (q : ISs) (tq : M σ), J Er (ex P fu q r .nx) tq (pN E) → J Er (thenS (evalSs P fu q r) fun r => ex P fu ss r K) (tq.bind k) Q := by
    intro q tq h
    rw [ex_nx] at h
    cases tq with
    | st => exact trivial
    | ok s =>
      obtain ⟨r', h3, h4⟩ := h
      rw [h3]
      exact hk s r' h4
    | er n =>
      obtain ⟨r', h3, h4⟩ := h
      rw [h3]
      exact ⟨r', rfl, h4⟩
  cases v
  · exact gen b tb (h2 rfl)
  · exact gen a ta (h1 rfl)
/-- if: the ways end as they like -/
theorem J_ifO {c : IE} {v : Bool} {E : σ → Rho → Prop} {f : ρ → D} {ta tb : M (Out σ ρ)} {k : Out σ ρ → M β} (h : PO P c r (.bl v)) (h1 : v = true → J Er (ex P fu a r .nx) ta (pO E f)) (h2 : v = false → J Er (ex P fu b r .nx) tb (pO E f)) (hk : ∀ s r, E s r → J Er (ex P fu ss r K) (k (.nx s)) Q)
    (hk1 : ∀ s r, E s r → J Er (.ct r) (k (.ct s)) Q) (hk2 : ∀ s r, E s r → J Er (.bk r) (k (.bk s)) Q) (hk3 : ∀ v, J Er (.rt (f v)) (k (.rt v)) Q) :
    J Er (ex P fu (.cons (.if_ c a b) ss) r K) ((if v then ta else tb).bind k) Q := by
  obtain ⟨o, e1, g1⟩ := h
  rw [ex_cons]
  unfold evalS
  simp only [e1, RE.tst, g1]
  have gen : ∀ (q : ISs) (tq : M (Out σ ρ)), J Er (ex P fu q r .nx) tq (pO E f) → J Er (thenS (evalSs P fu q r) fun r => ex P fu ss r K) (tq.bind k) Q := by
    intro q tq h
    rw [ex_nx] at h
    cases tq with
    | st => exact trivial
    | ok s =>
      cases s with
      | nx s => obtain ⟨r', h3, h4⟩ := h; rw [h3]; exact hk s r' h4
      | ct s => obtain ⟨r', h3, h4⟩ := h; rw [h3]; exact hk1 s r' h4
      | bk s => obtain ⟨r', h3, h4⟩ := h; rw [h3]; exact hk2 s r' h4
      | rt v => rw [show evalSs P fu q r = .rt (f v) from h]; exact hk3 v
    | er n =>
      obtain ⟨r', h3, h4⟩ := h
      rw [h3]
      exact ⟨r', rfl, h4⟩
  cases v
  · exact gen b tb (h2 rfl)
  · exact gen a ta (h1 rfl)
theorem forGo_fold {bd : D → Rho → Option Rho} {body : Rho → RS} {g : α → D} {B : α → σ → M σ} {E : σ → Rho → Prop} (hB : ∀ a s r, E s r → ∃ r2, bd (g a) r = some r2 ∧ J Er (body r2) (B a s) (pN E)) : ∀ (l : List α) (s : σ) (r : Rho), E s r →
    J Er (forGo bd body (l.map g) r) (fold B l s) (pN E)
  | [], s, r, h => by simp only [fold, List.map_nil, forGo]; exact ⟨r, rfl, h⟩
  | a :: l, s, r, h => by
    obtain ⟨r2, h1, h2⟩ := hB a s r h
    simp only [fold, List.map_cons, forGo, h1]
    cases e : B a s with
    | st => exact trivial
    | ok s2 =>
      rw [e] at h2
      obtain ⟨r3, h3, h4⟩ := h2
      rw [h3]
      exact forGo_fold hB l s2 r3 h4
    | er k =>
      rw [e] at h2
      obtain ⟨r3, h3, h4⟩ := h2
      rw [h3]
      exact ⟨r3, rfl, h4⟩
def pA {σ ρ : Type} (E : σ → Rho → Prop) (f : ρ → D) : Aft σ ρ → RS → Prop
  | .nx s, X => ∃ r, X = .nx r ∧ E s r
  | .rt v, X => X = .rt (f v)
theorem forGo_loop {bd : D → Rho → Option Rho} {body : Rho → RS} {g : α → D} {B : α → σ → M (Out σ ρ)} {E : σ → Rho → Prop} {f : ρ → D} (hB : ∀ a s r, E s r → ∃ r2, bd (g a) r = some r2 ∧ J Er (body r2) (B a s) (pO E f)) : ∀ (l : List α) (s : σ) (r : Rho), E s r →
    J Er (forGo bd body (l.map g) r) (loop B l s) (pA E f)
  | [], s, r, h => by simp only [loop, List.map_nil, forGo]; exact ⟨r, rfl, h⟩
  | a :: l, s, r, h => by
    obtain ⟨r2, h1, h2⟩ := hB a s r h
    simp only [loop, List.map_cons, forGo, h1]
    cases e : B a s with
    | st => exact trivial
    | ok s2 =>
      rw [e] at h2
      cases s2 with
      | nx s => obtain ⟨r3, h3, h4⟩ := h2; rw [h3]; exact forGo_loop hB l s r3 h4
      | ct s => obtain ⟨r3, h3, h4⟩ := h2; rw [h3]; exact forGo_loop hB l s r3 h4
      | bk s => obtain ⟨r3, h3, h4⟩ := h2; rw [h3]; exact ⟨r3, rfl, h4⟩
      | rt v => rw [show body r2 = .rt (f v) from h2]; exact (rfl : RS.rt (f v) = .rt (f v))
    | er k =>
      rw [e] at h2
      obtain ⟨r3, h3, h4⟩ := h2
      rw [h3]
      exact ⟨r3, rfl, h4⟩
/-- for, each turn to its end -/
theorem J_for {it : II} {b : ISs} {g : α → D} {B : α → σ → M σ} {E : σ → Rho → Prop} {k : σ → M β} (l : List α) (s0 : σ) (h : PI P it r (l.map g) r1) (h0 : E s0 r1) (hB : ∀ a s r, E s r → ∃ r2, bindT tg (g a) r = some r2 ∧ J Er (ex P fu b r2 .nx) (B a s) (pN E))
    (hk : ∀ s r, E s r → J Er (ex P fu ss r K) (k s) Q) : J Er (ex P fu (.cons (.for_ tg it b) ss) r K) ((fold B l s0).bind k) Q := by
  rw [ex_cons]
  unfold evalS
  simp only [show evalI P it r = .ok (l.map g) r1 from h]
  have hh := forGo_fold (Er := Er) (bd := bindT tg) (body := fun r => evalSs P fu b r) (g := g) (B := B) (E := E) (fun a s r hE => by
    obtain ⟨r2, h1, h2⟩ := hB a s r hE
    rw [ex_nx] at h2
    exact ⟨r2, h1, h2⟩) l s0 r1 h0
  cases e : fold B l s0 with
  | st => exact trivial
  | ok s =>
    rw [e] at hh
    obtain ⟨r3, h3, h4⟩ := hh
    rw [h3]
    exact hk s r3 h4
  | er n =>
    rw [e] at hh
    obtain ⟨r3, h3, h4⟩ := hh
    rw [h3]
    exact ⟨r3, rfl, h4⟩
/-- for, with what leaves it -/
theorem J_forO {it : II} {b : ISs} {g : α → D} {B : α → σ → M (Out σ ρ)} {E : σ → Rho → Prop} {f : ρ → D} {k : Aft σ ρ → M β} (l : List α) (s0 : σ) (h : PI P it r (l.map g) r1) (h0 : E s0 r1) (hB : ∀ a s r, E s r → ∃ r2, bindT tg (g a) r = some r2 ∧ J Er (ex P fu b r2 .nx) (B a s) (pO E f))
    (hk : ∀ s r, E s r → J Er (ex P fu ss r K) (k (.nx s)) Q) (hk2 : ∀ v, J Er (.rt (f v)) (k (.rt v)) Q) : J Er (ex P fu (.cons (.for_ tg it b) ss) r K) ((loop B l s0).bind k) Q := by
  rw [ex_cons]
  unfold evalS
  simp only [show evalI P it r = .ok (l.map g) r1 from h]
  have hh := forGo_loop (Er := Er) (bd := bindT tg) (body := fun r => evalSs P fu b r) (g := g) (B := B) (E := E) (f := f) (fun a s r hE => by
    obtain ⟨r2, h1, h2⟩ := hB a s r hE
    rw [ex_nx] at h2
    exact ⟨r2, h1, h2⟩) l s0 r1 h0
  cases e : loop B l s0 with
  | st => exact trivial
  | ok s =>
    rw [e] at hh
    cases s with
    | nx s => obtain ⟨r3, h3, h4⟩ := hh; rw [h3]; exact hk s r3 h4
    | rt v => rw [show forGo _ _ _ _ = RS.rt (f v) from hh]; exact hk2 v
  | er n =>
    rw [e] at hh
    obtain ⟨r3, h3, h4⟩ := hh
    rw [h3]
    exact ⟨r3, rfl, h4⟩
theorem J_whl {c : IE} {b : ISs} {tc : σ → M Bool} {B : σ → M (Out σ ρ)} {E : σ → Rho → Prop} {f : ρ → D} {k : Aft σ ρ → M β} (s0 : σ) (h0 : E s0 r) (hc : ∀ s r, E s r → (∀ v, tc s = .ok v → PO P c r (.bl v)) ∧ ∀ n, tc s ≠ .er n) (hB : ∀ s r, E s r → J Er (ex P fu b r .nx) (B s) (pO E f))
    (hk : ∀ s r, E s r → J Er (ex P fu ss r K) (k (.nx s)) Q) (hk2 : ∀ v, J Er (.rt (f v)) (k (.rt v)) Q) : J Er (ex P fu (.cons (.whl c b) ss) r K) ((whileM tc B fu s0).bind k) Q := by
  rw [ex_cons]
  unfold evalS
  have hh : ∀ (n : Nat) (s : σ) (r : Rho), E s r → J Er (whlGo (fun r => evalE P c r) (fun r => evalSs P fu b r) n r) (whileM tc B n s) (pA E f) := by
    intro n
    induction n with
    | zero => intro s r _; exact trivial
    | succ n ih =>
      intro s r hE
      obtain ⟨c1, c2⟩ := hc s r hE
      unfold whileM whlGo
      cases q : tc s with
      | st => exact trivial
      | er m => exact absurd q (c2 m)
      | ok v =>
        obtain ⟨o, e1, g1⟩ := c1 v q
        simp only [e1, RE.tst, g1]
        cases v with
        | false => exact ⟨r, rfl, hE⟩
        | true =>
          have h2 := hB s r hE
          rw [ex_nx] at h2
          simp only [M.bind]
          cases e : B s with
          | st => exact trivial
          | ok s2 =>
            rw [e] at h2
            cases s2 with
            | nx s => obtain ⟨r3, h3, h4⟩ := h2; simp only [h3]; exact ih s r3 h4
            | ct s => obtain ⟨r3, h3, h4⟩ := h2; simp only [h3]; exact ih s r3 h4
            | bk s => obtain ⟨r3, h3, h4⟩ := h2; simp only [h3]; exact ⟨r3, rfl, h4⟩
            | rt v => simp only [show evalSs P fu b r = .rt (f v) from h2]; exact (rfl : RS.rt (f v) = .rt (f v))
          | er m =>
            rw [e] at h2
            obtain ⟨r3, h3, h4⟩ := h2
            simp only [h3]
            exact ⟨r3, rfl, h4⟩
  have hh := hh fu s0 r h0
  cases e : whileM tc B fu s0 with
  | st => exact trivial
  | ok s =>
    rw [e] at hh
    cases s with
    | nx s => obtain ⟨r3, h3, h4⟩ := hh; rw [h3]; exact hk s r3 h4
    | rt v => rw [show whlGo _ _ _ _ = RS.rt (f v) from hh]; exact hk2 v
  | er n =>
    rw [e] at hh
    obtain ⟨r3, h3, h4⟩ := hh
    rw [h3]
    exact ⟨r3, rfl, h4⟩
/-- try: one except clause -/
theorem J_try {b h : ISs} {n : Nat} {E1 : Rho → Prop} {tb : M γ} {Q1 : γ → RS → Prop} {k : M γ → M β} (h1 : J E1 (ex P fu b r .nx) tb Q1) (hk : ∀ v X, tb = .ok v → Q1 v X → J Er (thenS X fun r => ex P fu ss r K) (k (.ok v)) Q) (hs : k .st = .st) (hq : ∀ v X, Q1 v X → ∀ j r, X ≠ .er j r)
    (he : ∀ j r, tb = .er j → E1 r → J Er (if P.sub j n then ex P fu h r fun r => ex P fu ss r K else .er j r) (k (.er j)) Q) : J Er (ex P fu (.cons (.try_ b (.cons n h .nil)) ss) r K) (k tb) Q := by
  rw [ex_cons]
  unfold evalS
  rw [ex_nx] at h1
  cases q : tb with
  | st => rw [hs]; exact trivial
  | ok v =>
    rw [q] at h1
    have h1' : Q1 v (evalSs P fu b r) := h1
    have h2 := hk v _ q h1'
    cases e : evalSs P fu b r with
    | er j r1 => rw [e] at h1'; exact absurd rfl (hq v _ h1' j r1)
    | nx r1 => rw [e] at h2; exact h2
    | rt d => rw [e] at h2; exact h2
    | bk r1 => rw [e] at h2; exact h2
    | ct r1 => rw [e] at h2; exact h2
    | stuck => rw [e] at h2; exact h2
  | er j =>
    rw [q] at h1
    obtain ⟨r1, h2, h3⟩ := h1
    have := he j r1 q h3
    rw [h2]
    simp only
    rw [evalH]
    split
    · rename_i hs
      rw [if_pos hs] at this
      exact this
    · rename_i hs
      rw [if_neg hs] at this
      rw [evalH]
      exact this
theorem pR_er {ρ : Type} {f : ρ → D} : ∀ v X, pR f v X → ∀ j r, X ≠ .er j r := fun v X h j r e => by rw [e] at h; cases h
theorem pN_er {E : σ → Rho → Prop} : ∀ v X, pN E v X → ∀ j r, X ≠ .er j r := fun v X ⟨r1, h, _⟩ j r e => by rw [e] at h; cases h
theorem pO_er {E : σ → Rho → Prop} {f : ρ → D} : ∀ v X, pO E f v X → ∀ j r, X ≠ .er j r := fun v X h j r e => by
  cases v with
  | rt v => rw [e] at h; cases h
  | nx s => obtain ⟨_, h, _⟩ := h; rw [e] at h; cases h
  | ct s => obtain ⟨_, h, _⟩ := h; rw [e] at h; cases h
  | bk s => obtain ⟨_, h, _⟩ := h; rw [e] at h; cases h
end
/-! ## defs -/
/-- a def's run says what t says -/
def JF {ρ : Type} (X : R) (t : M ρ) (f : ρ → D) : Prop := match t with
  | .ok v => X = .ok (f v)
  | .er k => X = .err k
  | .st => True
/-- the def's end: return, or None -/
def pF {ρ : Type} (f : ρ → D) : ρ → RS → Prop := fun v X => X = .rt (f v) ∨ ((∃ r, X = .nx r) ∧ f v = .non)
theorem JF_run {ρ : Type} {n : Nat} {b : ISs} {ds : List D} {r : Rho} {t : M ρ} {f : ρ → D} (hr : ds.map some ++ List.replicate (n - ds.length) none = r) (h : J (fun _ => True) (ex P fu b r .nx) t (pF f)) : JF (runF P fu n b ds) t f := by
  unfold runF
  rw [hr]
  rw [ex_nx] at h
  cases t with
  | st => exact trivial
  | ok v =>
    rcases h with h | ⟨⟨r', h⟩, h2⟩
    · rw [h]; exact (rfl : R.ok (f v) = .ok (f v))
    · rw [h]; exact congrArg R.ok h2.symm
  | er k =>
    obtain ⟨r', h, _⟩ := h
    rw [h]
    exact (rfl : R.err k = .err k)
theorem JI_run {ρ : Type} {c n : Nat} {b : ISs} {ds : List D} {r : Rho} {t : M ρ} {ns : List Nat} {us : ρ → List D} (hr : some (.ins true c [] []) :: (ds.map some ++ List.replicate (n - 1 - ds.length) none) = r) (h : J (fun _ => True) (ex P fu b r .nx) t (pN fun v r => getS r 0 = some (.ins true c ns (us v)))) : JF (runI P fu c n b ds) t (fun v => .ins true c ns (us v)) := by
  unfold runI
  rw [hr]
  rw [ex_nx] at h
  cases t with
  | st => exact trivial
  | ok v =>
    obtain ⟨r', h, h2⟩ := h
    rw [h]
    simp only [h2]
    exact (rfl : R.ok (D.ins true c ns (us v)) = _)
  | er k =>
    obtain ⟨r', h, _⟩ := h
    rw [h]
    exact (rfl : R.err k = .err k)
theorem JF.ok {ρ : Type} {X : R} {t : M ρ} {f : ρ → D} {v : ρ} (h : JF X t f) (e : t = .ok v) : X = .ok (f v) := by rw [e] at h; exact h
theorem JF.er {ρ : Type} {X : R} {t : M ρ} {f : ρ → D} {k : Nat} (h : JF X t f) (e : t = .er k) : X = .err k := by rw [e] at h; exact h
theorem JF.get {ρ : Type} {X : R} {t : M ρ} {f : ρ → D} {v : ρ} (h : JF X t f) (e : t.get = some v) : X = .ok (f v) := by
  cases t with
  | ok a => cases e; exact h
  | er k => cases e
  | st => cases e
theorem evX_fn {α : Type} {g : Nat} {es : IEs} {r r1 : Rho} {ds : List D} {t : M α} {fz : α → D} (h : PL P es r ds r1) (q : JF (P.fn g ds) t fz) : EvX P (.call g es) r t fz r1 := evX_call h (fun _ e => q.ok e) fun _ e => q.er e
theorem evX_mk {α : Type} {g : Nat} {es : IEs} {r r1 : Rho} {ds : List D} {t : M α} {fz : α → D} (h : PL P es r ds r1) (q : JF (P.mkI g ds) t fz) : EvX P (.new g es) r t fz r1 := evX_new h (fun _ e => q.ok e) fun _ e => q.er e
end
end GF
/-! typed data in the language -/
namespace GF
open PySem

abbrev Tx := List Char
def strT (s : Tx) : Str := ⟨(s.map Char.toNat).toArray⟩
def encT (s : Tx) : D := .str (strT s)
def encL {α : Type} (o : Bool) (f : α → D) (l : List α) : D := .lst o (l.map f)
def encS {α : Type} (f : α → D) (l : List α) : D := .tup (l.map f)
def encU (_ : Unit) : D := .non
def encOp {α : Type} (f : α → D) : Option α → D
  | none => .non
  | some a => f a
def enc1 {α : Type} (f : α → D) (p : α) : D := .tup [f p]
def enc2 {α β : Type} (f : α → D) (g : β → D) (p : α × β) : D := .tup [f p.1, g p.2]
def enc3 {α β γ : Type} (f : α → D) (g : β → D) (h : γ → D) (p : α × β × γ) : D := .tup [f p.1, g p.2.1, h p.2.2]
def enc4 {α β γ δ : Type} (f : α → D) (g : β → D) (h : γ → D) (i : δ → D) (p : α × β × γ × δ) : D := .tup [f p.1, g p.2.1, h p.2.2.1, i p.2.2.2]

/-- is it among them -/
def memB {α : Type} [DecidableEq α] (a : α) (l : List α) : Bool := l.any fun b => decide (b = a)
theorem memB_iff {α : Type} [DecidableEq α] {a : α} {l : List α} : memB a l = true ↔ a ∈ l := by
  unfold memB
  rw [List.any_eq_true]
  constructor
  · rintro ⟨b, h, e⟩; rw [decide_eq_true_eq] at e; subst e; exact h
  · intro h; exact ⟨a, h, decide_eq_true rfl⟩
/-- plain data, equal if it is -/
structure PlT {α : Type} (f : α → D) (k : Nat) : Prop where
  pl : ∀ a, ∃ p, (f a).py = some p ∧ p.canLay0 = true ∧ p.depth ≤ k
  eq : ∀ a b p q, (f a).py = some p → (f b).py = some q → (PyData.eqv p q = true ↔ a = b)
theorem PlT.int {k : Nat} : PlT D.int k where
  pl := fun a => ⟨.int a, by simp [D.py], by simp [PyData.canLay0], by simp [PyData.depth]⟩
  eq := fun a b p q h1 h2 => by
    simp only [D.py, Option.some.injEq] at h1 h2
    subst h1 h2
    simp [PyData.eqv]
theorem PlT.bl {k : Nat} : PlT D.bl k where
  pl := fun a => ⟨.bool a, by simp [D.py], by simp [PyData.canLay0], by simp [PyData.depth]⟩
  eq := fun a b p q h1 h2 => by
    simp only [D.py, Option.some.injEq] at h1 h2
    subst h1 h2
    simp [PyData.eqv]
theorem strT_inj {a b : Tx} : strT a = strT b ↔ a = b := by
  constructor
  · intro h
    unfold strT at h
    have h2 : (a.map Char.toNat).toArray = (b.map Char.toNat).toArray := Str.mk.inj h
    have h3 : a.map Char.toNat = b.map Char.toNat := by simpa using h2
    exact (List.map_inj_right (f := Char.toNat) (fun x y h => by
      have : x.val.toNat = y.val.toNat := h
      exact Char.ext (UInt32.toNat_inj.mp this))).mp h3
  · rintro rfl; rfl
theorem strT_ok (a : Tx) : PyData.strOk (strT a) = true := by
  unfold PyData.strOk strT
  rw [Array.all_eq_true]
  intro i h
  simp only [List.getElem_toArray, List.getElem_map, decide_eq_true_eq]
  have := (a[i]'(by simpa using h)).valid
  have h2 : Nat.isValidChar (a[i]'(by simpa using h)).toNat := this
  rcases h2 with h2 | h2 <;> omega
theorem PlT.str {k : Nat} : PlT encT k where
  pl := fun a => ⟨.str (strT a), by simp [encT, D.py], by simp [PyData.canLay0, strT_ok], by simp [PyData.depth]⟩
  eq := fun a b p q h1 h2 => by
    simp only [encT, D.py, Option.some.injEq] at h1 h2
    subst h1 h2
    simp [PyData.eqv, strT_inj]
theorem PlT.unit {k : Nat} : PlT encU k where
  pl := fun a => ⟨.none, by simp [encU, D.py], by simp [PyData.canLay0], by simp [PyData.depth]⟩
  eq := fun a b p q h1 h2 => by
    simp only [encU, D.py, Option.some.injEq] at h1 h2
    subst h1 h2
    simp [PyData.eqv]
theorem PlT.mono {α : Type} {f : α → D} {j k : Nat} (h : PlT f j) (hk : j ≤ k) : PlT f k where
  pl := fun a => by obtain ⟨p, h1, h2, h3⟩ := h.pl a; exact ⟨p, h1, h2, Nat.le_trans h3 hk⟩
  eq := h.eq
section
variable {α β γ δ : Type} {f : α → D} {g : β → D} {h : γ → D} {i : δ → D} {k : Nat}
theorem PlT.list_pl (H : PlT f k) : ∀ l : List α, ∃ ps, pysD (l.map f) = some ps ∧ PyData.canLayAll0 ps = true ∧ PyData.depthAll ps ≤ k
  | [] => ⟨[], by simp [pysD], by simp [PyData.canLayAll0], by simp [PyData.depthAll]⟩
  | a :: l => by
    obtain ⟨p, h1, h2, h3⟩ := H.pl a
    obtain ⟨ps, h4, h5, h6⟩ := PlT.list_pl H l
    exact ⟨p :: ps, by simp [pysD, h1, h4], by simp [PyData.canLayAll0, h2, h5], by simp [PyData.depthAll]; omega⟩
theorem PlT.list_eq (H : PlT f k) : ∀ (l m : List α) (ps qs : List PyData), pysD (l.map f) = some ps → pysD (m.map f) = some qs → (PyData.eqvAll ps qs = true ↔ l = m)
  | [], [], ps, qs, h1, h2 => by
    simp only [List.map_nil, pysD, Option.some.injEq] at h1 h2
    subst h1 h2
    simp [PyData.eqvAll]
  | [], b :: m, ps, qs, h1, h2 => by
    simp only [List.map_nil, pysD, Option.some.injEq] at h1
    subst h1
    obtain ⟨q, e1, _⟩ := H.pl b
    obtain ⟨qs', e2, _⟩ := H.list_pl m
    simp only [List.map_cons, pysD, e1, e2, Option.some.injEq] at h2
    subst h2
    simp [PyData.eqvAll]
  | a :: l, [], ps, qs, h1, h2 => by
    simp only [List.map_nil, pysD, Option.some.injEq] at h2
    subst h2
    obtain ⟨q, e1, _⟩ := H.pl a
    obtain ⟨qs', e2, _⟩ := H.list_pl l
    simp only [List.map_cons, pysD, e1, e2, Option.some.injEq] at h1
    subst h1
    simp [PyData.eqvAll]
  | a :: l, b :: m, ps, qs, h1, h2 => by
    obtain ⟨p, e1, _⟩ := H.pl a
    obtain ⟨ps', e2, _⟩ := H.list_pl l
    obtain ⟨q, e3, _⟩ := H.pl b
    obtain ⟨qs', e4, _⟩ := H.list_pl m
    simp only [List.map_cons, pysD, e1, e2, e3, e4, Option.some.injEq] at h1 h2
    subst h1 h2
    simp only [PyData.eqvAll, Bool.and_eq_true, List.cons.injEq]
    rw [H.eq a b p q e1 e3, PlT.list_eq H l m ps' qs' e2 e4]
theorem PlT.tups (H : PlT f k) : PlT (encS f) (k + 1) where
  pl := fun l => by
    obtain ⟨ps, h1, h2, h3⟩ := H.list_pl l
    exact ⟨.tuple ps, by simp [encS, D.py, h1], by simpa [PyData.canLay0] using h2, by simp [PyData.depth]; omega⟩
  eq := fun l m p q h1 h2 => by
    obtain ⟨ps, e1, _⟩ := H.list_pl l
    obtain ⟨qs, e2, _⟩ := H.list_pl m
    simp only [encS, D.py, e1, e2, Option.some.injEq] at h1 h2
    subst h1 h2
    simp only [PyData.eqv]
    exact H.list_eq l m ps qs e1 e2
theorem PlT.lst (H : PlT f k) {o : Bool} : PlT (encL o f) (k + 1) where
  pl := fun l => by
    obtain ⟨ps, h1, h2, h3⟩ := H.list_pl l
    exact ⟨.list ps, by simp [encL, D.py, h1], by simpa [PyData.canLay0] using h2, by simp [PyData.depth]; omega⟩
  eq := fun l m p q h1 h2 => by
    obtain ⟨ps, e1, _⟩ := H.list_pl l
    obtain ⟨qs, e2, _⟩ := H.list_pl m
    simp only [encL, D.py, e1, e2, Option.some.injEq] at h1 h2
    subst h1 h2
    simp only [PyData.eqv]
    exact H.list_eq l m ps qs e1 e2
theorem PlT.t2 (F : PlT f k) (G : PlT g k) : PlT (enc2 f g) (k + 1) where
  pl := fun a => by
    obtain ⟨p, h1, h2, h3⟩ := F.pl a.1
    obtain ⟨q, h4, h5, h6⟩ := G.pl a.2
    exact ⟨.tuple [p, q], by simp [enc2, D.py, pysD, h1, h4], by simp [PyData.canLay0, PyData.canLayAll0, h2, h5], by simp [PyData.depth, PyData.depthAll]; omega⟩
  eq := fun a b p q e1 e2 => by
    obtain ⟨p1, h1, _⟩ := F.pl a.1
    obtain ⟨q1, h4, _⟩ := G.pl a.2
    obtain ⟨p2, h1', _⟩ := F.pl b.1
    obtain ⟨q2, h4', _⟩ := G.pl b.2
    simp only [enc2, D.py, pysD, h1, h4, h1', h4', Option.some.injEq] at e1 e2
    subst e1 e2
    simp only [PyData.eqv, PyData.eqvAll, Bool.and_true, Bool.and_eq_true, F.eq _ _ _ _ h1 h1', G.eq _ _ _ _ h4 h4']
    exact ⟨fun ⟨x, y⟩ => Prod.ext x y, fun x => by subst x; exact ⟨rfl, rfl⟩⟩
theorem PlT.t3 (F : PlT f k) (G : PlT g k) (H : PlT h k) : PlT (enc3 f g h) (k + 1) where
  pl := fun a => by
    obtain ⟨p, h1, h2, h3⟩ := F.pl a.1
    obtain ⟨q, h4, h5, h6⟩ := G.pl a.2.1
    obtain ⟨r, h7, h8, h9⟩ := H.pl a.2.2
    exact ⟨.tuple [p, q, r], by simp [enc3, D.py, pysD, h1, h4, h7], by simp [PyData.canLay0, PyData.canLayAll0, h2, h5, h8], by simp [PyData.depth, PyData.depthAll]; omega⟩
  eq := fun a b p q e1 e2 => by
    obtain ⟨p1, h1, _⟩ := F.pl a.1
    obtain ⟨q1, h4, _⟩ := G.pl a.2.1
    obtain ⟨r1, h7, _⟩ := H.pl a.2.2
    obtain ⟨p2, h1', _⟩ := F.pl b.1
    obtain ⟨q2, h4', _⟩ := G.pl b.2.1
    obtain ⟨r2, h7', _⟩ := H.pl b.2.2
    simp only [enc3, D.py, pysD, h1, h4, h7, h1', h4', h7', Option.some.injEq] at e1 e2
    subst e1 e2
    simp only [PyData.eqv, PyData.eqvAll, Bool.and_true, Bool.and_eq_true, F.eq _ _ _ _ h1 h1', G.eq _ _ _ _ h4 h4', H.eq _ _ _ _ h7 h7']
    exact ⟨fun ⟨x, y, z⟩ => Prod.ext x (Prod.ext y z), fun x => by subst x; exact ⟨rfl, rfl, rfl⟩⟩
end
section
variable {α β γ : Type} {f : α → D} {g : β → D} {k : Nat}
theorem PlT.shaped (H : PlT f k) (hk : k ≤ 64) (a : α) : ∃ p, (f a).py = some p ∧ SeqAt.shaped p = true := by
  obtain ⟨p, h1, h2, h3⟩ := H.pl a
  exact ⟨p, h1, by simp [SeqAt.shaped, h2]; omega⟩
theorem eq_T [DecidableEq α] (H : PlT f k) (hk : k ≤ 64) (a b : α) : eqD (f a) (f b) = some (decide (a = b)) := by
  obtain ⟨p, h1, h2⟩ := H.shaped hk a
  obtain ⟨q, h3, h4⟩ := H.shaped hk b
  unfold eqD
  simp only [h1, h3, h2, h4, Bool.and_self, if_true]
  congr 1
  rw [Bool.eq_iff_iff, decide_eq_true_eq]
  exact H.eq a b p q h1 h3
theorem op_eq [DecidableEq α] (H : PlT f k) (hk : k ≤ 64) (a b : α) : opD .eq (f a) (f b) = some (.bl (decide (a = b))) := by
  simp only [opD, eq_T H hk, Option.map_some]
theorem op_ne [DecidableEq α] (H : PlT f k) (hk : k ≤ 64) (a b : α) : opD .ne (f a) (f b) = some (.bl (!decide (a = b))) := by
  simp only [opD, eq_T H hk, Option.map_some]
theorem in_T [DecidableEq α] (H : PlT f k) (hk : k + 1 ≤ 64) (a : α) (l : List α) : inD (f a) (l.map f) = some (memB a l) := by
  obtain ⟨p, h1, h2⟩ := H.shaped (by omega) a
  obtain ⟨ps, h3, h4, h5⟩ := H.list_pl l
  have h6 : SeqAt.shaped (.list ps) = true := by simp [SeqAt.shaped, PyData.canLay0, h4, PyData.depth]; omega
  unfold inD
  simp only [h1, h3, h2, h6, Bool.and_self, if_true]
  congr 1
  rw [Bool.eq_iff_iff, memB_iff, List.any_eq_true]
  clear h4 h5 h6
  induction l generalizing ps with
  | nil =>
    simp only [List.map_nil, pysD, Option.some.injEq] at h3
    subst h3
    simp
  | cons b l ih =>
    obtain ⟨q, e1, _⟩ := H.pl b
    obtain ⟨qs, e2, _⟩ := H.list_pl l
    simp only [List.map_cons, pysD, e1, e2, Option.some.injEq] at h3
    subst h3
    have := ih qs e2
    simp only [List.mem_cons, exists_eq_or_imp, this, H.eq b a q p e1 h1]
    constructor
    · rintro (h | h)
      · exact .inl h.symm
      · exact .inr h
    · rintro (h | h)
      · exact .inl h.symm
      · exact .inr h
theorem op_in_tup [DecidableEq α] (H : PlT f k) (hk : k + 1 ≤ 64) (hs : ∀ a s, f a = .str s → ∀ l : List D, isinD (f a) (.tup l) = inD (f a) l) (a : α) (l : List α) : opD .isin (f a) (.tup (l.map f)) = some (.bl (memB a l)) := by
  have : isinD (f a) (.tup (l.map f)) = inD (f a) (l.map f) := by
    cases f a <;> rfl
  simp only [opD, this, in_T H hk, Option.map_some]
theorem op_in_s [DecidableEq α] (H : PlT f k) (hk : k + 1 ≤ 64) (a : α) (l : List α) : opD .isin (f a) (encS f l) = some (.bl (memB a l)) := by
  have : isinD (f a) (encS f l) = inD (f a) (l.map f) := by
    unfold encS; cases f a <;> rfl
  simp only [opD, this, in_T H hk, Option.map_some]
theorem op_in_l [DecidableEq α] {o : Bool} (H : PlT f k) (hk : k + 1 ≤ 64) (a : α) (l : List α) : opD .isin (f a) (encL o f l) = some (.bl (memB a l)) := by
  have : isinD (f a) (encL o f l) = inD (f a) (l.map f) := by
    unfold encL; cases f a <;> rfl
  simp only [opD, this, in_T H hk, Option.map_some]
theorem op_notin {a b : D} {v : Bool} (h : opD .isin a b = some (.bl v)) : opD .notin a b = some (.bl (!v)) := by
  simp only [opD, Option.map_eq_some_iff] at h ⊢
  obtain ⟨x, h1, h2⟩ := h
  cases h2
  exact ⟨_, h1, rfl⟩
/-! numbers -/
theorem op_add (a b : Int) : opD .add (.int a) (.int b) = some (.int (a + b)) := rfl
theorem op_sub (a b : Int) : opD .sub (.int a) (.int b) = some (.int (a - b)) := rfl
theorem op_mul {a b : Int} (h : (smallM a || smallM b) = true) : opD .mul (.int a) (.int b) = some (.int (a * b)) := by
  simp only [opD, mulD, h, if_true]
theorem op_fdiv {a b : Int} (h : 0 < b ∧ b < 1073741824) : opD .fdiv (.int a) (.int b) = some (.int (a / b)) := by
  simp only [opD, fdivD, h, and_self, if_true]
theorem op_mod {a b : Int} (h : 0 < b) : opD .mod (.int a) (.int b) = some (.int (a % b)) := by
  simp only [opD, modD, h, if_true]
theorem op_lt (a b : Int) : opD .lt (.int a) (.int b) = some (.bl (decide (a < b))) := rfl
theorem op_le (a b : Int) : opD .le (.int a) (.int b) = some (.bl (decide (a ≤ b))) := rfl
theorem op_gt (a b : Int) : opD .gt (.int a) (.int b) = some (.bl (decide (b < a))) := rfl
theorem op_ge (a b : Int) : opD .ge (.int a) (.int b) = some (.bl (decide (b ≤ a))) := rfl
theorem bi_absI (a : Int) : biD .abs [.int a] = some (.int (if a < 0 then -a else a)) := rfl
theorem bi_minI (a b : Int) : biD .min [.int a, .int b] = some (.int (if b < a then b else a)) := rfl
theorem bi_maxI (a b : Int) : biD .max [.int a, .int b] = some (.int (if b > a then b else a)) := rfl
theorem bi_boolI (b : Bool) : biD .int [.bl b] = some (.int (if b then 1 else 0)) := rfl
/-! rows -/
theorem bi_len_s (l : List α) : biD .len [encS f l] = some (.int (l.length : Int)) := by simp [biD, lenB, encS]
theorem bi_len_l {o : Bool} (l : List α) : biD .len [encL o f l] = some (.int (l.length : Int)) := by simp [biD, lenB, encL]
theorem strT_len (s : Tx) : (strT s).length = s.length := by simp [strT, Str.length]
theorem bi_len_t {s : Tx} (h : s.length ≤ sizeLine) : biD .len [encT s] = some (.int (s.length : Int)) := by
  simp only [biD, lenB, encT, strT_len, h, if_true]
theorem bi_tuple_l {o : Bool} (l : List α) : biD .tuple [encL o f l] = some (encS f l) := rfl
theorem bi_tuple_s (l : List α) : biD .tuple [encS f l] = some (encS f l) := rfl
theorem bi_list_l {o : Bool} (l : List α) : biD .list [encL o f l] = some (encL true f l) := rfl
theorem bi_list_s (l : List α) : biD .list [encS f l] = some (encL true f l) := rfl
theorem boolsD_id : ∀ l : List Bool, boolsD (l.map .bl) = some l
  | [] => rfl
  | a :: l => by simp [boolsD, boolsD_id l]
theorem tb_all {o : Bool} (l : List Bool) : biD .all [encL o .bl l] = some (.bl (l.all id)) := by simp only [biD, allB, encL, boolsD_id]
theorem tb_any {o : Bool} (l : List Bool) : biD .any [encL o .bl l] = some (.bl (l.any id)) := by simp only [biD, anyB, encL, boolsD_id]
theorem intsD_id : ∀ l : List Int, intsD (l.map .int) = some l
  | [] => rfl
  | a :: l => by simp [intsD, intsD_id l]
theorem tb_sum {o : Bool} (l : List Int) : biD .sum [encL o .int l] = some (.int l.sum) := by simp only [biD, sumB, encL, intsD_id]
/-- an item by its place -/
abbrev atT {α : Type} (l : List α) (i : Int) : Option α := L2.atI l i
theorem atI_mapG {β : Type} (f : α → β) {l : List α} {i : Int} {v : α} (h : atT l i = some v) : L2.atI (l.map f) i = some (f v) := by
  unfold atT L2.atI at h
  unfold L2.atI
  rw [List.length_map]
  cases e : L2.ixN l.length i with
  | none => rw [e] at h; cases h
  | some j =>
    rw [e] at h
    simp only [Option.bind_some, List.getElem?_map] at h ⊢
    rw [h]
    rfl
theorem atI_map {l : List α} {i : Int} {v : α} (h : atT l i = some v) : L2.atI (l.map f) i = some (f v) := atI_mapG f h
theorem ix_s {l : List α} {i : Int} {v : α} (h : atT l i = some v) : ixD (encS f l) (.int i) = some (f v) := by
  simp only [encS, ixD]; exact atI_map h
theorem ix_l {o : Bool} {l : List α} {i : Int} {v : α} (h : atT l i = some v) : ixD (encL o f l) (.int i) = some (f v) := by
  simp only [encL, ixD]; exact atI_map h
/-- a sign by its place -/
def atS (s : Tx) (i : Int) : Option Tx := if s.length ≤ sizeLine then (L2.atI s i).map fun c => [c] else none
theorem ix_t {s : Tx} {i : Int} {v : Tx} (h : atS s i = some v) : ixD (encT s) (.int i) = some (encT v) := by
  unfold atS at h
  split at h
  · rename_i hl
    rw [Option.map_eq_some_iff] at h
    obtain ⟨c, h1, rfl⟩ := h
    simp only [encT, ixD, strT_len, hl, if_true]
    have e : (strT s).cps.toList = s.map Char.toNat := by simp [strT]
    rw [e]
    rw [show L2.atI (List.map Char.toNat s) i = some c.toNat from atI_mapG Char.toNat h1]
    rfl
  · cases h
end
end GF
namespace GF
open PySem
theorem str_lit (s : String) : D.str s = encT s.toList := congrArg D.str (Str.ofString_eq_toList s)
/-- a slice -/
def cutT {α : Type} (l : List α) (lo hi : Option Int) : List α := (l.drop (HT.sIx l.length 0 lo)).take (HT.sIx l.length l.length hi - HT.sIx l.length 0 lo)
section
variable {α β : Type} {f : α → D}
theorem cutD_map (l : List α) (lo hi : Option Int) : cutD (l.map f) lo hi = (cutT l lo hi).map f := by
  unfold cutD cutT
  rw [List.length_map, List.map_take, List.map_drop]
theorem sl_s (l : List α) (lo hi : Option Int) : slD (encS f l) lo hi = some (encS f (cutT l lo hi)) := by
  simp only [slD, encS, cutD_map]
theorem sl_l {o : Bool} (l : List α) (lo hi : Option Int) : slD (encL o f l) lo hi = some (encL true f (cutT l lo hi)) := by
  simp only [slD, encL, cutD_map]
theorem sl_t {s : Tx} (h : s.length ≤ sizeLine) (lo hi : Option Int) : slD (encT s) lo hi = some (encT (cutT s lo hi)) := by
  simp only [slD, encT, strT_len, h, if_true]
  have e : L2.cutS (strT s) lo hi = strT (cutT s lo hi) := by
    unfold L2.cutS cutT strT
    simp [Str.length, List.map_take, List.map_drop]
  rw [e]
theorem cutT_to (l : List α) (k : Nat) : cutT l none (some (k : Int)) = l.take k := by
  unfold cutT
  rw [HT.sIx_none, HT.sIx_nat, List.drop_zero, Nat.sub_zero]
  by_cases h : k ≤ l.length
  · rw [Nat.min_eq_left h]
  · rw [Nat.min_eq_right (by omega), List.take_of_length_le (Nat.le_refl _), List.take_of_length_le (by omega)]
theorem cutT_from (l : List α) (k : Nat) : cutT l (some (k : Int)) none = l.drop k := by
  unfold cutT
  rw [HT.sIx_none, HT.sIx_nat]
  by_cases h : k ≤ l.length
  · rw [Nat.min_eq_left h, List.take_of_length_le (by simp)]
  · rw [Nat.min_eq_right (by omega), List.drop_of_length_le (Nat.le_refl _), List.drop_of_length_le (by omega)]; simp
theorem op_add_s {a b : List α} (h : a.length + b.length ≤ sizeLine) : opD .add (encS f a) (encS f b) = some (encS f (a ++ b)) := by
  simp only [opD, addD, encS, List.length_map, h, if_true, List.map_append]
theorem op_add_l {o p : Bool} {a b : List α} (h : a.length + b.length ≤ sizeLine) : opD .add (encL o f a) (encL p f b) = some (encL true f (a ++ b)) := by
  simp only [opD, addD, encL, List.length_map, h, if_true, List.map_append]
theorem strT_app (a b : Tx) : strT a ++ strT b = strT (a ++ b) := by
  show Str.append _ _ = _
  unfold Str.append strT
  simp
theorem op_add_t {a b : Tx} (h : a.length + b.length ≤ sizeLine) : opD .add (encT a) (encT b) = some (encT (a ++ b)) := by
  simp only [opD, addD, encT, strT_len, h, if_true, strT_app]
theorem op_mul_s {a : List α} {k : Int} (h : a.length ≤ 1000 ∧ 1 ≤ k ∧ k ≤ 1000 ∧ a.isEmpty = false) : opD .mul (encS f a) (.int k) = some (encS f (List.replicate k.toNat a).flatten) := by
  obtain ⟨h1, h2, h3, h4⟩ := h
  have h5 : (a.map f).isEmpty = false := by cases a <;> simp_all
  simp [opD, mulD, encS, h1, h2, h3, h5, List.map_flatten]
/-! ranges -/
def rng (n : Int) : List Int := (List.range n.toNat).map fun (k : Nat) => ((k : Nat) : Int)
def rng2 (a b : Int) : List Int := (List.range (b - a).toNat).map fun (k : Nat) => a + ((k : Nat) : Int)
theorem rangeD_1 {n : Int} (h : small62 n = true) : rangeD [.int n] = some ((rng n).map .int) := by
  simp only [rangeD, h, if_true, rng, List.map_map]
  congr 1
  apply List.map_congr_left
  intro k _
  simp
theorem rangeD_2 {a b : Int} (h : (small62 a && small62 b) = true) : rangeD [.int a, .int b] = some ((rng2 a b).map .int) := by
  simp only [rangeD, h, if_true, rng2, List.map_map]
  congr 1
/-! join -/
def joinT (a : Tx) : List Tx → Tx
  | [] => []
  | [p] => p
  | p :: q :: r => p ++ (a ++ joinT a (q :: r))
theorem strsD_T : ∀ l : List Tx, strsD (l.map encT) = some (l.map strT)
  | [] => rfl
  | a :: l => by simp [strsD, encT, strsD_T l]
theorem join_str (a : Tx) : ∀ ys : List Tx, Str.join (strT a) (ys.map strT) = strT (joinT a ys)
  | [] => rfl
  | [_] => rfl
  | x :: z :: r => by
    show strT x ++ strT a ++ Str.join (strT a) ((z :: r).map strT) = _
    rw [join_str a (z :: r), strT_app, strT_app]
    simp [joinT]
theorem tm_join {a : Tx} {ys : List Tx} {o : Bool} (h : (ys.map (·.length)).sum + ys.length * a.length ≤ 16777216) : bmD .join (encT a) [encL o encT ys] = some (encT (joinT a ys)) := by
  have e : ((ys.map strT).map (·.length)).sum = (ys.map (·.length)).sum := by
    rw [List.map_map]
    congr 1
    apply List.map_congr_left
    intro x _
    exact strT_len x
  have h2 : ((ys.map strT).map (·.length)).sum + (ys.map strT).length * (strT a).length ≤ 16777216 := by
    rw [e, strT_len, List.length_map]; exact h
  show joinM (.str (strT a)) [.lst o (ys.map encT)] = _
  unfold joinM
  simp only [strsD_T]
  rw [if_pos h2, TL.join_eq, join_str]
  rfl
/-! rows walked -/
theorem it_s (l : List α) : itemsD (encS f l) = some (l.map f) := rfl
theorem it_l {o : Bool} (l : List α) : itemsD (encL o f l) = some (l.map f) := rfl
def sgn (c : Char) : D := encT [c]
theorem it_t (s : Tx) : itemsD (encT s) = some (s.map sgn) := by
  simp only [itemsD, encT, strT, sgn, List.toList_toArray, List.map_map, Option.some.injEq]
  apply List.map_congr_left
  intro c _
  rfl
theorem zipD_map {g : β → D} : ∀ (a : List α) (b : List β), zipD (a.map f) (b.map g) = (a.zip b).map (enc2 f g)
  | [], _ => by cases ‹List β› <;> rfl
  | _ :: _, [] => rfl
  | x :: a, y :: b => by simp [zipD, zipD_map a b, enc2]
theorem zip_s {g : β → D} (a : List α) (b : List β) : zipK [encS f a, encS g b] = some ((a.zip b).map (enc2 f g)) := by
  simp only [zipK, encS, zipD_map]
theorem zip_l {g : β → D} {o p : Bool} (a : List α) (b : List β) : zipK [encL o f a, encL p g b] = some ((a.zip b).map (enc2 f g)) := by
  simp only [zipK, encL, zipD_map]
def enumT {α : Type} : List α → Nat → List (Int × α)
  | [], _ => []
  | x :: xs, k => ((k : Int), x) :: enumT xs (k + 1)
theorem enumD_map : ∀ (l : List α) (k : Nat), enumD (l.map f) k = (enumT l k).map (enc2 .int f)
  | [], _ => rfl
  | x :: l, k => by simp [enumD, enumT, enumD_map l (k + 1), enc2]
theorem enum_l {o : Bool} (l : List α) : enumK [encL o f l] = some ((enumT l 0).map (enc2 .int f)) := by
  simp only [enumK, encL, enumD_map]
/-! None -/
theorem is_none (o : Option α) (h : ∀ a, f a ≠ .non) : opD .is_ (encOp f o) .non = some (.bl o.isNone) := by
  cases o with
  | none => rfl
  | some a =>
    simp only [encOp, opD, Option.isNone]
    have := h a
    cases e : f a <;> first | exact absurd e this | rfl
theorem isnot_none (o : Option α) (h : ∀ a, f a ≠ .non) : opD .isnot (encOp f o) .non = some (.bl o.isSome) := by
  cases o with
  | none => rfl
  | some a =>
    simp only [encOp, opD, Option.isSome]
    have := h a
    cases e : f a <;> first | exact absurd e this | rfl
theorem PlT.op {k : Nat} (H : PlT f k) (h : ∀ a, f a ≠ .non) : PlT (encOp f) k where
  pl := fun a => by
    cases a with
    | none => exact ⟨.none, by simp [encOp, D.py], by simp [PyData.canLay0], by simp [PyData.depth]⟩
    | some a => exact H.pl a
  eq := fun a b p q h1 h2 => by
    have nn : ∀ a p, (f a).py = some p → p ≠ .none := by
      intro a p e hp
      subst hp
      have := h a
      cases e2 : f a <;> rw [e2] at e this <;> simp [D.py] at e this
      all_goals (split at e <;> cases e)
    cases a with
    | none =>
      cases b with
      | none =>
        simp only [encOp, D.py, Option.some.injEq] at h1 h2
        subst h1 h2
        simp [PyData.eqv]
      | some b =>
        simp only [encOp, D.py, Option.some.injEq] at h1
        have := nn b q h2
        subst h1
        cases q <;> simp_all [PyData.eqv]
    | some a =>
      cases b with
      | none =>
        simp only [encOp, D.py, Option.some.injEq] at h2
        have := nn a p h1
        subst h2
        cases p <;> simp_all [PyData.eqv]
      | some b =>
        rw [H.eq a b p q h1 h2]
        simp
end
end GF
namespace GF
open PySem
/-- plain: a value that nobody changes -/
abbrev FD := { d : D // d.own = false }
def encF (d : FD) : D := d.1
theorem frz_F (d : FD) : (encF d).frz = encF d := D.frz_of d.2
theorem od_own {d : D} (h : d.own = false) : odD d = false := by
  cases d <;> first | rfl | (simp only [D.own] at h; subst h; rfl)
theorem od_F (d : FD) : odD (encF d) = false := od_own d.2
theorem own_F (d : FD) : (encF d).own = false := d.2
theorem own_op {α : Type} {f : α → D} (h : ∀ a, (f a).own = false) (o : Option α) : (encOp f o).own = false := by
  cases o with
  | none => rfl
  | some a => exact h a
theorem frz_op {α : Type} {f : α → D} (h : ∀ a, (f a).own = false) (o : Option α) : (encOp f o).frz = encOp f o := D.frz_of (own_op h o)
theorem od_op {α : Type} {f : α → D} (h : ∀ a, (f a).own = false) (o : Option α) : odD (encOp f o) = false := od_own (own_op h o)
def let_ {α β : Type} (a : α) (k : α → M β) : M β := k a
section
variable {P : Phi} {fu : Nat} {Er : Rho → Prop} {X : RS} {α β γ σ σ' ρ : Type} {Q : β → RS → Prop} {t : M β} {r r1 r2 : Rho} {K : Rho → RS} {e c : IE} {s : IS} {ss a b : ISs} {tg : Tg} {i : Nat}
theorem pv_cc {d d' : D} (h : d = d') : PV P (.c d) r d' r := by subst h; exact pv_c d
theorem pv_d {d d' : D} (h : PV P e r d r1) (q : d = d') : PV P e r d' r1 := by subst q; exact h
theorem po_d {d d' : D} (h : PO P e r d) (q : d = d') : PO P e r d' := by subst q; exact h
/-- a list that is read, whoever owns it -/
theorem pv_vl {i : Nat} {o : Bool} {ds : List D} (h : getS r i = some (.lst o ds)) (hr : r.set i (some (.lst false ds)) = r1) : PV P (.v i) r (.lst false ds) r1 := by
  subst hr
  unfold PV evalE; rw [h]
  cases o with
  | true => rfl
  | false =>
    have e : r.set i (some (.lst false ds)) = r := by
      apply List.ext_getElem? 
      intro j
      by_cases hj : i = j
      · subst hj
        unfold getS at h
        cases q : r[i]? with
        | none => rw [q] at h; cases h
        | some x => rw [q] at h; simp only at h; subst h; rw [List.getElem?_set_self (List.getElem?_eq_some_iff.mp q).1]
      · rw [List.getElem?_set_ne hj]
    rw [e]
    rfl
theorem J_asgL {kp : Bool} {a : α} {f f' : α → D} {k : α → M β} (h : PV P e r (f a) r1) (hd : ∀ v, (if kp = true then f v else (f v).frz) = f' v) (hk : ∀ x, ∃ r2, bindT tg (f' x) r1 = some r2 ∧ J Er (ex P fu ss r2 K) (k x) Q) : J Er (ex P fu (.cons (.asg kp tg e) ss) r K) (let_ a k) Q := by
  obtain ⟨r2, h1, h2⟩ := hk a
  exact J_asg h (hd a) h1 h2
theorem J_rtF {f : ρ → D} {v : ρ} : J Er (.rt (f v)) (.ok v) (pF f) := .inl rfl
theorem J_rtO {E : σ → Rho → Prop} {f : ρ → D} {v : ρ} : J Er (.rt (f v)) (.ok (Out.rt v)) (pO E f) := (rfl : RS.rt (f v) = .rt (f v))
theorem JF_fn {p : Prg} {n g : Nat} {fi : FnI} {ds : List D} {t : M ρ} {f : ρ → D} (h : p.fns[g]? = some fi) (hl : ds.length = fi.params) (H : JF (runF (p.phi n) p.fuel fi.slots fi.body ds) t f) : JF ((p.phi (n + 1)).fn g ds) t f := by
  show JF (match p.fns[g]? with | some fi => if ds.length = fi.params then runF (p.phi n) p.fuel fi.slots fi.body ds else R.stuck | none => R.stuck) t f
  rw [h]
  simp only [if_pos hl]
  exact H
theorem J_whlO {b : ISs} {tc : σ → Option Bool} {B : σ → M (Out σ ρ)} {E : σ → Rho → Prop} {f : ρ → D} {k : Aft σ ρ → M β} (s0 : σ) (h0 : E s0 r) (hc : ∀ s r, E s r → EvO P c r (tc s) .bl) (hB : ∀ s r, E s r → J Er (ex P fu b r .nx) (B s) (pO E f))
    (hk : ∀ s r, E s r → J Er (ex P fu ss r K) (k (.nx s)) Q) (hk2 : ∀ v, J Er (.rt (f v)) (k (.rt v)) Q) : J Er (ex P fu (.cons (.whl c b) ss) r K) ((whileM (fun s => M.ofO (tc s) .ok) B fu s0).bind k) Q :=
  J_whl s0 h0 (fun s r hE => ⟨fun v h => by
    cases q : tc s with
    | none => rw [q] at h; cases h
    | some w => rw [q] at h; cases h; exact hc s r hE v q, fun n h => by
    cases q : tc s with
    | none => rw [q] at h; cases h
    | some w => rw [q] at h; cases h⟩) hB hk hk2
end
end GF
namespace GF
open PySem
/-- a slot that holds nothing owned -/
def NJ (x : Option D) : Prop := ∀ d, x = some d → d.own = false
theorem nj_none : NJ none := fun _ h => by cases h
theorem nj_some {d : D} (h : d.own = false) : NJ (some d) := fun _ e => by cases e; exact h
theorem free_n {r : Rho} : freeR r [] = true := rfl
theorem free_c {r : Rho} {i : Nat} {own : List Nat} {x : Option D} (h : getS r i = x) (q : NJ x) (k : freeR r own = true) : freeR r (i :: own) = true := by
  unfold freeR at k ⊢
  rw [List.all_cons, k, h]
  cases x with
  | none => rfl
  | some d => simp [q d rfl]
theorem ite_f {α : Type} (f : α → D) (c : Bool) (a b : α) : (if c = true then f a else f b) = f (if c = true then a else b) := by
  cases c <;> rfl
theorem J_r {P : Phi} {fu : Nat} {Er : Rho → Prop} {β : Type} {Q : β → RS → Prop} {t : M β} {r r2 : Rho} {K : Rho → RS} {ss : ISs} (h : r = r2) (k : J Er (ex P fu ss r2 K) t Q) : J Er (ex P fu ss r K) t Q := by subst h; exact k
theorem J_appL {P : Phi} {fu : Nat} {Er : Rho → Prop} {α β : Type} {Q : β → RS → Prop} {r r1 : Rho} {K : Rho → RS} {e : IE} {ss : ISs} {i : Nat} {f : α → D} {l : List α} {a : α} {k : List α → M β} {d : D} (h : PV P e r d r1) (h0 : getS r i = some (encL true f l)) (h1 : getS r1 i = some (encL true f l)) (hd : d.frz = f a) (hl : l.length < sizeLine) (od : odD d = false)
    (hk : ∀ x, J Er (ex P fu ss (r1.set i (some (encL true f x))) K) (k x) Q) : J Er (ex P fu (.cons (.app i e) ss) r K) (let_ (l ++ [a]) k) Q := by
  refine J_app h0 h h1 hd (by rw [List.length_map]; exact hl) rfl od ?_
  have := hk (l ++ [a])
  unfold encL at this
  rw [List.map_append] at this
  exact this
end GF
/-! data of any kind, errors caught, instances -/
namespace GF
open PySem
def oI : Option D → Option Int
  | some (.int i) => some i
  | _ => none
def oB : Option D → Option Bool
  | some (.bl i) => some i
  | _ => none
def oF : Option D → Option FD
  | some d => if h : d.own = false then some ⟨d, h⟩ else none
  | none => none
def fdL : List D → Option (List FD)
  | [] => some []
  | d :: ds => if h : d.own = false then (fdL ds).map (⟨d, h⟩ :: ·) else none
def oL : Option (List D) → Option (List FD)
  | some l => fdL l
  | none => none
def un2 : D → Option (FD × FD)
  | .tup [a, b] => if h : a.own = false then if g : b.own = false then some (⟨a, h⟩, ⟨b, g⟩) else none else none
  | _ => none
def un3 : D → Option (FD × FD × FD)
  | .tup [a, b, c] => if h : a.own = false then if g : b.own = false then if k : c.own = false then some (⟨a, h⟩, ⟨b, g⟩, ⟨c, k⟩) else none else none else none
  | _ => none
def zF : List D → Option (List (FD × FD))
  | [] => some []
  | d :: ds => match un2 d with
    | some p => (zF ds).map (p :: ·)
    | none => none
def oZ : Option (List D) → Option (List (FD × FD))
  | some l => zF l
  | none => none
theorem oI_q {o : Option D} {i : Int} (h : oI o = some i) : o = some (.int i) := by
  unfold oI at h
  split at h
  · cases h; rfl
  · cases h
theorem oB_q {o : Option D} {i : Bool} (h : oB o = some i) : o = some (.bl i) := by
  unfold oB at h
  split at h
  · cases h; rfl
  · cases h
theorem oF_q {o : Option D} {d : FD} (h : oF o = some d) : o = some (encF d) := by
  unfold oF at h
  split at h
  · split at h
    · cases h; rfl
    · cases h
  · cases h
theorem fdL_q : ∀ {l : List D} {m : List FD}, fdL l = some m → l = m.map encF
  | [], m, h => by cases h; rfl
  | d :: ds, m, h => by
    unfold fdL at h
    split at h
    · rw [Option.map_eq_some_iff] at h
      obtain ⟨ms, h1, rfl⟩ := h
      rw [List.map_cons, ← fdL_q h1]; rfl
    · cases h
theorem oL_q {o : Option (List D)} {m : List FD} (h : oL o = some m) : o = some (m.map encF) := by
  unfold oL at h
  split at h
  · rw [fdL_q h]
  · cases h
theorem un2_q {d : D} {p : FD × FD} (h : un2 d = some p) : d = enc2 encF encF p := by
  unfold un2 at h
  split at h
  · split at h
    · split at h
      · cases h; rfl
      · cases h
    · cases h
  · cases h
theorem un3_q {d : D} {p : FD × FD × FD} (h : un3 d = some p) : d = enc3 encF encF encF p := by
  unfold un3 at h
  split at h
  · split at h
    · split at h
      · split at h
        · cases h; rfl
        · cases h
      · cases h
    · cases h
  · cases h
theorem zF_q : ∀ {l : List D} {m : List (FD × FD)}, zF l = some m → l = m.map (enc2 encF encF)
  | [], m, h => by cases h; rfl
  | d :: ds, m, h => by
    unfold zF at h
    split at h
    · rename_i p e
      rw [Option.map_eq_some_iff] at h
      obtain ⟨ms, h1, rfl⟩ := h
      rw [List.map_cons, ← zF_q h1, ← un2_q e]
    · cases h
theorem oZ_q {o : Option (List D)} {m : List (FD × FD)} (h : oZ o = some m) : o = some (m.map (enc2 encF encF)) := by
  unfold oZ at h
  split at h
  · rw [zF_q h]
  · cases h
theorem phi_sub (p : Prg) (n : Nat) : (p.phi n).sub = p.sub := by cases n <;> rfl
theorem phi_fl (p : Prg) (n : Nat) : (p.phi n).fl = p.fl := by cases n <;> rfl
theorem phi_mt (p : Prg) (n : Nat) : (p.phi n).mt = fun k m => (p.cls.lookup k).bind fun ci => ci.meths.lookup m := by cases n <;> rfl
/-! ## caught -/
def M.tri {α β : Type} (t : M α) (k : α → M β) (h : Nat → M β) : M β := match t with
  | .ok a => k a
  | .er j => h j
  | .st => .st
section
variable {P : Phi} {fu : Nat} {Er : Rho → Prop} {β γ : Type} {Q : β → RS → Prop} {r : Rho} {K : Rho → RS} {ss : ISs}
theorem J_tryH {b : ISs} {hs : IHs} {E1 : Rho → Prop} {tb : M γ} {Q1 : γ → RS → Prop} {k : γ → M β} {th : Nat → M β} (h1 : J E1 (ex P fu b r .nx) tb Q1) (hq : ∀ v X, Q1 v X → ∀ j r, X ≠ .er j r) (hk : ∀ v X, Q1 v X → J Er (thenS X fun r => ex P fu ss r K) (k v) Q)
    (he : ∀ j r, E1 r → J Er (thenS (evalH P fu hs j r) fun r => ex P fu ss r K) (th j) Q) : J Er (ex P fu (.cons (.try_ b hs) ss) r K) (M.tri tb k th) Q := by
  rw [ex_cons]
  unfold evalS
  rw [ex_nx] at h1
  cases q : tb with
  | st => exact trivial
  | ok v =>
    rw [q] at h1
    have h1' : Q1 v (evalSs P fu b r) := h1
    have h2 := hk v _ h1'
    cases e : evalSs P fu b r with
    | er j r1 => rw [e] at h1'; exact absurd rfl (hq v _ h1' j r1)
    | nx r1 => rw [e] at h2; exact h2
    | rt d => rw [e] at h2; exact h2
    | bk r1 => rw [e] at h2; exact h2
    | ct r1 => rw [e] at h2; exact h2
    | stuck => rw [e] at h2; exact h2
  | er j =>
    rw [q] at h1
    obtain ⟨r1, h2, h3⟩ := h1
    rw [h2]
    exact he j r1 h3
theorem J_hc {n j : Nat} {b : ISs} {hs : IHs} {X Y : M β} (h1 : J Er (ex P fu b r fun r => ex P fu ss r K) X Q) (h2 : J Er (thenS (evalH P fu hs j r) fun r => ex P fu ss r K) Y Q) : J Er (thenS (evalH P fu (.cons n b hs) j r) fun r => ex P fu ss r K) (if P.sub j n then X else Y) Q := by
  rw [evalH]
  split
  · exact h1
  · exact h2
theorem J_hn {j : Nat} (h : Er r) : J Er (thenS (evalH P fu .nil j r) fun r => ex P fu ss r K) (.er j : M β) Q := by
  rw [evalH]
  exact ⟨r, rfl, h⟩
/-- behind a try that runs through -/
theorem J_trN {σ : Type} {E : σ → Rho → Prop} {k : σ → M β} (h : ∀ s r, E s r → J Er (ex P fu ss r K) (k s) Q) : ∀ v X, pN E v X → J Er (thenS X fun r => ex P fu ss r K) (k v) Q := fun v X ⟨r, e, hE⟩ => by
  rw [e]; exact h v r hE
end
/-! ## instances -/
section
variable {α β γ : Type} {f : α → D} {k : Nat}
/-- the first place of an item -/
def idxT [DecidableEq α] (a : α) (l : List α) : Option Int := match l.findIdx? fun b => decide (b = a) with
  | some i => some (Int.ofNat i)
  | none => none
theorem idx_map [DecidableEq α] (H : PlT f k) (hk : k + 1 ≤ 64) (a : α) (l : List α) : idxD (f a) (l.map f) = l.findIdx? fun b => decide (b = a) := by
  obtain ⟨p, h1, h2⟩ := H.shaped (by omega) a
  obtain ⟨ps, h3, h4, h5⟩ := H.list_pl l
  have h6 : SeqAt.shaped (.list ps) = true := by simp [SeqAt.shaped, PyData.canLay0, h4, PyData.depth]; omega
  unfold idxD
  simp only [h1, h3, h2, h6, Bool.and_self, if_true]
  clear h4 h5 h6
  induction l generalizing ps with
  | nil =>
    simp only [List.map_nil, pysD, Option.some.injEq] at h3
    subst h3
    rfl
  | cons b l ih =>
    obtain ⟨q, e1, _⟩ := H.pl b
    obtain ⟨qs, e2, _⟩ := H.list_pl l
    simp only [List.map_cons, pysD, e1, e2, Option.some.injEq] at h3
    subst h3
    have e3 : PyData.eqv q p = decide (b = a) := by
      rw [Bool.eq_iff_iff, decide_eq_true_eq]
      exact H.eq b a q p e1 h1
    rw [List.findIdx?_cons, List.findIdx?_cons, e3, ih qs e2]
theorem tm_index_s [DecidableEq α] (H : PlT f k) (hk : k + 1 ≤ 64) {a : α} {l : List α} {i : Int} (h : idxT a l = some i) : bmD .index (encS f l) [f a] = some (.int i) := by
  unfold idxT at h
  split at h
  case h_2 => cases h
  rename_i j h1
  cases h
  simp only [bmD, encS, indexM, idx_map H hk, h1]; rfl
theorem tm_index_l [DecidableEq α] {o : Bool} (H : PlT f k) (hk : k + 1 ≤ 64) {a : α} {l : List α} {i : Int} (h : idxT a l = some i) : bmD .index (encL o f l) [f a] = some (.int i) := by
  unfold idxT at h
  split at h
  case h_2 => cases h
  rename_i j h1
  cases h
  simp only [bmD, encL, indexM, idx_map H hk, h1]; rfl
end
theorem JI_fn {p : Prg} {ρ : Type} {n c : Nat} {ci : ClI} {ds : List D} {t : M ρ} {f : ρ → D} (h : p.cls.lookup c = some ci) (hl : ds.length + 1 = ci.init.params) (H : JF (runI (p.phi n) p.fuel c ci.init.slots ci.init.body ds) t f) : JF ((p.phi (n + 1)).mkI c ds) t f := by
  show JF (match p.cls.lookup c with | some ci => if ds.length + 1 = ci.init.params then runI (p.phi n) p.fuel c ci.init.slots ci.init.body ds else R.stuck | none => R.stuck) t f
  rw [h]
  simp only [if_pos hl]
  exact H
end GF
namespace GF
open PySem
section
variable {P : Phi} {fu : Nat} {Er : Rho → Prop} {β : Type} {Q : β → RS → Prop} {r : Rho} {K : Rho → RS} {ss : ISs}
theorem J_hc' {s : Nat → Nat → Bool} {n j : Nat} {b : ISs} {hs : IHs} {X Y : M β} (hsub : P.sub = s) (h1 : J Er (ex P fu b r fun r => ex P fu ss r K) X Q) (h2 : J Er (thenS (evalH P fu hs j r) fun r => ex P fu ss r K) Y Q) : J Er (thenS (evalH P fu (.cons n b hs) j r) fun r => ex P fu ss r K) (if s j n then X else Y) Q := by
  subst hsub; exact J_hc h1 h2
end
theorem op_in_so {α : Type} {f : α → D} {k : Nat} [DecidableEq α] (H : PlT (encOp f) k) (hk : k + 1 ≤ 64) (a : Option α) (l : List α) : opD .isin (encOp f a) (encS f l) = some (.bl (memB a (l.map some))) := by
  have e : encS f l = encS (encOp f) (l.map some) := by
    unfold encS
    rw [List.map_map]
    rfl
  rw [e, op_in_s H hk]
theorem op_in_lo {α : Type} {f : α → D} {k : Nat} {o : Bool} [DecidableEq α] (H : PlT (encOp f) k) (hk : k + 1 ≤ 64) (a : Option α) (l : List α) : opD .isin (encOp f a) (encL o f l) = some (.bl (memB a (l.map some))) := by
  have e : encL o f l = encL o (encOp f) (l.map some) := by
    unfold encL
    rw [List.map_map]
    rfl
  rw [e, op_in_l H hk]
end GF
namespace GF
theorem J_let {Er : Rho → Prop} {α β : Type} {X : RS} {Q : β → RS → Prop} {a : α} {k : α → M β} (h : ∀ x, x = a → J Er X (k x) Q) : J Er X (let_ a k) Q := h a rfl
end GF
namespace GF
theorem nn_int : ∀ a, D.int a ≠ .non := fun _ h => nomatch h
theorem nn_bl : ∀ a, D.bl a ≠ .non := fun _ h => nomatch h
theorem nn_str : ∀ a, encT a ≠ .non := fun _ h => by unfold encT at h; cases h
theorem nn_s {α : Type} {f : α → D} : ∀ a, encS f a ≠ .non := fun _ h => by unfold encS at h; cases h
theorem nn_l {α : Type} {o : Bool} {f : α → D} : ∀ a, encL o f a ≠ .non := fun _ h => by unfold encL at h; cases h
theorem nn_2 {α β : Type} {f : α → D} {g : β → D} : ∀ a, enc2 f g a ≠ .non := fun _ h => by unfold enc2 at h; cases h
theorem nn_3 {α β γ : Type} {f : α → D} {g : β → D} {h : γ → D} : ∀ a, enc3 f g h a ≠ .non := fun _ h => by unfold enc3 at h; cases h
end GF
namespace GF
theorem len_le {l : List D} {n : Nat} (h : l.length = n) (k : n ≤ sizeLine) : l.length ≤ sizeLine := h ▸ k
theorem pO_rt {σ ρ : Type} {E : σ → Rho → Prop} {f : ρ → D} {v : ρ} : pO E f (.rt v) (.rt (f v)) := rfl
end GF
namespace GF
theorem M.ofO_ok {α β : Type} {t : Option α} {k : α → M β} {x : β} (h : M.ofO t k = .ok x) : ∃ v, t = some v ∧ k v = .ok x := by
  cases t with
  | none => cases h
  | some v => exact ⟨v, rfl, h⟩
theorem M.bind_ok {α β : Type} {t : M α} {k : α → M β} {x : β} (h : t.bind k = .ok x) : ∃ v, t = .ok v ∧ k v = .ok x := by
  cases t with
  | ok v => exact ⟨v, rfl, h⟩
  | er k => cases h
  | st => cases h
end GF
namespace GF
theorem M.ite_ok {β : Type} {c : Bool} {t u : M β} {x : β} (h : (if c = true then t else u) = .ok x) : (c = true ∧ t = .ok x) ∨ (c = false ∧ u = .ok x) := by
  cases c with
  | true => exact .inl ⟨rfl, h⟩
  | false => exact .inr ⟨rfl, h⟩
end GF
/-! proofs about typed functions -/
namespace GF
open PySem
/-- it comes to a value with Q -/
def Wp {α : Type} (t : M α) (Q : α → Prop) : Prop := ∃ v, t = .ok v ∧ Q v
section
variable {α β σ ρ : Type} {Q : β → Prop}
theorem wp_ok {v : β} : Wp (.ok v) Q ↔ Q v := ⟨fun ⟨_, h, q⟩ => by cases h; exact q, fun h => ⟨v, rfl, h⟩⟩
theorem wp_let {a : α} {k : α → M β} : Wp (let_ a k) Q ↔ Wp (k a) Q := Iff.rfl
theorem wp_gd {c : Prop} [Decidable c] {t : M β} (h : c) : Wp (gd c t) Q ↔ Wp t Q := by unfold gd; rw [if_pos h]
theorem wp_ofO {o : Option α} {k : α → M β} {v : α} (h : o = some v) : Wp (M.ofO o k) Q ↔ Wp (k v) Q := by subst h; rfl
theorem wp_bind {t : M α} {k : α → M β} (h : Wp t fun v => Wp (k v) Q) : Wp (t.bind k) Q := by
  obtain ⟨v, e, w, e2, q⟩ := h
  exact ⟨w, by rw [e]; exact e2, q⟩
theorem wp_bind_ok {t : M α} {k : α → M β} {v : α} (h : t = .ok v) : Wp (t.bind k) Q ↔ Wp (k v) Q := by subst h; rfl
theorem wp_t {c : Bool} {t u : M β} (h : c = true) : Wp (if c = true then t else u) Q ↔ Wp t Q := by rw [if_pos h]
theorem wp_f {c : Bool} {t u : M β} (h : c = false) : Wp (if c = true then t else u) Q ↔ Wp u Q := by rw [if_neg (by rw [h]; exact Bool.false_ne_true)]
theorem wp_if {c : Bool} {t u : M β} (h : c = true → Wp t Q) (h2 : c = false → Wp u Q) : Wp (if c = true then t else u) Q := by
  cases c
  · exact h2 rfl
  · exact h rfl
theorem wp_mono {t : M β} {R : β → Prop} (h : Wp t R) (k : ∀ v, R v → Q v) : Wp t Q := by
  obtain ⟨v, e, q⟩ := h; exact ⟨v, e, k v q⟩
/-- a walk with its invariant, by the number of turns -/
theorem wp_fold {B : α → σ → M σ} (I : Nat → σ → Prop) : ∀ (l : List α) (j : Nat) (s : σ), I j s → (∀ i a s, l[i]? = some a → I (j + i) s → Wp (B a s) (I (j + i + 1))) → Wp (fold B l s) (I (j + l.length))
  | [], j, s, h, _ => ⟨s, rfl, h⟩
  | a :: l, j, s, h, hB => by
    obtain ⟨s1, e1, h1⟩ := hB 0 a s rfl h
    have := wp_fold I l (j + 1) s1 h1 fun i b s e h => by
      have := hB (i + 1) b s (by simpa using e) (by rw [show j + (i + 1) = j + 1 + i by omega]; exact h)
      rw [show j + (i + 1) + 1 = j + 1 + i + 1 by omega] at this
      exact this
    obtain ⟨s2, e2, h2⟩ := this
    refine ⟨s2, by unfold fold; rw [e1]; exact e2, ?_⟩
    rw [List.length_cons, show j + (l.length + 1) = j + 1 + l.length by omega]
    exact h2
theorem wp_fold0 {B : α → σ → M σ} (I : Nat → σ → Prop) (l : List α) (s : σ) (h : I 0 s) (hB : ∀ i a s, l[i]? = some a → I i s → Wp (B a s) (I (i + 1))) : Wp (fold B l s) (I l.length) := by
  have := wp_fold I l 0 s h (fun i a s e h => by rw [Nat.zero_add] at h ⊢; exact hB i a s e h)
  rwa [Nat.zero_add] at this
/-- a walk that never leaves -/
theorem wp_loopU {B : α → Unit → M (Out Unit ρ)} : ∀ (l : List α), (∀ a ∈ l, B a () = .ok (.nx ())) → loop B l () = .ok (.nx ())
  | [], _ => rfl
  | a :: l, h => by
    unfold loop
    rw [h a List.mem_cons_self]
    exact wp_loopU l fun b hb => h b (List.mem_cons_of_mem _ hb)
/-- a comprehension whose parts are known -/
theorem lcO_eq {c : α → Option Bool} {h : α → Option β} (p : α → Bool) (f : α → β) : ∀ l : List α, (∀ a ∈ l, c a = some (p a)) → (∀ a ∈ l, p a = true → h a = some (f a)) → lcO c h l = some ((l.filter p).map f)
  | [], _, _ => rfl
  | a :: l, h1, h2 => by
    unfold lcO
    rw [h1 a List.mem_cons_self, lcO_eq p f l (fun b hb => h1 b (List.mem_cons_of_mem _ hb)) fun b hb => h2 b (List.mem_cons_of_mem _ hb)]
    cases e : p a with
    | false => simp [e]
    | true => simp [e, h2 a List.mem_cons_self e]
theorem lcO_eqm {h : α → Option β} (f : α → β) (l : List α) (h2 : ∀ a ∈ l, h a = some (f a)) : lcO (fun _ => some true) h l = some (l.map f) := by
  have := lcO_eq (fun _ => true) f l (fun _ _ => rfl) fun a ha _ => h2 a ha
  rwa [List.filter_eq_self.mpr (fun _ _ => rfl)] at this
theorem gO_t {c : Prop} [Decidable c] {t : Option α} (h : c) : gO c t = t := by unfold gO; rw [if_pos h]
end
/-! numbers -/
theorem sl_eq : sizeLine = 16777216 := by rw [sizeLine_eq]
theorem s62 {i : Int} (h : -4611686018427387904 ≤ i ∧ i < 4611686018427387904) : small62 i = true := by
  unfold small62
  rw [Bool.and_eq_true, decide_eq_true_eq, decide_eq_true_eq]
  exact h
theorem rng_len (n : Int) : (rng n).length = n.toNat := by simp [rng]
theorem mem_rng {x n : Int} : x ∈ rng n ↔ 0 ≤ x ∧ x < n := by
  unfold rng
  rw [List.mem_map]
  constructor
  · rintro ⟨k, h, rfl⟩
    have := List.mem_range.mp h
    omega
  · rintro ⟨h1, h2⟩
    exact ⟨x.toNat, List.mem_range.mpr (by omega), by omega⟩
theorem rng_get {n : Int} {i : Nat} (h : i < n.toNat) : (rng n)[i]? = some (i : Int) := by
  unfold rng
  rw [List.getElem?_map, List.getElem?_range h]
  rfl
theorem atT_nn {α : Type} {l : List α} {i : Int} (h : 0 ≤ i) : atT l i = l[i.toNat]? := by
  unfold atT L2.atI L2.ixN
  rw [if_pos h]
  by_cases h2 : i < l.length
  · rw [if_pos h2]; rfl
  · rw [if_neg h2, List.getElem?_eq_none (by omega)]; rfl
theorem atT_d {α : Type} {l : List α} {i : Int} (d : α) (h : 0 ≤ i) (h2 : i < l.length) : atT l i = some (l.getD i.toNat d) := by
  rw [atT_nn h, List.getD_eq_getElem?_getD, List.getElem?_eq_getElem (by omega)]
  rfl
end GF
namespace GF
section
variable {α β ρ : Type}
theorem ofO_s {v : α} {k : α → M β} : M.ofO (some v) k = k v := rfl
theorem bind_o {v : α} {k : α → M β} : (M.ok v).bind k = k v := rfl
theorem bind_e {n : Nat} {k : α → M β} : (M.er n : M α).bind k = .er n := rfl
theorem get_o {v : α} : (M.ok v).get = some v := rfl
theorem let_e {a : α} {k : α → M β} : let_ a k = k a := rfl
theorem gd_t {c : Prop} [Decidable c] {t : M β} (h : c) : gd c t = t := by unfold gd; rw [if_pos h]
theorem tri_o {v : α} {k : α → M β} {h : Nat → M β} : M.tri (.ok v) k h = k v := rfl
theorem tri_e {n : Nat} {k : α → M β} {h : Nat → M β} : M.tri (.er n) k h = h n := rfl
theorem fold_u {B : α → Unit → M Unit} : ∀ {l : List α}, (∀ a ∈ l, B a () = .ok ()) → fold B l () = .ok ()
  | [], _ => rfl
  | a :: l, h => by
    unfold fold
    rw [h a List.mem_cons_self]
    exact fold_u fun b hb => h b (List.mem_cons_of_mem _ hb)
theorem loop_u {B : α → Unit → M (Out Unit ρ)} {l : List α} (h : ∀ a ∈ l, B a () = .ok (.nx ())) : loop B l () = .ok (.nx ()) := wp_loopU l h
end
end GF
/-! typed dicts, sorted rows and more -/
namespace GF
open PySem
def encDc {α β : Type} (o : Bool) (ek : α → D) (ev : β → D) (l : List (α × β)) : D := .dct o (l.map fun p => ek p.1) (l.map fun p => ev p.2)
/-- keys that differ are told apart -/
structure KeyT {α : Type} (e : α → D) : Prop where
  key : ∀ a, ∃ j, keyD (e a) = some j
  inj : ∀ a b, keyD (e a) = keyD (e b) → a = b
theorem KeyT.int : KeyT D.int := ⟨fun a => ⟨.inl a, rfl⟩, fun a b h => by simp [keyD] at h; exact h⟩
theorem KeyT.str : KeyT encT := ⟨fun a => ⟨.inr (strT a), rfl⟩, fun a b h => by simp [keyD, encT] at h; exact strT_inj.mp h⟩
section
variable {α β : Type} [DecidableEq α]
def dget : List (α × β) → α → Option β
  | [], _ => none
  | p :: l, k => if p.1 = k then some p.2 else dget l k
def dput (l : List (α × β)) (k : α) (v : β) : List (α × β) := if (dget l k).isSome then l.map fun p => if p.1 = k then (p.1, v) else p else l ++ [(k, v)]
theorem dget_append {l m : List (α × β)} {k : α} : dget (l ++ m) k = (dget l k).or (dget m k) := by
  induction l with
  | nil => rfl
  | cons p l ih =>
    rw [List.cons_append, dget, dget]
    split
    · rfl
    · exact ih
theorem dget_dput {l : List (α × β)} {k j : α} {v : β} : dget (dput l k v) j = if j = k then some v else dget l j := by
  unfold dput
  by_cases h : (dget l k).isSome = true
  · rw [if_pos h]
    induction l with
    | nil => cases h
    | cons p l ih =>
      rw [List.map_cons]
      unfold dget at h ⊢
      by_cases e : p.1 = k
      · by_cases ej : j = k
        · subst ej; simp [e]
        · rw [if_neg ej]
          have e2 : ¬ k = j := fun z => ej z.symm
          simp only [e, if_true]
          rw [if_neg (by simpa [e] using e2), if_neg e2]
          by_cases hl : (dget l k).isSome = true
          · have := ih hl
            rw [if_neg ej] at this
            exact this
          · have hn : dget l k = none := by simpa using hl
            clear ih h
            induction l with
            | nil => rfl
            | cons q l ih =>
              rw [List.map_cons]
              unfold dget at hn hl ⊢
              by_cases eq : q.1 = k
              · rw [if_pos eq] at hn; cases hn
              · rw [if_neg eq] at hn hl
                rw [if_neg eq]
                split
                · rfl
                · exact ih hl hn
      · rw [if_neg e] at h
        simp only [e, if_false]
        by_cases ej : p.1 = j
        · have : ¬ j = k := fun z => e (ej.trans z)
          rw [if_pos ej, if_pos ej, if_neg this]
        · rw [if_neg ej, if_neg ej]
          exact ih h
  · rw [if_neg h, dget_append]
    have hn : dget l k = none := by simpa using h
    by_cases ej : j = k
    · subst ej
      rw [hn, if_pos rfl]
      simp [dget]
    · rw [if_neg ej]
      have : dget [(k, v)] j = none := by unfold dget; rw [if_neg (fun z => ej z.symm)]; rfl
      rw [this]
      cases dget l j <;> rfl
theorem dput_keys {l : List (α × β)} {k : α} {v : β} : (dput l k v).map (·.1) = if (dget l k).isSome then l.map (·.1) else l.map (·.1) ++ [k] := by
  unfold dput
  split
  · rw [List.map_map]
    apply List.map_congr_left
    intro p _
    show (if p.1 = k then (p.1, v) else p).1 = p.1
    split <;> rfl
  · rw [List.map_append]; rfl
theorem dget_isSome {l : List (α × β)} {k : α} : (dget l k).isSome = true ↔ k ∈ l.map (·.1) := by
  induction l with
  | nil => simp [dget]
  | cons p l ih =>
    unfold dget
    rw [List.map_cons, List.mem_cons]
    by_cases e : p.1 = k
    · simp [e]
    · rw [if_neg e, ih]
      constructor
      · intro h; exact .inr h
      · rintro (h | h)
        · exact absurd h.symm e
        · exact h
theorem dget_none {l : List (α × β)} {k : α} : dget l k = none ↔ k ∉ l.map (·.1) := by
  rw [← dget_isSome]
  cases dget l k <;> simp
theorem dget_mem {l : List (α × β)} {k : α} {v : β} (h : dget l k = some v) : (k, v) ∈ l := by
  induction l with
  | nil => cases h
  | cons p l ih =>
    unfold dget at h
    split at h
    · rename_i e
      cases h
      rw [← e]
      exact List.mem_cons_self
    · exact List.mem_cons_of_mem _ (ih h)
theorem dput_nodup {l : List (α × β)} {k : α} {v : β} (h : (l.map (·.1)).Nodup) : ((dput l k v).map (·.1)).Nodup := by
  rw [dput_keys]
  split
  · exact h
  · rename_i hn
    rw [dget_isSome] at hn
    rw [List.nodup_append]
    refine ⟨h, by simp, fun a ha b hb e => ?_⟩
    simp only [List.mem_singleton] at hb
    subst hb e
    exact hn ha
theorem mem_dget {l : List (α × β)} {k : α} {v : β} (hn : (l.map (·.1)).Nodup) (h : (k, v) ∈ l) : dget l k = some v := by
  induction l with
  | nil => cases h
  | cons p l ih =>
    rw [List.map_cons, List.nodup_cons] at hn
    unfold dget
    rcases List.mem_cons.mp h with e | e
    · subst e; simp
    · rw [if_neg, ih hn.2 e]
      intro z
      exact hn.1 (List.mem_map.mpr ⟨_, e, z.symm⟩)
theorem dput_len {l : List (α × β)} {k : α} {v : β} : (dput l k v).length ≤ l.length + 1 := by
  have := congrArg List.length (dput_keys (l := l) (k := k) (v := v))
  rw [List.length_map] at this
  rw [this]
  split <;> simp
end
section
variable {α β γ : Type} [DecidableEq α] {ek : α → D} {ev : β → D} {o : Bool}
theorem KeyT.keys (H : KeyT ek) : ∀ l : List α, ∃ js, keysD (l.map ek) = some js
  | [] => ⟨[], rfl⟩
  | a :: l => by
    obtain ⟨j, h1⟩ := H.key a
    obtain ⟨js, h2⟩ := H.keys l
    exact ⟨j :: js, by simp [keysD, h1, h2]⟩
theorem KeyT.iff (H : KeyT ek) {a b : α} {i j : L2.Key} (h1 : keyD (ek a) = some i) (h2 : keyD (ek b) = some j) : i = j ↔ a = b :=
  ⟨fun e => H.inj a b (by rw [h1, h2, e]), fun e => by subst e; rw [h1] at h2; exact Option.some.inj h2⟩
theorem dctAt_T (H : KeyT ek) : ∀ (l : List (α × β)) (k : α), dctAt (l.map fun p => ek p.1) (l.map fun p => ev p.2) (ek k) = some ((dget l k).map ev)
  | [], k => by
    obtain ⟨j, h1⟩ := H.key k
    simp [dctAt, keysD, h1, keyAt, dget]
  | p :: l, k => by
    obtain ⟨j, h1⟩ := H.key k
    obtain ⟨i, h2⟩ := H.key p.1
    obtain ⟨js, h3⟩ := H.keys (l.map (·.1))
    rw [List.map_map] at h3
    have ih := dctAt_T H l k
    unfold dctAt at ih ⊢
    simp only [List.map_cons, keysD, h2, show keysD (l.map fun p => ek p.1) = some js from h3, h1] at ih ⊢
    unfold keyAt dget
    by_cases e : p.1 = k
    · rw [if_pos ((H.iff h2 h1).mpr e), if_pos e]
      simp
    · rw [if_neg (fun z => e ((H.iff h2 h1).mp z)), if_neg e]
      cases q : keyAt j js with
      | none =>
        rw [q] at ih
        simpa using ih
      | some m =>
        rw [q] at ih
        simpa using ih
theorem ix_d (H : KeyT ek) {l : List (α × β)} {k : α} {v : β} (h : dget l k = some v) : ixD (encDc o ek ev l) (ek k) = some (ev v) := by
  unfold encDc ixD
  simp only [dctAt_T H, h, Option.map_some]
theorem op_in_d (H : KeyT ek) (l : List (α × β)) (k : α) : opD .isin (ek k) (encDc o ek ev l) = some (.bl (dget l k).isSome) := by
  have : isinD (ek k) (encDc o ek ev l) = some (dget l k).isSome := by
    have e := dctAt_T (ev := ev) H l k
    unfold encDc
    generalize ek k = d at e ⊢
    cases d <;> simp only [isinD, e, Option.isSome_map]
  simp only [opD, this, Option.map_some]
theorem any_T (H : KeyT ek) {j : L2.Key} {k : α} (h1 : keyD (ek k) = some j) : ∀ (l : List (α × β)) (js : List L2.Key), keysD (l.map fun p => ek p.1) = some js → (js.any fun i => decide (i = j)) = (dget l k).isSome
  | [], js, h => by simp [keysD] at h; subst h; rfl
  | p :: l, js, h => by
    obtain ⟨i, h2⟩ := H.key p.1
    obtain ⟨js', h3⟩ := H.keys (l.map (·.1))
    rw [List.map_map] at h3
    have h3 : keysD (l.map fun p => ek p.1) = some js' := h3
    simp only [List.map_cons, keysD, h2, h3, Option.some.injEq] at h
    subst h
    rw [List.any_cons, any_T H h1 l js' h3, dget]
    by_cases e : p.1 = k
    · rw [if_pos e]
      have := (H.iff h2 h1).mpr e
      simp [this]
    · rw [if_neg e]
      have : ¬ i = j := fun z => e ((H.iff h2 h1).mp z)
      simp [this]
theorem putV_T (H : KeyT ek) {j : L2.Key} {k : α} {v : β} (h1 : keyD (ek k) = some j) : ∀ (l : List (α × β)) (js : List L2.Key), keysD (l.map fun p => ek p.1) = some js → putV j (ev v) js (l.map fun p => ev p.2) = (l.map fun p => if p.1 = k then (p.1, v) else p).map fun p => ev p.2
  | [], js, h => by simp [keysD] at h; subst h; rfl
  | p :: l, js, h => by
    obtain ⟨i, h2⟩ := H.key p.1
    obtain ⟨js', h3⟩ := H.keys (l.map (·.1))
    rw [List.map_map] at h3
    have h3 : keysD (l.map fun p => ek p.1) = some js' := h3
    simp only [List.map_cons, keysD, h2, h3, Option.some.injEq] at h
    subst h
    simp only [List.map_cons, putV, putV_T H h1 l js' h3]
    by_cases e : p.1 = k
    · simp [e, (H.iff h2 h1).mpr e]
    · have : ¬ i = j := fun z => e ((H.iff h2 h1).mp z)
      simp [e, this]
theorem dctPut_T (H : KeyT ek) (l : List (α × β)) (k : α) (v : β) : dctPut (l.map fun p => ek p.1) (l.map fun p => ev p.2) (ek k) (ev v) = some ((dput l k v).map (fun p => ek p.1), (dput l k v).map fun p => ev p.2) := by
  obtain ⟨j, h1⟩ := H.key k
  obtain ⟨js, h3⟩ := H.keys (l.map (·.1))
  rw [List.map_map] at h3
  have h3 : keysD (l.map fun p => ek p.1) = some js := h3
  unfold dctPut
  simp only [h3, h1, any_T H h1 l js h3]
  unfold dput
  by_cases e : (dget l k).isSome = true
  · rw [if_pos e, if_pos e, putV_T H h1 l js h3, List.map_map]
    congr 2
    rw [List.map_map]
    apply List.map_congr_left
    intro p _
    show ek p.1 = ek (if p.1 = k then (p.1, v) else p).1
    split <;> rfl
  · rw [if_neg e, if_neg e]
    simp
theorem put_d (H : KeyT ek) {l : List (α × β)} {k : α} {v : β} (hl : l.length < sizeLine) : putD (encDc true ek ev l) (ek k) (ev v) = some (encDc true ek ev (dput l k v)) := by
  have e := dctPut_T (ev := ev) H l k v
  unfold encDc putD
  simp only [List.length_map, hl, if_true, e]
/-- a list's item stored -/
def setT (l : List γ) (i : Int) (v : γ) : Option (List γ) := (L2.ixN l.length i).map fun n => l.set n v
theorem put_l {f : γ → D} {l l' : List γ} {i : Int} {v : γ} (h : setT l i v = some l') : putD (encL true f l) (.int i) (f v) = some (encL true f l') := by
  unfold setT at h
  rw [Option.map_eq_some_iff] at h
  obtain ⟨n, h1, rfl⟩ := h
  unfold encL putD
  simp only [List.length_map, h1]
  rw [List.map_set]
omit [DecidableEq α] in
theorem bi_len_d (l : List (α × β)) : biD .len [encDc o ek ev l] = some (.int (l.length : Int)) := by simp [biD, lenB, encDc]
omit [DecidableEq α] in
theorem it_d (l : List (α × β)) : itemsD (encDc false ek ev l) = some ((l.map (·.1)).map ek) := by simp [itemsD, encDc, Function.comp_def]
omit [DecidableEq α] in
theorem bi_list_d (l : List (α × β)) : biD .list [encDc o ek ev l] = some (encL true ek (l.map (·.1))) := by simp [biD, listB, encDc, encL, Function.comp_def]
omit [DecidableEq α] in
theorem pv_dnew {P : Phi} {r : Rho} : PV P .dnew r (encDc true ek ev []) r := by unfold PV evalE; rfl
/-! rows in order -/
def srtT (f : γ → D) (l : List γ) : List γ := l.mergeSort fun a b => leD (f a) (f b)
theorem srt_map (f : γ → D) (l : List γ) : (l.map f).mergeSort leD = (srtT f l).map f := by
  unfold srtT
  rw [List.map_mergeSort (r := fun a b => leD (f a) (f b)) (s := leD)]
  intros; rfl
theorem bi_sorted_l {f : γ → D} {l : List γ} (h : sortOk (l.map f) = true) : biD .sorted [encL o f l] = some (encL true f (srtT f l)) := by
  unfold encL
  simp only [biD, sortedB, h, if_true, srt_map]
omit [DecidableEq α] in
theorem bi_sorted_d {l : List (α × β)} (h : sortOk ((l.map (·.1)).map ek) = true) : biD .sorted [encDc o ek ev l] = some (encL true ek (srtT ek (l.map (·.1)))) := by
  have e : (l.map fun p => ek p.1) = (l.map (·.1)).map ek := by rw [List.map_map]; rfl
  unfold encDc encL
  simp only [biD, sortedB, e, h, if_true, srt_map]
omit [DecidableEq α] in
theorem pairs_T : ∀ l : List (α × β), pairsD (l.map fun p => ek p.1) (l.map fun p => ev p.2) = l.map (enc2 ek ev)
  | [] => rfl
  | p :: l => by simp [pairsD, pairs_T l, enc2]
omit [DecidableEq α] in
theorem un_sitems {l : List (α × β)} (h : sortOk (l.map (enc2 ek ev)) = true) : unD .sitems (encDc o ek ev l) = some (encL true (enc2 ek ev) (srtT (enc2 ek ev) l)) := by
  unfold encDc encL
  simp only [unD, sitemsU, pairs_T, List.length_map, h, and_self, if_true, srt_map]
def minT (f : γ → D) : List γ → Option γ
  | [] => none
  | x :: l => some (l.foldl (fun a y => if ltD (f y) (f a) then y else a) x)
theorem min_map (f : γ → D) : ∀ (l : List γ) (x : γ), minOf (f x) (l.map f) = f (l.foldl (fun a y => if ltD (f y) (f a) then y else a) x) := by
  intro l
  unfold minOf
  induction l with
  | nil => intro x; rfl
  | cons y l ih =>
    intro x
    rw [List.map_cons, List.foldl_cons, List.foldl_cons, ← ih]
    congr 1
    split <;> rfl
theorem bi_min_l {f : γ → D} {l : List γ} {v : γ} (h : sortOk (l.map f) = true) (hv : minT f l = some v) : biD .min [encL o f l] = some (f v) := by
  cases l with
  | nil => cases hv
  | cons x l =>
    cases hv
    unfold encL
    rw [List.map_cons] at h ⊢
    simp only [biD, minB, h, if_true, min_map]
theorem nub_inj {κ : Type} [DecidableEq κ] {g : α → κ} (hg : ∀ a b, g a = g b → a = b) (l : List α) : nubK (l.map g) = (nubK l).map g := by
  unfold nubK
  have : ∀ (l acc : List α), (l.map g).foldl (fun acc k => if acc.any (fun j => decide (j = k)) then acc else acc ++ [k]) (acc.map g) = (l.foldl (fun acc k => if acc.any (fun j => decide (j = k)) then acc else acc ++ [k]) acc).map g := by
    intro l
    induction l with
    | nil => intro acc; rfl
    | cons x l ih =>
      intro acc
      rw [List.map_cons, List.foldl_cons, List.foldl_cons]
      have e : ((acc.map g).any fun j => decide (j = g x)) = acc.any fun j => decide (j = x) := by
        rw [List.any_map]
        congr 1
        funext a
        simp only [Function.comp_apply, decide_eq_decide]
        exact ⟨hg a x, fun z => by rw [z]⟩
      rw [e]
      split
      · exact ih acc
      · rw [← List.map_singleton, ← List.map_append]
        exact ih _
  simpa using this l []
theorem keys_fn (H : KeyT ek) : ∃ g : α → L2.Key, (∀ a, keyD (ek a) = some (g a)) ∧ (∀ a b, g a = g b → a = b) := by
  refine ⟨fun a => (keyD (ek a)).getD (.inl 0), fun a => ?_, fun a b h => ?_⟩
  · obtain ⟨j, hj⟩ := H.key a
    simp [hj]
  · obtain ⟨i, hi⟩ := H.key a
    obtain ⟨j, hj⟩ := H.key b
    simp only [hi, hj, Option.getD_some] at h
    exact (H.iff hi hj).mp h
omit [DecidableEq α] in
theorem keysD_map {g : α → L2.Key} (h : ∀ a, keyD (ek a) = some (g a)) : ∀ l : List α, keysD (l.map ek) = some (l.map g)
  | [] => rfl
  | a :: l => by simp [keysD, h, keysD_map h l]
theorem un_lset_l (H : KeyT ek) {l : List α} (h : l.length < 4000) : unD .lset (encL o ek l) = some (.int ((nubK l).length : Int)) := by
  obtain ⟨g, h1, h2⟩ := keys_fn H
  unfold encL
  simp only [unD, lsetU, keysD_map h1, List.length_map, h, if_true, nub_inj h2]
theorem un_lset_s (H : KeyT ek) {l : List α} (h : l.length < 4000) : unD .lset (encS ek l) = some (.int ((nubK l).length : Int)) := by
  obtain ⟨g, h1, h2⟩ := keys_fn H
  unfold encS
  simp only [unD, lsetU, keysD_map h1, List.length_map, h, if_true, nub_inj h2]
theorem un_rev_l {f : γ → D} (l : List γ) : unD .rev (encL o f l) = some (encL true f l.reverse) := by simp [unD, encL]
theorem un_rev_s {f : γ → D} (l : List γ) : unD .rev (encS f l) = some (encS f l.reverse) := by simp [unD, encS]
theorem pv_un {P : Phi} {x : IE} {r : Rho} {u : Un} {d z : D} (h : PO P x r d) (q : unD u d = some z) : PV P (.un u x) r z r := by
  obtain ⟨o, e1, g1⟩ := h
  unfold PV evalE
  simp only [e1, RE.get, g1, q, optE]
theorem pv_rgl {P : Phi} {es : IEs} {r : Rho} {tup : Bool} {ds : List D} {l : List Int} (h : POs P es r ds) (q : rangeD ds = some (l.map .int)) (hl : l.length ≤ sizeLine) : PV P (.rgl tup es) r (if tup then encS .int l else encL true .int l) r := by
  obtain ⟨os, e1, g1⟩ := h
  unfold PV evalE
  simp only [e1, g1, q, List.length_map, hl, if_true]
  cases tup <;> rfl
def rngD (a b : Int) : List Int := (List.range (a - b).toNat).map fun (k : Nat) => a + ((k : Nat) : Int) * -1
theorem rangeD_3 {a b : Int} (h : (small62 a && small62 b) = true) : rangeD [.int a, .int b, .int (-1)] = some ((rngD a b).map .int) := by
  have : (small62 a && small62 b && decide ((-1 : Int) = -1)) = true := by rw [h]; rfl
  show (if (small62 a && small62 b && decide ((-1 : Int) = -1)) = true then some ((List.range (a - b).toNat).map fun k => D.int (a + (k : Nat) * -1)) else none) = _
  rw [if_pos this, rngD, List.map_map]
  rfl
end
end GF
/-! typed dict comprehensions; stores, errors asked -/
namespace GF
open PySem
section
variable {P : Phi} {own vs1 : List Nat} {tg tg1 : Tg} {it it1 : II} {c k x : IE} {r : Rho} {α β κ γ : Type} [DecidableEq κ] {ek : κ → D} {ev : β → D}
def dcO (c : α → Option Bool) (hk : α → Option κ) (hv : α → Option β) : List α → List (κ × β) → Option (List (κ × β))
  | [], m => some m
  | a :: l, m => (c a).bind fun b => if b then (hk a).bind fun k => (hv a).bind fun v => if m.length < sizeLine then dcO c hk hv l (dput m k v) else none else dcO c hk hv l m
theorem dcGo_O (H : KeyT ek) {bd : D → Rho → Option Rho} {tst key elt : Rho → RE} (g : α → D) (tc : α → Option Bool) (tk : α → Option κ) (tv : α → Option β) : ∀ (l : List α) (m ys : List (κ × β)),
    (∀ a ∈ l, ∃ r1, bd (g a) r = some r1 ∧ wipeR r1 own = r ∧ (∀ b, tc a = some b → ∃ o, tst r1 = .ok o r1 ∧ o.get r1 = some (.bl b)) ∧ (∀ y, tk a = some y → ∃ o, key r1 = .ok o r1 ∧ o.get r1 = some (ek y)) ∧ ∀ y, tv a = some y → ∃ w, elt r1 = .ok (.val w) r1 ∧ w.frz = ev y ∧ odD w = false) →
    dcO tc tk tv l m = some ys → dcGo own bd tst key elt (l.map g) r (m.map fun p => ek p.1) (m.map fun p => ev p.2) = .ok (.val (encDc true ek ev ys)) r
  | [], m, ys, h, e => by
    unfold dcO at e
    cases e
    rfl
  | a :: l, m, ys, h, e => by
    obtain ⟨r1, e1, e2, h1, h2, h3⟩ := h a List.mem_cons_self
    have hl : ∀ a ∈ l, _ := fun a ha => h a (List.mem_cons_of_mem _ ha)
    unfold dcO at e
    cases ec : tc a with
    | none => rw [ec] at e; cases e
    | some b =>
      rw [ec] at e
      simp only [Option.bind_some] at e
      obtain ⟨o, e3, e4⟩ := h1 b ec
      rw [List.map_cons, dcGo, e1]
      simp only [RE.get, e3, e4]
      cases b with
      | false =>
        simp only [Bool.false_eq_true, if_false] at e
        simp only [e2]
        exact dcGo_O H g tc tk tv l m ys hl e
      | true =>
        simp only [if_true] at e
        cases ek' : tk a with
        | none => rw [ek'] at e; cases e
        | some kk =>
          cases ev' : tv a with
          | none => rw [ek', ev'] at e; cases e
          | some v =>
            rw [ek', ev'] at e
            simp only [Option.bind_some] at e
            split at e
            · rename_i hm
              obtain ⟨o2, e5, e6⟩ := h2 kk ek'
              obtain ⟨w, e7, e8, e9⟩ := h3 v ev'
              simp only [e5, e6, e7, e8, dctPut_T H]
              rw [if_pos ⟨e9, by rw [List.length_map]; exact hm⟩]
              simp only [e2]
              exact dcGo_O H g tc tk tv l (dput m kk v) ys hl e
            · cases e
/-- {k: x for tg in it if c} -/
theorem evV_dcif (H : KeyT ek) {tc : α → Option Bool} {tk : α → Option κ} {tv : α → Option β} (l : List α) (g : α → D) (h1 : PI P it r (l.map g) r) (hf : freeR r own = true) (hb : backR r (wipeR r own) own = r)
    (turn : ∀ a, ∃ r1, bindT tg (g a) (wipeR r own) = some r1 ∧ wipeR r1 own = wipeR r own ∧ EvO P c r1 (tc a) .bl ∧ EvO P k r1 (tk a) ek ∧ ∃ f', (∀ y, D.frz (f' y) = ev y ∧ odD (f' y) = false) ∧ EvV P x r1 (tv a) f' r1) :
    EvV P (.dc own tg it (.cons c .nil) k x) r (dcO tc tk tv l []) (encDc true ek ev) r := fun ys e => by
  unfold evalE
  simp only [show evalI P it r = .ok (l.map g) r from h1, hf, if_true]
  have := dcGo_O (ev := ev) (own := own) (r := wipeR r own) (bd := bindT tg) (tst := fun r => evalT P (.cons c .nil) r) (key := fun r => evalE P k r) (elt := fun r => evalE P x r) H g tc tk tv l [] ys (fun a ha => by
    obtain ⟨r1, e1, e2, e3, e4, f', e5, e6⟩ := turn a
    exact ⟨r1, e1, e2, fun b hb => by rw [evalT]; exact e3 b hb, fun y hy => e4 y hy, fun y hy => ⟨_, e6 y hy, e5 y⟩⟩) e
  simp only [List.map_nil] at this
  rw [this]
  simp [hb]
/-- {k: x for tg in it} -/
theorem evV_dc (H : KeyT ek) {tk : α → Option κ} {tv : α → Option β} (l : List α) (g : α → D) (h1 : PI P it r (l.map g) r) (hf : freeR r own = true) (hb : backR r (wipeR r own) own = r)
    (turn : ∀ a, ∃ r1, bindT tg (g a) (wipeR r own) = some r1 ∧ wipeR r1 own = wipeR r own ∧ EvO P k r1 (tk a) ek ∧ ∃ f', (∀ y, D.frz (f' y) = ev y ∧ odD (f' y) = false) ∧ EvV P x r1 (tv a) f' r1) :
    EvV P (.dc own tg it .nil k x) r (dcO (fun _ => some true) tk tv l []) (encDc true ek ev) r := fun ys e => by
  unfold evalE
  simp only [show evalI P it r = .ok (l.map g) r from h1, hf, if_true]
  have := dcGo_O (ev := ev) (own := own) (r := wipeR r own) (bd := bindT tg) (tst := fun r => evalT P .nil r) (key := fun r => evalE P k r) (elt := fun r => evalE P x r) H g (fun _ => some true) tk tv l [] ys (fun a ha => by
    obtain ⟨r1, e1, e2, e4, f', e5, e6⟩ := turn a
    exact ⟨r1, e1, e2, fun b hb => by cases hb; exact ⟨.val (.bl true), by rw [evalT], rfl⟩, fun y hy => e4 y hy, fun y hy => ⟨_, e6 y hy, e5 y⟩⟩) e
  simp only [List.map_nil] at this
  rw [this]
  simp [hb]
/-! two fors -/
def dcInO (hk : γ → Option κ) (hv : γ → Option β) : List γ → List (κ × β) → Option (List (κ × β))
  | [], m => some m
  | b :: l, m => (hk b).bind fun k => (hv b).bind fun v => if m.length < sizeLine then dcInO hk hv l (dput m k v) else none
def dc2O (ti : α → Option (List γ)) (hk : α → γ → Option κ) (hv : α → γ → Option β) : List α → List (κ × β) → Option (List (κ × β))
  | [], m => some m
  | a :: l, m => (ti a).bind fun es => (dcInO (hk a) (hv a) es m).bind fun m => dc2O ti hk hv l m
theorem dcIn_O (H : KeyT ek) {bd : D → Rho → Option Rho} {key elt : Rho → RE} (g : γ → D) (tk : γ → Option κ) (tv : γ → Option β) : ∀ (l : List γ) (m ys : List (κ × β)),
    (∀ a ∈ l, ∃ r1, bd (g a) r = some r1 ∧ wipeR r1 vs1 = r ∧ (∀ y, tk a = some y → ∃ o, key r1 = .ok o r1 ∧ o.get r1 = some (ek y)) ∧ ∀ y, tv a = some y → ∃ w, elt r1 = .ok (.val w) r1 ∧ w.frz = ev y ∧ odD w = false) →
    dcInO tk tv l m = some ys → dcIn vs1 bd key elt (l.map g) r (m.map fun p => ek p.1) (m.map fun p => ev p.2) = some (r, ys.map (fun p => ek p.1), ys.map fun p => ev p.2)
  | [], m, ys, h, e => by
    unfold dcInO at e
    cases e
    rfl
  | a :: l, m, ys, h, e => by
    obtain ⟨r1, e1, e2, h2, h3⟩ := h a List.mem_cons_self
    unfold dcInO at e
    cases ek' : tk a with
    | none => rw [ek'] at e; cases e
    | some kk =>
      cases ev' : tv a with
      | none => rw [ek', ev'] at e; cases e
      | some v =>
        rw [ek', ev'] at e
        simp only [Option.bind_some] at e
        split at e
        · rename_i hm
          obtain ⟨o2, e5, e6⟩ := h2 kk ek'
          obtain ⟨w, e7, e8, e9⟩ := h3 v ev'
          rw [List.map_cons, dcIn, e1]
          simp only [RE.get, e5, e6, e7, e8, dctPut_T H]
          rw [if_pos ⟨e9, by rw [List.length_map]; exact hm⟩]
          simp only [e2]
          exact dcIn_O H g tk tv l (dput m kk v) ys (fun a ha => h a (List.mem_cons_of_mem _ ha)) e
        · cases e
theorem dcOut_O (H : KeyT ek) {bd bd1 : D → Rho → Option Rho} {i1 : Rho → RL} {key elt : Rho → RE} (g : α → D) (g1 : γ → D) (ti : α → Option (List γ)) (tk : α → γ → Option κ) (tv : α → γ → Option β) : ∀ (l : List α) (m ys : List (κ × β)),
    (∀ a ∈ l, ∃ r1, bd (g a) r = some r1 ∧ wipeR (wipeR r1 vs1) own = r ∧ (∀ es, ti a = some es → i1 r1 = .ok (es.map g1) r1) ∧ ∀ b, ∃ r2, bd1 (g1 b) (wipeR r1 vs1) = some r2 ∧ wipeR r2 vs1 = wipeR r1 vs1 ∧
      (∀ y, tk a b = some y → ∃ o, key r2 = .ok o r2 ∧ o.get r2 = some (ek y)) ∧ ∀ y, tv a b = some y → ∃ w, elt r2 = .ok (.val w) r2 ∧ w.frz = ev y ∧ odD w = false) →
    dc2O ti tk tv l m = some ys → dcOut own vs1 bd i1 bd1 key elt (l.map g) r (m.map fun p => ek p.1) (m.map fun p => ev p.2) = .ok (.val (encDc true ek ev ys)) r
  | [], m, ys, h, e => by
    unfold dc2O at e
    cases e
    rfl
  | a :: l, m, ys, h, e => by
    obtain ⟨r1, e1, e2, h1, h2⟩ := h a List.mem_cons_self
    unfold dc2O at e
    cases et : ti a with
    | none => rw [et] at e; cases e
    | some es =>
      rw [et] at e
      simp only [Option.bind_some] at e
      cases ei : dcInO (tk a) (tv a) es m with
      | none => rw [ei] at e; cases e
      | some m2 =>
        rw [ei] at e
        simp only [Option.bind_some] at e
        rw [List.map_cons, dcOut, e1]
        simp only [h1 es et]
        rw [dcIn_O (ev := ev) (vs1 := vs1) (r := wipeR r1 vs1) H g1 (tk a) (tv a) es m m2 (fun b _ => h2 b) ei]
        simp only [e2]
        exact dcOut_O H g g1 ti tk tv l m2 ys (fun a ha => h a (List.mem_cons_of_mem _ ha)) e
/-- {k: x for tg in it for tg1 in it1} -/
theorem evV_dc2 (H : KeyT ek) {ti : α → Option (List γ)} {tk : α → γ → Option κ} {tv : α → γ → Option β} (l : List α) (g : α → D) (g1 : γ → D) (h1 : PI P it r (l.map g) r) (hf : freeR r own = true) (hb : backR r (wipeR r own) own = r)
    (turn : ∀ a, ∃ r1, bindT tg (g a) (wipeR r own) = some r1 ∧ wipeR (wipeR r1 vs1) own = wipeR r own ∧ (∀ es, ti a = some es → PI P it1 r1 (es.map g1) r1) ∧ ∀ b, ∃ r2, bindT tg1 (g1 b) (wipeR r1 vs1) = some r2 ∧ wipeR r2 vs1 = wipeR r1 vs1 ∧
      EvO P k r2 (tk a b) ek ∧ ∃ f', (∀ y, D.frz (f' y) = ev y ∧ odD (f' y) = false) ∧ EvV P x r2 (tv a b) f' r2) :
    EvV P (.dc2 own vs1 tg it tg1 it1 k x) r (dc2O ti tk tv l []) (encDc true ek ev) r := fun ys e => by
  unfold evalE
  simp only [show evalI P it r = .ok (l.map g) r from h1, hf, if_true]
  have := dcOut_O (ev := ev) (own := own) (vs1 := vs1) (r := wipeR r own) (bd := bindT tg) (bd1 := bindT tg1) (i1 := fun r => evalI P it1 r) (key := fun r => evalE P k r) (elt := fun r => evalE P x r) H g g1 ti tk tv l [] ys (fun a ha => by
    obtain ⟨r1, e1, e2, e3, e4⟩ := turn a
    refine ⟨r1, e1, e2, e3, fun b => ?_⟩
    obtain ⟨r2, e5, e6, e7, f', e8, e9⟩ := e4 b
    exact ⟨r2, e5, e6, fun y hy => e7 y hy, fun y hy => ⟨_, e9 y hy, e8 y⟩⟩) e
  simp only [List.map_nil] at this
  rw [this]
  simp [hb]
/-! len({k: True for ..}) -/
structure NkT (e : κ → D) : Prop where
  key : ∀ a, ∃ k, nkT (e a) = some k
  inj : ∀ a b, nkT (e a) = nkT (e b) → a = b
theorem evV_nd (N : NkT ek) (l : List κ) (h1 : PI P it r (l.map ek) r) (hf : freeR r own = true) (hb : backR r (wipeR r own) own = r)
    (turn : ∀ a, ∃ r1, bindT tg (ek a) (wipeR r own) = some r1 ∧ wipeR r1 own = wipeR r own ∧ PO P k r1 (ek a) ∧ PV P x r1 (.bl true) r1) :
    EvV P (.nd own tg it k x) r (gO (l.length ≤ sizeLine) (some ((nubK l).length : Int))) .int r := fun ys e => by
  unfold gO at e
  split at e
  case isFalse => cases e
  rename_i hl
  cases e
  unfold evalE
  simp only [show evalI P it r = .ok (l.map ek) r from h1, hf, if_true]
  have fn : ∃ g : κ → NestedKey, (∀ a, nkT (ek a) = some (g a)) ∧ ∀ a b, g a = g b → a = b := by
    refine ⟨fun a => (nkT (ek a)).getD (.num 0), fun a => ?_, fun a b h => ?_⟩
    · obtain ⟨j, hj⟩ := N.key a
      simp [hj]
    · obtain ⟨i, hi⟩ := N.key a
      obtain ⟨j, hj⟩ := N.key b
      simp only [hi, hj, Option.getD_some] at h
      exact N.inj a b (by rw [hi, hj, h])
  obtain ⟨g, g1, g2⟩ := fn
  have go : ∀ (l acc : List κ), acc.length + l.length ≤ sizeLine → ndGo own (bindT tg) (fun r => evalE P k r) (fun r => evalE P x r) (l.map ek) (wipeR r own) (acc.map g) = .ok (.val (.int ((l.foldl (fun acc k => if acc.any (fun j => decide (j = k)) then acc else acc ++ [k]) acc).length : Nat))) (wipeR r own) := by
    intro l
    induction l with
    | nil => intro acc _; simp [ndGo]
    | cons a l ih =>
      intro acc hal
      rw [List.length_cons] at hal
      obtain ⟨r1, e1, e2, ⟨o, e3, e4⟩, e5⟩ := turn a
      rw [List.map_cons, ndGo, e1]
      have e5 : evalE P x r1 = .ok (.val (.bl true)) r1 := e5
      simp only [RE.get, e3, e4, e5, g1]
      rw [if_pos (by rw [List.length_map]; omega), List.foldl_cons]
      have e : ((acc.map g).any fun j => decide (j = g a)) = acc.any fun j => decide (j = a) := by
        rw [List.any_map]
        congr 1
        funext b
        simp only [Function.comp_apply, decide_eq_decide]
        exact ⟨g2 b a, fun z => by rw [z]⟩
      rw [e, e2]
      split
      · exact ih acc (by omega)
      · rw [← List.map_singleton, ← List.map_append]
        exact ih _ (by rw [List.length_append, List.length_singleton]; omega)
  have := go l [] (by simpa using hl)
  simp only [List.map_nil] at this
  rw [this]
  simp only [hb]
  rfl
end
theorem nk_strs : ∀ l : List Tx, nkDs (l.map encT) = some (l.map fun t => NestedKey.text (strT t))
  | [] => by simp [nkDs]
  | a :: l => by simp [nkDs, nkD, encT, nk_strs l]
theorem depth_texts : ∀ l : List Tx, NestedKey.depthAll (l.map fun t => NestedKey.text (strT t)) ≤ 0
  | [] => by simp [NestedKey.depthAll]
  | a :: l => by
    have := depth_texts l
    simp [NestedKey.depthAll, NestedKey.depth]
    omega
theorem NkT.rule : NkT (enc2 encT (encS encT)) where
  key := fun a => by
    unfold nkT enc2 encS
    simp only [nkD, nkDs, nk_strs, encT]
    rw [if_pos]
    · exact ⟨_, rfl⟩
    · have := depth_texts a.2
      simp [NestedKey.depth, NestedKey.depthAll]
      omega
  inj := fun a b h => by
    have f : ∀ a : Tx × List Tx, nkT (enc2 encT (encS encT) a) = some (.tup [.text (strT a.1), .tup (a.2.map fun t => NestedKey.text (strT t))]) := fun a => by
      unfold nkT enc2 encS
      simp only [nkD, nkDs, nk_strs, encT]
      rw [if_pos]
      have := depth_texts a.2
      simp [NestedKey.depth, NestedKey.depthAll]
      omega
    rw [f, f] at h
    simp only [Option.some.injEq, NestedKey.tup.injEq, List.cons.injEq, NestedKey.text.injEq, and_true] at h
    obtain ⟨h1, h2⟩ := h
    refine Prod.ext (strT_inj.mp h1) ?_
    exact (List.map_inj_right (f := fun t : Tx => NestedKey.text (strT t)) (fun x y e => by
      simp only [NestedKey.text.injEq] at e
      exact strT_inj.mp e)).mp h2
/-! more forms -/
section
variable {α : Type} {f : α → D}
theorem enumK_s (l : List α) : enumK [encS f l] = some ((enumT l 0).map (enc2 .int f)) := by
  simp only [enumK, encS, enumD_map]
def mkF (f : α → D) (h : ∀ a, (f a).own = false) (a : α) : FD := ⟨f a, h a⟩
theorem encS_F (h : ∀ a, (f a).own = false) (l : List α) : encS f l = encS encF (l.map (mkF f h)) := by
  unfold encS
  rw [List.map_map]
  rfl
theorem encL_F {o : Bool} (h : ∀ a, (f a).own = false) (l : List α) : encL o f l = encL o encF (l.map (mkF f h)) := by
  unfold encL
  rw [List.map_map]
  rfl
/-- is one text within another -/
def inTx (a b : Tx) : Bool := subStr (strT a) (strT b)
theorem op_in_t (a b : Tx) : opD .isin (encT a) (encT b) = some (.bl (inTx a b)) := rfl
def ltT (c : Cmp) (a b : Tx) : Bool := cmpS c (strT a) (strT b)
theorem op_lt_t (a b : Tx) : opD .lt (encT a) (encT b) = some (.bl (ltT .lt a b)) := rfl
theorem op_le_t (a b : Tx) : opD .le (encT a) (encT b) = some (.bl (ltT .le a b)) := rfl
theorem op_gt_t (a b : Tx) : opD .gt (encT a) (encT b) = some (.bl (ltT .gt a b)) := rfl
theorem op_ge_t (a b : Tx) : opD .ge (encT a) (encT b) = some (.bl (ltT .ge a b)) := rfl
def oS : Option D → Option Str
  | some (.str s) => some s
  | _ => none
def oT : Option D → Option (List FD)
  | some (.tup l) => fdL l
  | _ => none
theorem oT_q {o : Option D} {m : List FD} (h : oT o = some m) : o = some (encS encF m) := by
  unfold oT at h
  split at h
  · rw [fdL_q h]; rfl
  · cases h
theorem some_i {d e : D} (h : some d = some e) : d = e := Option.some.inj h
theorem bi_len_2 {β : Type} {g : β → D} (p : α × β) : biD .len [enc2 f g p] = some (.int 2) := rfl
theorem bi_len_3 {β γ : Type} {g : β → D} {h : γ → D} (p : α × β × γ) : biD .len [enc3 f g h p] = some (.int 3) := rfl
end
/-! ## statements -/
section
variable {P : Phi} {fu : Nat} {Er : Rho → Prop} {X : RS} {α β γ : Type} {Q : β → RS → Prop} {t : M β} {r r1 r2 : Rho} {K : Rho → RS} {e k k1 k2 : IE} {ss : ISs} {i j : Nat}
/-- x[k] = e, the dict (or list) named anew -/
theorem J_put {d kd c c' : D} (h : PV P e r d r1) (hc : getS r1 i = some c) (hk : PO P k r1 kd) (od : odD d = false) (hp : putD c kd d.frz = some c') (hr : r1.set i (some c') = r2) (kk : J Er (ex P fu ss r2 K) t Q) : J Er (ex P fu (.cons (.put i k e) ss) r K) t Q := by
  obtain ⟨o, e1, g1⟩ := hk
  rw [ex_cons]
  unfold evalS
  simp only [show evalE P e r = .ok (.val d) r1 from h, hc, od, Option.isSome_some, Bool.not_false, Bool.and_self, if_true, e1, g1, hp, thenS, hr]
  exact kk
theorem J_putL {f : γ → D} {d d' kd c : D} {y : γ} {k' : γ → M β} (h : PV P e r d r1) (hc : getS r1 i = some c) (hk : PO P k r1 kd) (od : odD d = false) (hd : d.frz = d') (hp : putD c kd d' = some (f y)) (kk : ∀ y, J Er (ex P fu ss (r1.set i (some (f y))) K) (k' y) Q) : J Er (ex P fu (.cons (.put i k e) ss) r K) (let_ y k') Q := by
  subst hd
  exact J_put h hc hk od hp rfl (kk y)
/-- x[k1], y[k2] = a, b -/
theorem J_put2 {d1 d2 kd1 kd2 c1 c2 c1' c2' : D} (h : PV P e r (.tup [d1, d2]) r1) (hc : getS r1 i = some c1) (hk : PO P k1 r1 kd1) (hp : putD c1 kd1 d1 = some c1') (hr : r1.set i (some c1') = r2) (hc2 : getS r2 j = some c2) (hk2 : PO P k2 r2 kd2) (hp2 : putD c2 kd2 d2 = some c2')
    {r3 : Rho} (hr2 : r2.set j (some c2') = r3) (kk : J Er (ex P fu ss r3 K) t Q) : J Er (ex P fu (.cons (.put2 i j k1 k2 e) ss) r K) t Q := by
  obtain ⟨o, e1, g1⟩ := hk
  obtain ⟨o2, e2, g2⟩ := hk2
  rw [ex_cons]
  unfold evalS
  simp only [show evalE P e r = .ok (.val (.tup [d1, d2])) r1 from h, putIx, hc, Option.isSome_some, if_true, e1, g1, hp, hr, hc2, e2, g2, hp2, thenS, hr2]
  exact kk
/-- a, b = x, y -/
theorem J_par {kp1 kp2 : Bool} {d1 d2 : D} {x y : IE} {a b : D} (h1 : PV P x r d1 r1) (h2 : PV P y r1 d2 r2) (hij : i ≠ j) (hi : i < r2.length) (hj : j < r2.length) (o1 : kp1 = true ∨ odD d1 = false) (o2 : kp2 = true ∨ odD d2 = false)
    (ha : (if kp1 = true then d1 else d1.frz) = a) (hb : (if kp2 = true then d2 else d2.frz) = b) {r3 : Rho} (hr : (r2.set i (some a)).set j (some b) = r3) (kk : J Er (ex P fu ss r3 K) t Q) : J Er (ex P fu (.cons (.par kp1 kp2 i j (.cons x (.cons y .nil))) ss) r K) t Q := by
  subst ha hb
  rw [ex_cons]
  unfold evalS
  have e : evalO P (.cons x (.cons y .nil)) r = .ok [.val d1, .val d2] r2 := by
    unfold evalO
    simp only [show evalE P x r = .ok (.val d1) r1 from h1]
    unfold evalO
    simp only [show evalE P y r1 = .ok (.val d2) r2 from h2]
    unfold evalO
    rfl
  simp only [e]
  rw [if_pos ⟨hij, hi, hj, o1, o2⟩]
  simp only [thenS, hr]
  exact kk
/-- try: .. except X as e: return isinstance(e, Y) -/
theorem J_tryA {n m s : Nat} {b : ISs} {d1 d2 : D} {E1 : Rho → Prop} {tb : M γ} {Q1 : γ → RS → Prop} {kk : γ → M β} {th : Nat → M β} (hia : P.ia = true) (h1 : J E1 (ex P fu b r .nx) tb Q1) (hq : ∀ v X, Q1 v X → ∀ j r, X ≠ .er j r) (hk : ∀ v X, Q1 v X → J Er (thenS X fun r => ex P fu ss r K) (kk v) Q)
    (hl : ∀ r, E1 r → s < r.length) (he : ∀ j r, E1 r → J Er (if P.sub j n then .rt (if P.sub j m then d1 else d2) else .er j r) (th j) Q) : J Er (ex P fu (.cons (.tryA b n m s d1 d2) ss) r K) (M.tri tb kk th) Q := by
  rw [ex_cons]
  unfold evalS
  rw [ex_nx] at h1
  cases q : tb with
  | st => exact trivial
  | ok v =>
    rw [q] at h1
    have h1' : Q1 v (evalSs P fu b r) := h1
    have h2 := hk v _ h1'
    cases e : evalSs P fu b r with
    | er j r1 => rw [e] at h1'; exact absurd rfl (hq v _ h1' j r1)
    | nx r1 => rw [e] at h2; exact h2
    | rt d => rw [e] at h2; exact h2
    | bk r1 => rw [e] at h2; exact h2
    | ct r1 => rw [e] at h2; exact h2
    | stuck => rw [e] at h2; exact h2
  | er j =>
    rw [q] at h1
    obtain ⟨r1, h2, h3⟩ := h1
    have z := he j r1 h3
    rw [h2]
    simp only [hia, hl r1 h3, decide_true, Bool.and_self, if_true]
    split
    · rename_i hs
      rw [if_pos hs] at z
      exact z
    · rename_i hs
      rw [if_neg hs] at z
      exact z
theorem J_hA {s : Nat → Nat → Bool} {n m j : Nat} {d1 d2 : D} {b1 b2 : β} (hs : P.sub = s) (q1 : Q b1 (.rt d1)) (q2 : Q b2 (.rt d2)) (he : Er r) : J Er (if P.sub j n then .rt (if P.sub j m then d1 else d2) else .er j r) (if s j n then (if s j m then .ok b1 else .ok b2) else .er j) Q := by
  subst hs
  split
  · split
    · exact q1
    · exact q2
  · exact ⟨r, rfl, he⟩
theorem phi_ia (p : Prg) (n : Nat) : (p.phi n).ia = p.ia := by cases n <;> rfl
end
end GF
/-! plain: what is in order -/
namespace GF
open PySem
/-- data of one kind, in order -/
structure OrdT {α : Type} (f : α → D) (k : Nat) : Prop where
  pl : PlT f k
  al : ∀ a b, W.alike (pyOr (f a)) (pyOr (f b)) = true
  so : (∀ a, tup1 (pyOr (f a)) = true) ∨ ∀ a, othP (pyOr (f a)) = true
  anti : ∀ a b, ltD (f a) (f b) = false → ltD (f b) (f a) = false → a = b
section
variable {α β γ : Type} {f : α → D} {g : β → D} {h : γ → D} {k : Nat}
theorem pyOr_some {d : D} {p : PyData} (e : d.py = some p) : pyOr d = p := by unfold pyOr; rw [e]; rfl
theorem ltD_int (a b : Int) : ltD (.int a) (.int b) = decide (a < b) := by
  unfold ltD
  rw [pyOr_some (d := .int a) (p := .int a) (by simp [D.py]), pyOr_some (d := .int b) (p := .int b) (by simp [D.py]), W.dataLt_int]
theorem ltD_str (a b : Tx) : ltD (encT a) (encT b) = decide (a.map Char.toNat < b.map Char.toNat) := by
  unfold ltD
  rw [pyOr_some (d := encT a) (p := .str (strT a)) (by simp [encT, D.py]), pyOr_some (d := encT b) (p := .str (strT b)) (by simp [encT, D.py]), W.dataLt_str]
  rfl
theorem leD_lt (a b : D) : leD a b = !ltD b a := rfl
theorem OrdT.int {k : Nat} : OrdT D.int k where
  pl := PlT.int
  al := fun a b => by rw [pyOr_some (d := .int a) (p := .int a) (by simp [D.py]), pyOr_some (d := .int b) (p := .int b) (by simp [D.py])]; simp [W.alike]
  so := .inr fun a => by rw [pyOr_some (d := .int a) (p := .int a) (by simp [D.py])]; rfl
  anti := fun a b h1 h2 => by
    rw [ltD_int, decide_eq_false_iff_not] at h1 h2
    omega
theorem OrdT.str {k : Nat} : OrdT encT k where
  pl := PlT.str
  al := fun a b => by rw [pyOr_some (d := encT a) (p := .str (strT a)) (by simp [encT, D.py]), pyOr_some (d := encT b) (p := .str (strT b)) (by simp [encT, D.py])]; simp [W.alike]
  so := .inr fun a => by rw [pyOr_some (d := encT a) (p := .str (strT a)) (by simp [encT, D.py])]; rfl
  anti := fun a b h1 h2 => by
    rw [ltD_str, decide_eq_false_iff_not] at h1 h2
    have h3 : a.map Char.toNat = b.map Char.toNat := List.le_antisymm h2 h1
    exact (List.map_inj_right (f := Char.toNat) (fun x y h => by
      have : x.val.toNat = y.val.toNat := h
      exact Char.ext (UInt32.toNat_inj.mp this))).mp h3
theorem py_2 (F : PlT f k) (G : PlT g k) (p : α × β) : pyOr (enc2 f g p) = .tuple [pyOr (f p.1), pyOr (g p.2)] := by
  obtain ⟨a, h1, _⟩ := F.pl p.1
  obtain ⟨b, h2, _⟩ := G.pl p.2
  rw [pyOr_some h1, pyOr_some h2]
  exact pyOr_some (by simp [enc2, D.py, pysD, h1, h2])
theorem eqv_T [DecidableEq α] (F : PlT f k) (a b : α) : PyData.eqv (pyOr (f a)) (pyOr (f b)) = decide (a = b) := by
  obtain ⟨p, h1, _⟩ := F.pl a
  obtain ⟨q, h2, _⟩ := F.pl b
  rw [pyOr_some h1, pyOr_some h2, Bool.eq_iff_iff, decide_eq_true_eq]
  exact F.eq a b p q h1 h2
theorem ltD_2 [DecidableEq α] [DecidableEq β] (F : OrdT f k) (G : OrdT g k) (p q : α × β) : ltD (enc2 f g p) (enc2 f g q) = if p.1 = q.1 then (if p.2 = q.2 then false else ltD (g p.2) (g q.2)) else ltD (f p.1) (f q.1) := by
  unfold ltD
  rw [py_2 F.pl G.pl, py_2 F.pl G.pl, W.dataLt_pair (F.al _ _) (G.al _ _), eqv_T F.pl, eqv_T G.pl]
  simp only [decide_eq_true_eq]
theorem ltD_irr (F : OrdT f k) (a : α) : ltD (f a) (f a) = false := PyProof.Rows.lex_irrefl _
theorem OrdT.t2 [DecidableEq α] [DecidableEq β] (F : OrdT f k) (G : OrdT g k) : OrdT (enc2 f g) (k + 1) where
  pl := F.pl.t2 G.pl
  al := fun a b => by
    rw [py_2 F.pl G.pl, py_2 F.pl G.pl]
    simp [W.alike, W.alikeAll, F.al, G.al]
  so := .inl fun a => by rw [py_2 F.pl G.pl]; rfl
  anti := fun a b h1 h2 => by
    rw [ltD_2 F G] at h1 h2
    by_cases e : a.1 = b.1
    · rw [if_pos e] at h1
      rw [if_pos e.symm] at h2
      by_cases e2 : a.2 = b.2
      · exact Prod.ext e e2
      · rw [if_neg e2] at h1
        rw [if_neg (fun z => e2 z.symm)] at h2
        exact absurd (G.anti _ _ h1 h2) e2
    · rw [if_neg e] at h1
      rw [if_neg (fun z => e z.symm)] at h2
      exact absurd (F.anti _ _ h1 h2) e
theorem pysD_or (F : PlT f k) : ∀ l : List α, ∃ ps, pysD (l.map f) = some ps ∧ ps = l.map (fun a => pyOr (f a)) ∧ PyData.depthAll ps ≤ k
  | [] => ⟨[], by simp [pysD], rfl, by simp [PyData.depthAll]⟩
  | a :: l => by
    obtain ⟨p, h1, _, h2⟩ := F.pl a
    obtain ⟨ps, h3, h4, h5⟩ := pysD_or F l
    exact ⟨p :: ps, by simp [pysD, h1, h3], by rw [List.map_cons, ← h4, pyOr_some h1], by simp [PyData.depthAll]; omega⟩
theorem sortOk_T (F : OrdT f k) (hk : k ≤ 60) {l : List α} (hl : l.length ≤ sizeLine) : sortOk (l.map f) = true := by
  obtain ⟨ps, h1, h2, h3⟩ := pysD_or F.pl l
  unfold sortOk
  rw [h1]
  simp only [Bool.and_eq_true, decide_eq_true_eq, List.length_map]
  refine ⟨⟨⟨?_, ?_⟩, by omega⟩, hl⟩
  · unfold alikeL
    subst h2
    rw [List.all_eq_true]
    intro p hp
    rw [List.all_eq_true]
    intro q hq
    obtain ⟨a, _, rfl⟩ := List.mem_map.mp hp
    obtain ⟨b, _, rfl⟩ := List.mem_map.mp hq
    exact F.al a b
  · unfold sortableL
    subst h2
    rw [Bool.or_eq_true, List.all_eq_true, List.all_eq_true]
    rcases F.so with h | h
    · left; intro p hp; obtain ⟨a, _, rfl⟩ := List.mem_map.mp hp; exact h a
    · right; intro p hp; obtain ⟨a, _, rfl⟩ := List.mem_map.mp hp; exact h a
theorem leD_total : W.TotalLe leD := by
  unfold leD W.dataLe
  exact W.sortLe_total _ _ _
theorem leT_tot (f : α → D) : W.TotalLe fun a b => leD (f a) (f b) := ⟨fun a b c => leD_total.trans (f a) (f b) (f c), fun a b => leD_total.total (f a) (f b)⟩
theorem srt_perm (f : α → D) (l : List α) : (srtT f l).Perm l := List.mergeSort_perm l _
theorem srt_len (f : α → D) (l : List α) : (srtT f l).length = l.length := (srt_perm f l).length_eq
theorem srt_mem {a : α} {l : List α} : a ∈ srtT f l ↔ a ∈ l := (srt_perm f l).mem_iff
theorem srt_pw (f : α → D) (l : List α) : (srtT f l).Pairwise fun a b => leD (f a) (f b) = true := W.sort_pairwise (leT_tot f) l
theorem leD_anti (F : OrdT f k) {a b : α} (h1 : leD (f a) (f b) = true) (h2 : leD (f b) (f a) = true) : a = b := by
  rw [leD_lt, Bool.not_eq_true'] at h1 h2
  exact F.anti a b h2 h1
theorem srt_uniq (F : OrdT f k) {l m : List α} (hp : m.Perm l) (hs : m.Pairwise fun a b => leD (f a) (f b) = true) : m = srtT f l := by
  refine List.Perm.eq_of_pairwise (le := fun a b => leD (f a) (f b) = true) (fun a b _ _ h1 h2 => leD_anti F h1 h2) hs (srt_pw f l) (hp.trans (srt_perm f l).symm)
theorem srt_of_perm (F : OrdT f k) {l m : List α} (hp : m.Perm l) : srtT f m = srtT f l := srt_uniq F ((srt_perm f m).trans hp) (srt_pw f m)
/-- pairs in order are the keys in order -/
theorem srt_pairs [DecidableEq α] [DecidableEq β] (F : OrdT f k) (G : OrdT g k) {l : List (α × β)} (hn : (l.map (·.1)).Nodup) {v : α → β} (hv : ∀ p ∈ l, p.2 = v p.1) : srtT (enc2 f g) l = (srtT f (l.map (·.1))).map fun a => (a, v a) := by
  have el : l = (l.map (·.1)).map fun a => (a, v a) := by
    rw [List.map_map]
    conv => lhs; rw [← List.map_id l]
    apply List.map_congr_left
    intro p hp
    exact Prod.ext rfl (hv p hp)
  conv => lhs; rw [el]
  unfold srtT
  symm
  refine W.sort_maps (fun a => (a, v a)) fun a ha b hb => ?_
  show (!ltD (f b) (f a)) = !ltD (enc2 f g (b, v b)) (enc2 f g (a, v a))
  rw [ltD_2 F G]
  by_cases e : b = a
  · subst e
    simp [ltD_irr F]
  · simp [e]
theorem min_spec (F : OrdT f k) : ∀ (l : List α) (x m : α), l.foldl (fun a y => if ltD (f y) (f a) then y else a) x = m → m ∈ x :: l ∧ ∀ y ∈ x :: l, leD (f m) (f y) = true := by
  intro l
  induction l with
  | nil =>
    intro x m e
    subst e
    refine ⟨List.mem_cons_self, fun y hy => ?_⟩
    simp only [List.foldl_nil, List.mem_singleton] at hy ⊢
    subst hy
    exact leD_total.refl _
  | cons z l ih =>
    intro x m e
    rw [List.foldl_cons] at e
    obtain ⟨h1, h2⟩ := ih _ m e
    by_cases c : ltD (f z) (f x) = true
    · rw [if_pos c] at h1 h2
      refine ⟨List.mem_cons_of_mem _ h1, fun y hy => ?_⟩
      rcases List.mem_cons.mp hy with rfl | hy
      · have a1 := h2 z List.mem_cons_self
        refine leD_total.trans _ _ _ a1 ?_
        rcases leD_total.total (f z) (f y) with t | t
        · exact t
        · rw [leD_lt, c] at t; cases t
      · exact h2 y hy
    · rw [if_neg c] at h1 h2
      refine ⟨by rcases List.mem_cons.mp h1 with rfl | h1; exact List.mem_cons_self; exact List.mem_cons_of_mem _ (List.mem_cons_of_mem _ h1), fun y hy => ?_⟩
      rcases List.mem_cons.mp hy with rfl | hy
      · exact h2 _ List.mem_cons_self
      · rcases List.mem_cons.mp hy with rfl | hy
        · refine leD_total.trans _ _ _ (h2 x List.mem_cons_self) ?_
          rw [leD_lt]
          simpa using c
        · exact h2 y (List.mem_cons_of_mem _ hy)
theorem minT_spec (F : OrdT f k) {l : List α} {m : α} (e : minT f l = some m) : m ∈ l ∧ ∀ y ∈ l, leD (f m) (f y) = true := by
  cases l with
  | nil => cases e
  | cons x l => exact min_spec F l x m (Option.some.inj e)
theorem minT_some {l : List α} (h : l ≠ []) : ∃ m, minT f l = some m := by
  cases l with
  | nil => exact absurd rfl h
  | cons x l => exact ⟨_, rfl⟩
end
/-! each once -/
section
variable {α : Type} [DecidableEq α]
theorem nub_go : ∀ (l acc : List α), acc.Nodup → (l.foldl (fun acc k => if acc.any (fun j => decide (j = k)) then acc else acc ++ [k]) acc).Nodup ∧ (∀ a, a ∈ l.foldl (fun acc k => if acc.any (fun j => decide (j = k)) then acc else acc ++ [k]) acc ↔ a ∈ acc ∨ a ∈ l)
  | [], acc, h => ⟨h, fun a => by simp⟩
  | x :: l, acc, h => by
    rw [List.foldl_cons]
    by_cases c : acc.any (fun j => decide (j = x)) = true
    · rw [if_pos c]
      obtain ⟨h1, h2⟩ := nub_go l acc h
      refine ⟨h1, fun a => ?_⟩
      rw [h2 a, List.mem_cons]
      have hx : x ∈ acc := memB_iff.mp c
      constructor
      · rintro (z | z)
        · exact .inl z
        · exact .inr (.inr z)
      · rintro (z | rfl | z)
        · exact .inl z
        · exact .inl hx
        · exact .inr z
    · rw [if_neg c]
      have hx : x ∉ acc := fun z => c (memB_iff.mpr z)
      obtain ⟨h1, h2⟩ := nub_go l (acc ++ [x]) (by
        rw [List.nodup_append]
        refine ⟨h, by simp, fun a ha b hb e => ?_⟩
        simp only [List.mem_singleton] at hb
        subst hb e
        exact hx ha)
      refine ⟨h1, fun a => ?_⟩
      rw [h2 a, List.mem_append, List.mem_singleton, List.mem_cons]
      constructor
      · rintro ((z | z) | z)
        · exact .inl z
        · exact .inr (.inl z)
        · exact .inr (.inr z)
      · rintro (z | z | z)
        · exact .inl (.inl z)
        · exact .inl (.inr z)
        · exact .inr z
theorem nub_nodup (l : List α) : (nubK l).Nodup := (nub_go l [] List.nodup_nil).1
theorem nub_mem {l : List α} {a : α} : a ∈ nubK l ↔ a ∈ l := by
  have := (nub_go l [] List.nodup_nil).2 a
  simp only [List.not_mem_nil, false_or] at this
  exact this
theorem nub_le (l : List α) : (nubK l).length ≤ l.length := by
  have : ∀ (l acc : List α), (l.foldl (fun acc k => if acc.any (fun j => decide (j = k)) then acc else acc ++ [k]) acc).length ≤ acc.length + l.length := by
    intro l
    induction l with
    | nil => intro acc; simp
    | cons x l ih =>
      intro acc
      rw [List.foldl_cons, List.length_cons]
      split
      · have := ih acc; omega
      · have := ih (acc ++ [x]); rw [List.length_append, List.length_singleton] at this; omega
  have z := this l []
  rw [List.length_nil, Nat.zero_add] at z
  exact z
theorem nub_id : ∀ l : List α, l.Nodup → nubK l = l := by
  have : ∀ (l acc : List α), (acc ++ l).Nodup → l.foldl (fun acc k => if acc.any (fun j => decide (j = k)) then acc else acc ++ [k]) acc = acc ++ l := by
    intro l
    induction l with
    | nil => intro acc _; simp
    | cons x l ih =>
      intro acc h
      rw [List.foldl_cons, if_neg, ih (acc ++ [x]) (by simpa using h)]
      · simp
      · intro c
        have hx : x ∈ acc := memB_iff.mp c
        rw [List.nodup_append] at h
        exact h.2.2 x hx x List.mem_cons_self rfl
  intro l h
  exact this l [] (by simpa using h)
theorem nub_len_iff {l : List α} : (nubK l).length = l.length ↔ l.Nodup := by
  constructor
  · intro h
    have : ∀ (n : Nat) (l : List α), l.length = n → (nubK l).length = l.length → l.Nodup := by
      intro n
      induction n with
      | zero => intro l hl _; have := List.eq_nil_of_length_eq_zero hl; subst this; exact List.nodup_nil
      | succ n ih =>
        intro l hl he
        have hne : l ≠ [] := by rintro rfl; simp at hl
        obtain ⟨m, x, rfl⟩ : ∃ m x, l = m ++ [x] := ⟨l.dropLast, l.getLast hne, (List.dropLast_concat_getLast hne).symm⟩
        have hs : nubK (m ++ [x]) = if (nubK m).any (fun j => decide (j = x)) then nubK m else nubK m ++ [x] := by
          unfold nubK
          rw [List.foldl_append]
          rfl
        have hm := nub_le m
        rw [hs] at he
        rw [List.length_append, List.length_singleton] at he hl
        split at he
        · omega
        · rename_i c
          rw [List.length_append, List.length_singleton] at he
          have h1 := ih m (by omega) (by omega)
          rw [List.nodup_append]
          refine ⟨h1, by simp, fun a ha b hb e => ?_⟩
          simp only [List.mem_singleton] at hb
          subst hb e
          exact c (memB_iff.mpr (nub_mem.mpr ha))
    exact this _ l rfl h
  · intro h; rw [nub_id l h]
end
/-! a dict's keys -/
section
variable {α β κ : Type} [DecidableEq κ]
theorem dcO_keys {l : List α} {hk : α → κ} {hv : α → β} : ∀ (m : List (κ × β)), m.length + l.length ≤ sizeLine → ∃ ys, dcO (fun _ => some true) (fun a => some (hk a)) (fun a => some (hv a)) l m = some ys ∧ ys.map (·.1) = (l.map hk).foldl (fun acc k => if acc.any (fun j => decide (j = k)) then acc else acc ++ [k]) (m.map (·.1)) := by
  induction l with
  | nil => intro m _; exact ⟨m, rfl, rfl⟩
  | cons a l ih =>
    intro m hm
    rw [List.length_cons] at hm
    obtain ⟨ys, h1, h2⟩ := ih (dput m (hk a) (hv a)) (by have := dput_len (l := m) (k := hk a) (v := hv a); omega)
    refine ⟨ys, ?_, ?_⟩
    · unfold dcO
      simp only [Option.bind_some, if_true]
      rw [if_pos (by omega)]
      exact h1
    · rw [h2, List.map_cons, List.foldl_cons, dput_keys]
      have : (dget m (hk a)).isSome = (m.map (·.1)).any fun j => decide (j = hk a) := by
        rw [Bool.eq_iff_iff, dget_isSome]
        exact memB_iff.symm
      rw [this]
theorem dcO_nub {l : List α} {hk : α → κ} {hv : α → β} (hl : l.length ≤ sizeLine) : ∃ ys, dcO (fun _ => some true) (fun a => some (hk a)) (fun a => some (hv a)) l [] = some ys ∧ ys.map (·.1) = nubK (l.map hk) := dcO_keys (l := l) (hk := hk) (hv := hv) [] (by simpa using hl)
end
end GF
namespace GF
open PySem
section
variable {α β κ γ : Type} [DecidableEq κ]
theorem dcIn_keys {l : List γ} {hk : γ → κ} {hv : γ → β} : ∀ (m : List (κ × β)), m.length + l.length ≤ sizeLine → ∃ ys, dcInO (fun a => some (hk a)) (fun a => some (hv a)) l m = some ys ∧ ys.map (·.1) = (l.map hk).foldl (fun acc k => if acc.any (fun j => decide (j = k)) then acc else acc ++ [k]) (m.map (·.1)) ∧ ys.length ≤ m.length + l.length := by
  induction l with
  | nil => intro m _; exact ⟨m, rfl, rfl, by simp⟩
  | cons a l ih =>
    intro m hm
    rw [List.length_cons] at hm
    have dl := dput_len (l := m) (k := hk a) (v := hv a)
    obtain ⟨ys, h1, h2, h3⟩ := ih (dput m (hk a) (hv a)) (by omega)
    refine ⟨ys, ?_, ?_, by rw [List.length_cons]; omega⟩
    · unfold dcInO
      simp only [Option.bind_some]
      rw [if_pos (by omega)]
      exact h1
    · rw [h2, List.map_cons, List.foldl_cons, dput_keys]
      have : (dget m (hk a)).isSome = (m.map (·.1)).any fun j => decide (j = hk a) := by
        rw [Bool.eq_iff_iff, dget_isSome]
        exact memB_iff.symm
      rw [this]
theorem dc2O_keys {ti : α → List γ} {hk : α → γ → κ} {hv : α → γ → β} : ∀ (l : List α) (m : List (κ × β)), m.length + (l.flatMap ti).length ≤ sizeLine → ∃ ys, dc2O (fun a => some (ti a)) (fun a b => some (hk a b)) (fun a b => some (hv a b)) l m = some ys ∧ ys.map (·.1) = (l.flatMap fun a => (ti a).map (hk a)).foldl (fun acc k => if acc.any (fun j => decide (j = k)) then acc else acc ++ [k]) (m.map (·.1)) := by
  intro l
  induction l with
  | nil => intro m _; exact ⟨m, rfl, rfl⟩
  | cons a l ih =>
    intro m hm
    rw [List.flatMap_cons, List.length_append] at hm
    obtain ⟨m2, h1, h2, h3⟩ := dcIn_keys (l := ti a) (hk := hk a) (hv := hv a) m (by omega)
    obtain ⟨ys, h4, h5⟩ := ih m2 (by omega)
    refine ⟨ys, ?_, ?_⟩
    · unfold dc2O
      simp only [Option.bind_some, h1]
      exact h4
    · rw [h5, List.flatMap_cons, List.foldl_append, h2]
theorem dc2O_nub {ti : α → List γ} {hk : α → γ → κ} {hv : α → γ → β} {l : List α} (hl : (l.flatMap ti).length ≤ sizeLine) : ∃ ys, dc2O (fun a => some (ti a)) (fun a b => some (hk a b)) (fun a b => some (hv a b)) l [] = some ys ∧ ys.map (·.1) = nubK (l.flatMap fun a => (ti a).map (hk a)) := dc2O_keys l [] (by simpa using hl)
end
/-! symbols -/
abbrev Rl := Tx × List Tx
def isL (s : Tx) : Bool := decide ((s.length : Int) = 1) && inTx s ("abcdefghijklmnopqrstuvwxyz").toList
def isN (s : Tx) : Bool := decide ((1 : Int) ≤ (s.length : Int)) && decide ((s.length : Int) ≤ (6 : Int)) && s.all fun c => inTx [c] ("ABCDEFGHIJKLMNOPQRSTUVWXYZ").toList
def isS (s : Tx) : Bool := isL s || isN s
theorem isL_len {s : Tx} (h : isL s = true) : s.length = 1 := by
  unfold isL at h
  rw [Bool.and_eq_true, decide_eq_true_eq] at h
  have := h.1
  omega
theorem isN_len {s : Tx} (h : isN s = true) : 1 ≤ s.length ∧ s.length ≤ 6 := by
  unfold isN at h
  simp only [Bool.and_eq_true, decide_eq_true_eq] at h
  omega
theorem isS_len {s : Tx} (h : isS s = true) : s.length ≤ 6 := by
  unfold isS at h
  rw [Bool.or_eq_true] at h
  rcases h with h | h
  · have := isL_len h; omega
  · have := isN_len h; omega
/-- what a grammar may be made of -/
structure GrOk (start : Tx) (rules : List Rl) : Prop where
  l1 : 1 ≤ rules.length
  l2 : rules.length ≤ 40
  nm : ∀ p ∈ rules, isN p.1 = true
  bl : ∀ p ∈ rules, p.2.length ≤ 8
  bs : ∀ p ∈ rules, ∀ s ∈ p.2, isL s = true ∨ s ∈ rules.map (·.1)
  nd : rules.Nodup
  hd : (nubK (rules.map (·.1))).length ≤ 12
  st : start ∈ rules.map (·.1)
def heads (rules : List Rl) : List Tx := nubK (rules.map (·.1))
def symsOf (rules : List Rl) : List Tx := nubK (rules.flatMap (·.2))
theorem mem_heads {rules : List Rl} {s : Tx} : s ∈ heads rules ↔ s ∈ rules.map (·.1) := nub_mem
theorem mem_syms {rules : List Rl} {s : Tx} : s ∈ symsOf rules ↔ ∃ p ∈ rules, s ∈ p.2 := by
  unfold symsOf
  rw [nub_mem, List.mem_flatMap]
theorem GrOk.sym {start : Tx} {rules : List Rl} (g : GrOk start rules) {p : Rl} (hp : p ∈ rules) {s : Tx} (hs : s ∈ p.2) : isS s = true := by
  rcases g.bs p hp s hs with h | h
  · unfold isS; rw [h]; rfl
  · obtain ⟨q, hq, rfl⟩ := List.mem_map.mp h
    unfold isS
    rw [g.nm q hq, Bool.or_true]
theorem GrOk.stN {start : Tx} {rules : List Rl} (g : GrOk start rules) : isN start = true := by
  obtain ⟨q, hq, e⟩ := List.mem_map.mp g.st
  rw [← e]; exact g.nm q hq
end GF
/-! plain: loops, and the laws' own grammars -/
namespace GF
open PySem
section
variable {α σ ρ : Type}
/-- after one turn of a loop -/
def oP (A : σ → Prop) (Q : Aft σ ρ → Prop) : Out σ ρ → Prop
  | .nx s => A s
  | .ct s => A s
  | .bk s => Q (.nx s)
  | .rt v => Q (.rt v)
theorem wp_loop {B : α → σ → M (Out σ ρ)} {Q : Aft σ ρ → Prop} (I : Nat → σ → Prop) : ∀ (l : List α) (j : Nat) (s : σ), I j s → (∀ i a s, l[i]? = some a → I (j + i) s → Wp (B a s) (oP (I (j + i + 1)) Q)) → (∀ s, I (j + l.length) s → Q (.nx s)) → Wp (loop B l s) Q
  | [], j, s, h, _, h3 => by unfold loop; exact wp_ok.mpr (h3 s h)
  | a :: l, j, s, h, h2, h3 => by
    unfold loop
    obtain ⟨o, e, q⟩ := h2 0 a s rfl h
    rw [e, bind_o]
    have step : ∀ s, I (j + 1) s → Wp (loop B l s) Q := fun s hs => wp_loop I l (j + 1) s hs (fun i a s hi hI => by
      have := h2 (i + 1) a s (by simpa using hi) (by rw [show j + (i + 1) = j + 1 + i by omega]; exact hI)
      rwa [show j + (i + 1) + 1 = j + 1 + i + 1 by omega] at this) fun s hs => h3 s (by rw [List.length_cons, show j + (l.length + 1) = j + 1 + l.length by omega]; exact hs)
    cases o with
    | nx s => exact step s q
    | ct s => exact step s q
    | bk s => exact wp_ok.mpr q
    | rt v => exact wp_ok.mpr q
theorem wp_loop0 {B : α → σ → M (Out σ ρ)} {Q : Aft σ ρ → Prop} (I : Nat → σ → Prop) {l : List α} {s : σ} (h : I 0 s) (h2 : ∀ i a s, l[i]? = some a → I i s → Wp (B a s) (oP (I (i + 1)) Q)) (h3 : ∀ s, I l.length s → Q (.nx s)) : Wp (loop B l s) Q := by
  refine wp_loop I l 0 s h (fun i a s hi hI => ?_) fun s hs => h3 s (by rwa [Nat.zero_add] at hs)
  have := h2 i a s hi (by rwa [Nat.zero_add] at hI)
  rwa [Nat.zero_add]
theorem wp_while {c : σ → M Bool} {B : σ → M (Out σ ρ)} {Q : Aft σ ρ → Prop} (I : σ → Prop) (m : σ → Nat) (h : ∀ s, I s → Wp (c s) fun b => (b = true → Wp (B s) (oP (fun z => I z ∧ m z < m s) Q)) ∧ (b = false → Q (.nx s))) : ∀ (n : Nat) (s : σ), I s → m s < n → Wp (whileM c B n s) Q
  | 0, s, _, hn => absurd hn (Nat.not_lt_zero _)
  | n + 1, s, hI, hn => by
    unfold whileM
    obtain ⟨b, e, h1, h2⟩ := h s hI
    rw [e, bind_o]
    cases b with
    | false => exact wp_ok.mpr (h2 rfl)
    | true =>
      obtain ⟨o, e2, q⟩ := h1 rfl
      show Wp ((B s).bind _) Q
      rw [e2, bind_o]
      cases o with
      | nx z => exact wp_while I m h n z q.1 (by have := q.2; omega)
      | ct z => exact wp_while I m h n z q.1 (by have := q.2; omega)
      | bk z => exact wp_ok.mpr q
      | rt v => exact wp_ok.mpr q
theorem wp_aft {k : Aft σ ρ → M α} {t : M (Aft σ ρ)} {Q : α → Prop} {A : Aft σ ρ → Prop} (h : Wp t A) (hk : ∀ v, A v → Wp (k v) Q) : Wp (t.bind k) Q := wp_bind (wp_mono h hk)
theorem atT_mem {l : List α} {k : Int} (h : 0 ≤ k ∧ k < (l.length : Int)) : ∃ v ∈ l, atT l k = some v := by
  rw [atT_nn h.1]
  have h2 : k.toNat < l.length := by omega
  exact ⟨l[k.toNat], List.getElem_mem h2, List.getElem?_eq_getElem h2⟩
theorem lcO_ex {β : Type} {h : α → Option β} {P : β → Prop} : ∀ {l : List α}, (∀ a ∈ l, ∃ b, h a = some b ∧ P b) → ∃ ys, lcO (fun _ => some true) h l = some ys ∧ ys.length = l.length ∧ ∀ b ∈ ys, P b
  | [], _ => ⟨[], rfl, rfl, fun _ hb => nomatch hb⟩
  | a :: l, H => by
    obtain ⟨b, h1, h2⟩ := H a List.mem_cons_self
    obtain ⟨ys, h3, h4, h5⟩ := lcO_ex (l := l) fun a ha => H a (List.mem_cons_of_mem _ ha)
    refine ⟨b :: ys, ?_, by simp [h4], ?_⟩
    · unfold lcO
      simp only [if_true, h1, h3]
      rfl
    · intro c hc
      rcases List.mem_cons.mp hc with rfl | hc
      · exact h2
      · exact h5 c hc
end
/-! ### the laws' own grammars -/
abbrev txS : Tx := ("S").toList
abbrev txAB : Tx := ("ab").toList
def abS : List Tx := [("a").toList, ("b").toList]
def nmS : List Tx := [("S").toList, ("T").toList, ("U").toList, ("V").toList]
structure GoodR (m : Nat) (rules : List Rl) : Prop where
  l1 : 1 ≤ rules.length
  l2 : rules.length ≤ m
  nm : ∀ p ∈ rules, p.1 ∈ nmS
  bl : ∀ p ∈ rules, p.2.length ≤ 4
  bs : ∀ p ∈ rules, ∀ s ∈ p.2, s ∈ abS ∨ s ∈ rules.map (·.1)
  nd : rules.Nodup
  st : txS ∈ rules.map (·.1)
theorem ab_fix {s : Tx} (h : s ∈ abS ∨ s ∈ nmS) : inTx s txAB = isL s ∧ isN s = !isL s ∧ s.length = 1 := by
  simp only [abS, nmS, List.mem_cons, List.not_mem_nil, or_false] at h
  rcases h with (rfl | rfl) | rfl | rfl | rfl | rfl <;> exact ⟨by decide +kernel, by decide +kernel, by decide⟩
theorem ab_L {s : Tx} (h : s ∈ abS) : isL s = true := by
  simp only [abS, List.mem_cons, List.not_mem_nil, or_false] at h
  rcases h with rfl | rfl <;> decide +kernel
theorem nm_L {s : Tx} (h : s ∈ nmS) : isL s = false := by
  simp only [nmS, List.mem_cons, List.not_mem_nil, or_false] at h
  rcases h with rfl | rfl | rfl | rfl <;> decide +kernel
theorem GoodR.sy {m : Nat} {rules : List Rl} (g : GoodR m rules) {p : Rl} (hp : p ∈ rules) {s : Tx} (hs : s ∈ p.2) : s ∈ abS ∨ s ∈ nmS := by
  rcases g.bs p hp s hs with h | h
  · exact .inl h
  · obtain ⟨q, hq, rfl⟩ := List.mem_map.mp h
    exact .inr (g.nm q hq)
theorem GoodR.ok {m : Nat} {rules : List Rl} (g : GoodR m rules) (hm : m ≤ 40) : GrOk txS rules where
  l1 := g.l1
  l2 := by have := g.l2; omega
  nm := fun p hp => by have := (ab_fix (.inr (g.nm p hp))).2.1; rw [this, nm_L (g.nm p hp)]; rfl
  bl := fun p hp => by have := g.bl p hp; omega
  bs := fun p hp s hs => by
    rcases g.bs p hp s hs with h | h
    · exact .inl (ab_L h)
    · exact .inr h
  nd := g.nd
  hd := by
    have h1 : (nubK (rules.map (·.1))).Nodup := nub_nodup _
    have h2 : (nubK (rules.map (·.1))) ⊆ nmS := fun s hs => by
      obtain ⟨q, hq, rfl⟩ := List.mem_map.mp (nub_mem.mp hs)
      exact g.nm q hq
    have := h1.length_le_of_subset h2
    simp [nmS] at this
    omega
  st := g.st
theorem GoodR.heads {m : Nat} {rules : List Rl} (g : GoodR m rules) : (GF.heads rules).length ≤ 4 := by
  have h1 : (nubK (rules.map (·.1))).Nodup := nub_nodup _
  have h2 : (nubK (rules.map (·.1))) ⊆ nmS := fun s hs => by
    obtain ⟨q, hq, rfl⟩ := List.mem_map.mp (nub_mem.mp hs)
    exact g.nm q hq
  have := h1.length_le_of_subset h2
  simp [nmS] at this
  exact this
/-! ### costs -/
abbrev nsOf (body : List Tx) : List Tx := body.filter fun s => !isL s
def vOf (f : List (Tx × Int)) (s : Tx) : Int := (dget f s).getD 0
def rdy (f : List (Tx × Int)) (body : List Tx) : Bool := body.all fun s => isL s || (dget f s).isSome
theorem rdy_iff {f : List (Tx × Int)} {body : List Tx} : rdy f body = true ↔ ∀ s ∈ body, isL s = false → dget f s = some (vOf f s) := by
  unfold rdy vOf
  rw [List.all_eq_true]
  constructor
  · intro h s hs hl
    have := h s hs
    rw [hl, Bool.false_or] at this
    obtain ⟨v, e⟩ := Option.isSome_iff_exists.mp this
    rw [e]; rfl
  · intro h s hs
    cases e : isL s with
    | true => rfl
    | false => rw [h s hs e]; rfl
theorem sum_le {α : Type} {f g : α → Int} : ∀ {l : List α}, (∀ a ∈ l, f a ≤ g a) → (l.map f).sum ≤ (l.map g).sum
  | [], _ => by simp
  | a :: l, h => by
    have h1 := h a List.mem_cons_self
    have h2 := sum_le (l := l) fun b hb => h b (List.mem_cons_of_mem _ hb)
    simp only [List.map_cons, List.sum_cons]
    omega
theorem sum_eq {α : Type} {f g : α → Int} {l : List α} (h : ∀ a ∈ l, f a = g a) : (l.map f).sum = (l.map g).sum := by
  rw [List.map_congr_left h]
theorem mem_ns {body : List Tx} {s : Tx} : s ∈ nsOf body ↔ s ∈ body ∧ isL s = false := by
  rw [List.mem_filter, Bool.not_eq_true']
/-- with j rules one under the other, h costs c -/
def Der (rules : List Rl) (prices : List Int) : Nat → Tx → Int → Prop
  | 0, _, _ => False
  | j + 1, h, c => ∃ (k : Nat) (p : Rl) (w : Int) (f : Tx → Int), rules[k]? = some p ∧ prices[k]? = some w ∧ p.1 = h ∧ (∀ s ∈ p.2, isL s = false → Der rules prices j s (f s)) ∧ c = w + ((nsOf p.2).map f).sum
theorem Der.up {rules : List Rl} {prices : List Int} : ∀ {j : Nat} {h : Tx} {c : Int}, Der rules prices j h c → Der rules prices (j + 1) h c
  | 0, _, _, h => h.elim
  | j + 1, _, _, ⟨k, p, w, f, h1, h2, h3, h4, h5⟩ => ⟨k, p, w, f, h1, h2, h3, fun s hs hl => (h4 s hs hl).up, h5⟩
theorem Der.le {rules : List Rl} {prices : List Int} {i j : Nat} {h : Tx} {c : Int} (d : Der rules prices i h c) (hij : i ≤ j) : Der rules prices j h c := by
  induction hij with
  | refl => exact d
  | step _ ih => exact ih.up
/-- f is at or under all that j rules cost -/
def Und (rules : List Rl) (prices : List Int) (f : List (Tx × Int)) (j : Nat) : Prop := ∀ h c, Der rules prices j h c → ∃ v, dget f h = some v ∧ v ≤ c
def Snd (rules : List Rl) (prices : List Int) (f : List (Tx × Int)) : Prop := ∀ h v, dget f h = some v → ∃ j, Der rules prices j h v
/-- some j for all -/
theorem snd_all {rules : List Rl} {prices : List Int} {f : List (Tx × Int)} (hs : Snd rules prices f) : ∀ l : List Tx, (∀ s ∈ l, dget f s = some (vOf f s)) → ∃ j, ∀ s ∈ l, Der rules prices j s (vOf f s)
  | [], _ => ⟨0, fun _ h => nomatch h⟩
  | s :: l, h => by
    obtain ⟨j, h1⟩ := snd_all hs l fun a ha => h a (List.mem_cons_of_mem _ ha)
    obtain ⟨i, h2⟩ := hs _ _ (h s List.mem_cons_self)
    refine ⟨max i j, fun a ha => ?_⟩
    rcases List.mem_cons.mp ha with rfl | ha
    · exact h2.le (by omega)
    · exact (h1 a ha).le (by omega)
/-- a rule whose names all cost something has a cost -/
theorem snd_put {rules : List Rl} {prices : List Int} {f : List (Tx × Int)} (hs : Snd rules prices f) {k : Nat} {p : Rl} {w : Int} (h1 : rules[k]? = some p) (h2 : prices[k]? = some w) (hr : rdy f p.2 = true) : Snd rules prices (dput f p.1 (w + ((nsOf p.2).map (vOf f)).sum)) := by
  intro h v e
  rw [dget_dput] at e
  split at e
  · rename_i c
    cases e
    subst c
    obtain ⟨j, hj⟩ := snd_all hs (nsOf p.2) fun s hs => rdy_iff.mp hr s (mem_ns.mp hs).1 (mem_ns.mp hs).2
    exact ⟨j + 1, k, p, w, vOf f, h1, h2, rfl, fun s hs hl => hj s (mem_ns.mpr ⟨hs, hl⟩), rfl⟩
  · exact hs h v e
def Lower (s f : List (Tx × Int)) : Prop := ∀ h v, dget s h = some v → ∃ u, dget f h = some u ∧ u ≤ v
theorem Lower.refl (s : List (Tx × Int)) : Lower s s := fun h v e => ⟨v, e, by omega⟩
/-- rule k holds f down, as s costs its names -/
def Held (rules : List Rl) (prices : List Int) (s f : List (Tx × Int)) (k : Nat) : Prop := ∀ p w, rules[k]? = some p → prices[k]? = some w → ∀ g : Tx → Int, (∀ y ∈ p.2, isL y = false → ∃ u, dget s y = some u ∧ u ≤ g y) → ∃ v, dget f p.1 = some v ∧ v ≤ w + ((nsOf p.2).map g).sum
theorem Held.low {rules : List Rl} {prices : List Int} {s f f' : List (Tx × Int)} {k : Nat} (h : Held rules prices s f k) (hl : Lower f f') : Held rules prices s f' k := by
  intro p w h1 h2 g hg
  obtain ⟨v, e1, e2⟩ := h p w h1 h2 g hg
  obtain ⟨u, e3, e4⟩ := hl _ _ e1
  exact ⟨u, e3, by omega⟩
theorem und_next {rules : List Rl} {prices : List Int} {s f : List (Tx × Int)} {j : Nat} (hu : Und rules prices s j) (hh : ∀ k, k < rules.length → Held rules prices s f k) : Und rules prices f (j + 1) := by
  rintro h c ⟨k, p, w, g, h1, h2, rfl, h4, rfl⟩
  exact hh k (List.getElem?_eq_some_iff.mp h1).1 p w h1 h2 g fun y hy hl => hu y _ (h4 y hy hl)
theorem und_zero {rules : List Rl} {prices : List Int} {s : List (Tx × Int)} : Und rules prices s 0 := fun _ _ h => h.elim
theorem und_all {rules : List Rl} {prices : List Int} {s : List (Tx × Int)} (hh : ∀ k, k < rules.length → Held rules prices s s k) : ∀ j, Und rules prices s j
  | 0 => und_zero
  | j + 1 => und_next (und_all hh j) hh
/-- the value of a rule -/
theorem held_val {rules : List Rl} {prices : List Int} {s f : List (Tx × Int)} {k : Nat} {p : Rl} {w v : Int} (h1 : rules[k]? = some p) (h2 : prices[k]? = some w) (hl : Lower s f) {f' : List (Tx × Int)} (e : dget f' p.1 = some v) (hv : v ≤ w + ((nsOf p.2).map (vOf f)).sum) : Held rules prices s f' k := by
  intro p' w' h1' h2' g hg
  rw [h1] at h1'; cases h1'
  rw [h2] at h2'; cases h2'
  refine ⟨v, e, ?_⟩
  have : ((nsOf p.2).map (vOf f)).sum ≤ ((nsOf p.2).map g).sum := sum_le fun y hy => by
    obtain ⟨u, e1, e2⟩ := hg y (mem_ns.mp hy).1 (mem_ns.mp hy).2
    obtain ⟨z, e3, e4⟩ := hl _ _ e1
    unfold vOf
    rw [e3]
    show z ≤ g y
    omega
  omega
theorem held_not {rules : List Rl} {prices : List Int} {s f : List (Tx × Int)} {k : Nat} {p : Rl} (h1 : rules[k]? = some p) (hl : Lower s f) (hr : rdy f p.2 = false) {f' : List (Tx × Int)} : Held rules prices s f' k := by
  intro p' w' h1' h2' g hg
  rw [h1] at h1'; cases h1'
  exfalso
  have : rdy f p.2 = true := rdy_iff.mpr fun y hy hly => by
    obtain ⟨u, e1, e2⟩ := hg y hy hly
    obtain ⟨z, e3, e4⟩ := hl _ _ e1
    unfold vOf
    rw [e3]; rfl
  rw [hr] at this
  cases this
end GF
/-! plain: plans of rules; values of any kind -/
namespace GF
open PySem
section
variable {α β κ : Type} [DecidableEq κ]
theorem dcO_congr {hk : α → Option κ} {tk : α → κ} {hv : α → Option β} {tv : α → β} : ∀ (l : List α) (m : List (κ × β)), (∀ a ∈ l, hk a = some (tk a) ∧ hv a = some (tv a)) → dcO (fun _ => some true) hk hv l m = dcO (fun _ => some true) (fun a => some (tk a)) (fun a => some (tv a)) l m
  | [], _, _ => rfl
  | a :: l, m, h => by
    obtain ⟨h1, h2⟩ := h a List.mem_cons_self
    unfold dcO
    simp only [Option.bind_some, if_true, h1, h2]
    rw [dcO_congr l _ fun b hb => h b (List.mem_cons_of_mem _ hb)]
end
section
variable {α : Type}
theorem enumT_get : ∀ (l : List α) (k i : Nat) (a : Int × α), (enumT l k)[i]? = some a → a.1 = ((k + i : Nat) : Int) ∧ l[i]? = some a.2
  | [], k, i, a, h => by simp [enumT] at h
  | x :: l, k, 0, a, h => by simp [enumT] at h; subst h; exact ⟨rfl, rfl⟩
  | x :: l, k, i + 1, a, h => by
    simp only [enumT, List.getElem?_cons_succ] at h
    obtain ⟨h1, h2⟩ := enumT_get l (k + 1) i a h
    exact ⟨by rw [h1]; omega, by simpa using h2⟩
theorem enumT_len : ∀ (l : List α) (k : Nat), (enumT l k).length = l.length
  | [], _ => rfl
  | x :: l, k => by simp [enumT, enumT_len l (k + 1)]
end
/-! ### values of any kind -/
theorem fdL_F : ∀ l : List FD, fdL (l.map encF) = some l
  | [] => rfl
  | d :: l => by
    rw [List.map_cons, fdL, dif_pos (show (encF d).own = false from d.2), fdL_F l]; rfl
def tupF (l : List FD) : FD := ⟨encS encF l, rfl⟩
abbrev fI (i : Int) : FD := ⟨D.int i, rfl⟩
theorem tup_ty (l : List FD) : isTy (encF (tupF l)) .tuple = some true := rfl
theorem tup_oL (l : List FD) : oL (itemsD (encF (tupF l))) = some l := by
  show oL (itemsD (encS encF l)) = _
  rw [it_s]; exact fdL_F l
theorem tup_oT (l : List FD) : oT (some (encF (tupF l))) = some l := fdL_F l
theorem tup_len (l : List FD) : oI (biD .len [encF (tupF l)]) = some (l.length : Int) := by
  show oI (biD .len [encS encF l]) = _
  rw [bi_len_s]; rfl
theorem tup_ix {l : List FD} {i : Int} {x : FD} (h : atT l i = some x) : oF (ixD (encF (tupF l)) (.int i)) = some x := by
  show oF (ixD (encS encF l) (.int i)) = _
  rw [ix_s h]
  unfold oF
  exact dif_pos x.2
theorem tup_ints (l : List Int) : (⟨encS D.int l, rfl⟩ : FD) = tupF (l.map fI) := by
  apply Subtype.ext
  show encS D.int l = encS encF (l.map fI)
  unfold encS
  rw [List.map_map]
  rfl
/-- one scalar -/
def Scal (x : FD) : Prop := (∃ i, x = fI i) ∨ (∃ b, x = ⟨D.bl b, rfl⟩) ∨ x = ⟨encU (), rfl⟩ ∨ ∃ t, x = ⟨encT t, rfl⟩
def cntN (n : Int) (x : FD) : Bool := match x.1 with
  | .int i => decide (0 ≤ i) && decide (i < n)
  | _ => false
theorem ints_of {n : Int} : ∀ {l : List FD}, l.all (cntN n) = true → ∃ is : List Int, l = is.map fI ∧ ∀ i ∈ is, 0 ≤ i ∧ i < n
  | [], _ => ⟨[], rfl, fun _ h => nomatch h⟩
  | x :: l, h => by
    rw [List.all_cons, Bool.and_eq_true] at h
    obtain ⟨is, h1, h2⟩ := ints_of h.2
    obtain ⟨d, hd⟩ := x
    have h3 := h.1
    unfold cntN at h3
    cases d <;> simp only [Bool.and_eq_true, decide_eq_true_eq, Bool.false_eq_true] at h3
    rename_i i
    refine ⟨i :: is, by rw [h1]; rfl, fun j hj => ?_⟩
    rcases List.mem_cons.mp hj with rfl | hj
    · exact h3
    · exact h2 j hj
/-- what a plan may be told as -/
def VOk (v : FD) : Prop := isTy (encF v) .tuple = some false ∨ ∃ l, v = tupF l ∧ l.length ≤ 1000 ∧ ∀ x ∈ l, Scal x
theorem vok_ints {l : List Int} (h : l.length ≤ 1000) : VOk ⟨encS D.int l, rfl⟩ := .inr ⟨l.map fI, tup_ints l, by simpa using h, fun x hx => by
  obtain ⟨i, _, rfl⟩ := List.mem_map.mp hx
  exact .inl ⟨i, rfl⟩⟩
/-! ### plans -/
section
variable (rules : List Rl) (prices : List Int)
def ph (i : Int) : Rl := rules.getD i.toNat ([], [])
def pw (i : Int) : Int := prices.getD i.toNat 0
def nmP (is : List Int) : List Tx := is.map fun i => (ph rules i).1
def chk (seen : List Tx) (i : Int) : Bool := (ph rules i).2.all fun s => isL s || memB s seen
def fault : List Tx → Int → List Int → Option Int
  | _, _, [] => none
  | seen, j, i :: r => if chk rules seen i then fault (seen ++ [(ph rules i).1]) (j + 1) r else some j
def cstep (d : List (Tx × Int)) (i : Int) : List (Tx × Int) := dput d (ph rules i).1 (pw prices i + ((nsOf (ph rules i).2).map (vOf d)).sum)
def cst (is : List Int) : List (Tx × Int) := is.foldl (cstep rules prices) []
variable {rules prices}
theorem ph_at {i : Int} (h : 0 ≤ i ∧ i < (rules.length : Int)) : atT rules i = some (ph rules i) := atT_d _ h.1 h.2
theorem pw_at {i : Int} (h : 0 ≤ i ∧ i < (prices.length : Int)) : atT prices i = some (pw prices i) := atT_d _ h.1 h.2
theorem ph_get {i : Int} (h : 0 ≤ i ∧ i < (rules.length : Int)) : rules[i.toNat]? = some (ph rules i) := by rw [← atT_nn h.1]; exact ph_at h
theorem pw_get {i : Int} (h : 0 ≤ i ∧ i < (prices.length : Int)) : prices[i.toNat]? = some (pw prices i) := by rw [← atT_nn h.1]; exact pw_at h
theorem ph_mem {i : Int} (h : 0 ≤ i ∧ i < (rules.length : Int)) : ph rules i ∈ rules := List.mem_of_getElem? (ph_get h)
theorem fault_next {is : List Int} {j : Nat} {x : Int} (h : is[j]? = some x) : fault rules ((nmP rules is).take j) (j : Int) (is.drop j) = if chk rules ((nmP rules is).take j) x then fault rules ((nmP rules is).take (j + 1)) ((j + 1 : Nat) : Int) (is.drop (j + 1)) else some (j : Int) := by
  obtain ⟨hj, e⟩ := List.getElem?_eq_some_iff.mp h
  rw [List.drop_eq_getElem_cons hj, e]
  conv => lhs; unfold fault
  have : (nmP rules is).take (j + 1) = (nmP rules is).take j ++ [(ph rules x).1] := by
    rw [List.take_add_one]
    congr 1
    unfold nmP
    rw [List.getElem?_map, h]; rfl
  rw [this]
  rfl
theorem fault_start (is : List Int) : fault rules [] 0 is = fault rules ((nmP rules is).take 0) ((0 : Nat) : Int) (is.drop 0) := rfl
theorem fault_end (is : List Int) (s : List Tx) (j : Int) : fault rules s j (is.drop is.length) = none := by rw [List.drop_length]; rfl
theorem cst_next {is : List Int} {j : Nat} {x : Int} (h : is[j]? = some x) : cst rules prices (is.take (j + 1)) = cstep rules prices (cst rules prices (is.take j)) x := by
  unfold cst
  rw [List.take_add_one, List.foldl_append, h]
  rfl
/-- a plan without a fault, so far -/
theorem plan_ok {is : List Int} (hr : ∀ i ∈ is, 0 ≤ i ∧ i < (rules.length : Int)) (hl : prices.length = rules.length) (hf : fault rules [] 0 is = none) : ∀ j, j ≤ is.length → fault rules ((nmP rules is).take j) (j : Int) (is.drop j) = none ∧ (∀ s, (dget (cst rules prices (is.take j)) s).isSome = true ↔ s ∈ (nmP rules is).take j) ∧ ((cst rules prices (is.take j)).map (·.1)).Nodup ∧ (∀ h v, dget (cst rules prices (is.take j)) h = some v → Der rules prices j h v) ∧ (cst rules prices (is.take j)).length ≤ j
  | 0, _ => ⟨hf, fun s => by simp [cst, dget], by simp [cst], fun h v e => (by cases e), by simp [cst]⟩
  | j + 1, hj => by
    obtain ⟨q1, q2, q3, q4, q5⟩ := plan_ok hr hl hf j (by omega)
    obtain ⟨x, hx⟩ : ∃ x, is[j]? = some x := ⟨_, List.getElem?_eq_getElem (by omega)⟩
    have hxr := hr x (List.mem_of_getElem? hx)
    rw [fault_next hx] at q1
    have c : chk rules ((nmP rules is).take j) x = true := by
      cases e : chk rules ((nmP rules is).take j) x with
      | true => rfl
      | false => rw [e, if_neg Bool.false_ne_true] at q1; cases q1
    rw [c, if_pos rfl] at q1
    have hrd : rdy (cst rules prices (is.take j)) (ph rules x).2 = true := by
      unfold rdy
      unfold chk at c
      rw [List.all_eq_true] at c ⊢
      intro s hs
      have := c s hs
      rw [Bool.or_eq_true] at this ⊢
      rcases this with h | h
      · exact .inl h
      · exact .inr ((q2 s).mpr (memB_iff.mp h))
    have htk : (nmP rules is).take (j + 1) = (nmP rules is).take j ++ [(ph rules x).1] := by
      rw [List.take_add_one]
      congr 1
      unfold nmP
      rw [List.getElem?_map, hx]; rfl
    rw [cst_next hx]
    refine ⟨q1, fun s => ?_, dput_nodup q3, fun h v e => ?_, ?_⟩
    · unfold cstep
      rw [dget_dput, htk, List.mem_append, List.mem_singleton, ← q2 s]
      split
      · rename_i ch; simp [ch]
      · rename_i ch; simp [ch]
    · unfold cstep at e
      rw [dget_dput] at e
      split at e
      · rename_i ch
        cases e
        subst ch
        exact ⟨x.toNat, _, _, vOf _, ph_get hxr, pw_get ⟨hxr.1, by omega⟩, rfl, fun s hs hs2 => q4 _ _ (rdy_iff.mp hrd s hs hs2), rfl⟩
      · exact (q4 h v e).up
    · have := dput_len (l := cst rules prices (is.take j)) (k := (ph rules x).1) (v := pw prices x + ((nsOf (ph rules x).2).map (vOf (cst rules prices (is.take j)))).sum)
      unfold cstep
      omega
theorem plan_rdy {is : List Int} (hr : ∀ i ∈ is, 0 ≤ i ∧ i < (rules.length : Int)) (hl : prices.length = rules.length) (hf : fault rules [] 0 is = none) {j : Nat} {x : Int} (hx : is[j]? = some x) : rdy (cst rules prices (is.take j)) (ph rules x).2 = true := by
  obtain ⟨q1, q2, _⟩ := plan_ok hr hl hf j (by have := (List.getElem?_eq_some_iff.mp hx).1; omega)
  rw [fault_next hx] at q1
  have c : chk rules ((nmP rules is).take j) x = true := by
    cases e : chk rules ((nmP rules is).take j) x with
    | true => rfl
    | false => rw [e, if_neg Bool.false_ne_true] at q1; cases q1
  unfold rdy
  unfold chk at c
  rw [List.all_eq_true] at c ⊢
  intro s hs
  have := c s hs
  rw [Bool.or_eq_true] at this ⊢
  rcases this with h | h
  · exact .inl h
  · exact .inr ((q2 s).mpr (memB_iff.mp h))
end
end GF
namespace GK
open PySem GF L2
def topS (i : Nat) : Stmt := PySem.Challenge.pw_grammarforge_k31_plans_of_rules.main.body.getD i (.Pass ⟨0, 0, 0, 0⟩)
def TT : List (Str × GK) := ("is_letter", .fn 0) :: ("is_name", .fn 1) :: ("is_symbol", .fn 2) :: ("_is_rule", .fn 3) :: ("is_count", .fn 4) :: ("is_prices", .fn 5) :: ("check_prices", .fn 6) :: ("names_in", .fn 7) :: ("_are_numbers", .fn 8) :: ("plan_fault", .fn 9) :: ("plan_costs", .fn 10) :: ("least_plan", .fn 11) :: ("cheapest", .fn 12) :: ("_law_draws", .fn 13) :: ("_law_rules", .fn 14) :: ("_law_prices", .fn 15) :: ("_law_count", .fn 16) :: ("_law_costs", .fn 17) :: ("_law_due", .fn 18) :: ("_law_bent", .fn 19) :: ("_law_refused", .fn 20) :: ("law", .fn 21) :: ("Grammar", .cls 0) :: ("MOST_RULES", .con (.int (40))) :: ("MOST_NAMES", .con (.int (12))) :: ("MOST_BODY", .con (.int (8))) :: ("MOST_SIGNS", .con (.int (6))) :: ("LETTERS", .con (.str "abcdefghijklmnopqrstuvwxyz")) :: ("CAPITALS", .con (.str "ABCDEFGHIJKLMNOPQRSTUVWXYZ")) :: ("FORM", .con (.str "form")) :: ("GrammarError", .exc 0) :: ("BadGrammar", .exc 1) :: ("BadPrices", .exc 2) :: ("BadPlan", .exc 3) :: []
def FF : List (Str × Nat) := [("start", 0), ("rules", 1), ("names", 2), ("letters", 3)]
def MM : List (Str × Nat) := [("numbers", 0)]
def BB : List Str := ["isinstance", "range", "enumerate", "len", "int", "abs", "tuple", "list", "all", "any", "sum", "min", "sorted", "str", "bool", "set"]
def st0 : Stmt := topS 12
def bd0 : ISs := (.cons (.ret (.and_ (.isi (.b 0) .str) (.and_ (.op .eq (.bi .len (.cons (.b 0) .nil)) (.c (.int (1)))) (.op .isin (.b 0) (.c (.str "abcdefghijklmnopqrstuvwxyz")))))) .nil)
theorem co0 : cBody ⟨["value"], false, TT, FF, MM, BB, [], []⟩ (L2.defScope st0) (L2.defBody st0) = some bd0 := by rfl
def st1 : Stmt := topS 13
def bd1 : ISs := (.cons (.ret (.and_ (.isi (.b 0) .str) (.and_ (.ch .le .le (.c (.int (1))) (.bi .len (.cons (.b 0) .nil)) (.c (.int (6)))) (.bi .all (.cons (.lc [1] (.n 1) (.seq (.v 0)) .nil (.op .isin (.b 1) (.c (.str "ABCDEFGHIJKLMNOPQRSTUVWXYZ")))) .nil))))) .nil)
theorem co1 : cBody ⟨["value", "sign"], false, TT, FF, MM, BB, [], []⟩ (L2.defScope st1) (L2.defBody st1) = some bd1 := by rfl
def st2 : Stmt := topS 14
def bd2 : ISs := (.cons (.ret (.or_ (.call 0 (.cons (.v 0) .nil)) (.call 1 (.cons (.v 0) .nil)))) .nil)
theorem co2 : cBody ⟨["value"], false, TT, FF, MM, BB, [], []⟩ (L2.defScope st2) (L2.defBody st2) = some bd2 := by rfl
def st3 : Stmt := topS 15
def bd3 : ISs := (.cons (.if_ (.or_ (.not_ (.isi (.b 0) .tuple)) (.or_ (.op .ne (.bi .len (.cons (.b 0) .nil)) (.c (.int (2)))) (.or_ (.not_ (.call 1 (.cons (.ix (.b 0) (.c (.int (0)))) .nil))) (.not_ (.isi (.ix (.b 0) (.c (.int (1)))) .tuple))))) (.cons (.ret (.c (.bl false))) .nil) .nil) (.cons (.ret (.and_ (.op .le (.bi .len (.cons (.ix (.b 0) (.c (.int (1)))) .nil)) (.c (.int (8)))) (.bi .all (.cons (.lc [1] (.n 1) (.seq (.ix (.b 0) (.c (.int (1))))) .nil (.call 2 (.cons (.v 1) .nil))) .nil)))) .nil))
theorem co3 : cBody ⟨["value", "symbol"], false, TT, FF, MM, BB, [], []⟩ (L2.defScope st3) (L2.defBody st3) = some bd3 := by rfl
def st4 : Stmt := topS 19
def bd4 : ISs := (.cons (.ret (.and_ (.isi (.b 0) .int) (.and_ (.not_ (.isi (.b 0) .bool)) (.op .ge (.b 0) (.c (.int (0))))))) .nil)
theorem co4 : cBody ⟨["value"], false, TT, FF, MM, BB, [], []⟩ (L2.defScope st4) (L2.defBody st4) = some bd4 := by rfl
def st5 : Stmt := topS 20
def bd5 : ISs := (.cons (.ret (.and_ (.isi (.b 1) .tuple) (.and_ (.op .eq (.bi .len (.cons (.b 1) .nil)) (.bi .len (.cons (.fld (.b 0) 1) .nil))) (.bi .all (.cons (.lc [2] (.n 2) (.seq (.v 1)) .nil (.call 4 (.cons (.v 2) .nil))) .nil))))) .nil)
theorem co5 : cBody ⟨["grammar", "value", "one"], false, TT, FF, MM, BB, [], []⟩ (L2.defScope st5) (L2.defBody st5) = some bd5 := by rfl
def st6 : Stmt := topS 21
def bd6 : ISs := (.cons (.if_ (.not_ (.call 5 (.cons (.v 0) (.cons (.v 1) .nil)))) (.cons (.raise 2) .nil) .nil) .nil)
theorem co6 : cBody ⟨["grammar", "value"], false, TT, FF, MM, BB, [], []⟩ (L2.defScope st6) (L2.defBody st6) = some bd6 := by rfl
def st7 : Stmt := topS 22
def bd7 : ISs := (.cons (.ret (.lc [1] (.n 1) (.seq (.v 0)) (.cons (.not_ (.call 0 (.cons (.v 1) .nil))) .nil) (.v 1))) .nil)
theorem co7 : cBody ⟨["body", "symbol"], false, TT, FF, MM, BB, [], []⟩ (L2.defScope st7) (L2.defBody st7) = some bd7 := by rfl
def st8 : Stmt := topS 23
def bd8 : ISs := (.cons (.if_ (.or_ (.not_ (.isi (.b 1) .tuple)) (.not_ (.bi .all (.cons (.lc [2] (.n 2) (.seq (.v 1)) .nil (.and_ (.call 4 (.cons (.v 2) .nil)) (.op .lt (.b 2) (.bi .len (.cons (.fld (.b 0) 1) .nil))))) .nil)))) (.cons (.ret (.c (.bl false))) .nil) .nil) (.cons (.ret (.op .eq (.bi .len (.cons (.dc [2] (.n 2) (.seq (.v 1)) .nil (.ix (.ix (.fld (.b 0) 1) (.b 2)) (.c (.int (0)))) (.c (.bl true))) .nil)) (.bi .len (.cons (.b 1) .nil)))) .nil))
theorem co8 : cBody ⟨["grammar", "value", "one"], false, TT, FF, MM, BB, [], []⟩ (L2.defScope st8) (L2.defBody st8) = some bd8 := by rfl
def st9 : Stmt := topS 24
def bd9 : ISs := (.cons (.if_ (.not_ (.call 8 (.cons (.v 0) (.cons (.v 1) .nil)))) (.cons (.ret (.c (.str "form"))) .nil) .nil) (.cons (.asg true (.n 2) .dnew) (.cons (.for_ (.t (.cons (.n 3) (.cons (.n 4) .nil))) (.enum (.cons (.v 1) .nil)) (.cons (.asg false (.t (.cons (.n 5) (.cons (.n 6) .nil))) (.ix (.fld (.b 0) 1) (.b 4))) (.cons (.if_ (.not_ (.bi .all (.cons (.lc [7] (.n 7) (.seq (.call 7 (.cons (.v 6) .nil))) .nil (.op .isin (.b 7) (.b 2))) .nil))) (.cons (.ret (.mv 3)) .nil) .nil) (.cons (.put 2 (.b 5) (.c (.bl true))) .nil)))) (.cons (.ret (.c .non)) .nil))))
theorem co9 : cBody ⟨["grammar", "plan", "ahead", "at", "number", "name", "body", "one"], false, TT, FF, MM, BB, ["ahead"], []⟩ (L2.defScope st9) (L2.defBody st9) = some bd9 := by rfl
def st10 : Stmt := topS 25
def bd10 : ISs := (.cons (.ex (.call 6 (.cons (.v 0) (.cons (.v 1) .nil)))) (.cons (.if_ (.op .isnot (.call 9 (.cons (.v 0) (.cons (.v 2) .nil))) (.c .non)) (.cons (.raise 3) .nil) .nil) (.cons (.asg true (.n 3) .dnew) (.cons (.for_ (.n 4) (.seq (.v 2)) (.cons (.asg false (.t (.cons (.n 5) (.cons (.n 6) .nil))) (.ix (.fld (.b 0) 1) (.b 4))) (.cons (.put 3 (.b 5) (.op .add (.ix (.b 1) (.b 4)) (.bi .sum (.cons (.lc [7] (.n 7) (.seq (.call 7 (.cons (.v 6) .nil))) .nil (.ix (.b 3) (.b 7))) .nil)))) .nil))) (.cons (.ex (.v 3)) (.cons (.ret (.bi .tuple (.cons (.un .sitems (.b 3)) .nil))) .nil))))))
theorem co10 : cBody ⟨["grammar", "prices", "plan", "costs", "number", "name", "body", "one"], false, TT, FF, MM, BB, ["costs"], [(82, 3)]⟩ (L2.defScope st10) (L2.defBody st10) = some bd10 := by rfl
def st11 : Stmt := topS 26
def bd11 : ISs := (.cons (.asg true (.n 2) .dnew) (.cons (.asg false (.n 3) (.c (.bl true))) (.cons (.whl (.b 3) (.cons (.asg true (.n 4) (.lst .nil)) (.cons (.for_ (.t (.cons (.n 5) (.cons (.t (.cons (.n 6) (.cons (.n 7) .nil))) .nil))) (.enum (.cons (.fld (.b 0) 1) .nil)) (.cons (.asg false (.n 8) (.call 7 (.cons (.v 7) .nil))) (.cons (.if_ (.and_ (.op .notin (.b 6) (.b 2)) (.bi .all (.cons (.lc [9] (.n 9) (.seq (.v 8)) .nil (.op .isin (.b 9) (.b 2))) .nil))) (.cons (.app 4 (.tup (.cons (.op .add (.ix (.b 1) (.b 5)) (.bi .sum (.cons (.lc [9] (.n 9) (.seq (.v 8)) .nil (.ix (.ix (.b 2) (.b 9)) (.c (.int (1))))) .nil))) (.cons (.v 5) .nil)))) .nil) .nil) .nil))) (.cons (.ex (.v 4)) (.cons (.asg false (.n 3) (.op .gt (.bi .len (.cons (.b 4) .nil)) (.c (.int (0))))) (.cons (.if_ (.b 3) (.cons (.asg false (.t (.cons (.n 10) (.cons (.n 5) .nil))) (.bi .min (.cons (.b 4) .nil))) (.cons (.put 2 (.ix (.ix (.fld (.b 0) 1) (.b 5)) (.c (.int (0)))) (.tup (.cons (.v 5) (.cons (.v 10) .nil)))) .nil)) .nil) .nil)))))) (.cons (.ret (.mv 2)) .nil))))
theorem co11 : cBody ⟨["grammar", "prices", "found", "is_new", "ways", "number", "name", "body", "names", "one", "cost"], false, TT, FF, MM, BB, ["found", "ways"], [(92, 4)]⟩ (L2.defScope st11) (L2.defBody st11) = some bd11 := by rfl
def st12 : Stmt := topS 27
def bd12 : ISs := (.cons (.ex (.call 6 (.cons (.v 0) (.cons (.v 1) .nil)))) (.cons (.asg false (.n 2) (.call 11 (.cons (.v 0) (.cons (.v 1) .nil)))) (.cons (.ret (.tup (.cons (.bi .tuple (.cons (.lc [3] (.n 3) (.seq (.v 2)) .nil (.ix (.ix (.b 2) (.b 3)) (.c (.int (0))))) .nil)) (.cons (.bi .tuple (.cons (.bi .sorted (.cons (.lc [3] (.n 3) (.seq (.v 2)) .nil (.tup (.cons (.v 3) (.cons (.ix (.ix (.b 2) (.b 3)) (.c (.int (1)))) .nil)))) .nil)) .nil)) .nil)))) .nil)))
theorem co12 : cBody ⟨["grammar", "prices", "found", "name"], false, TT, FF, MM, BB, [], []⟩ (L2.defScope st12) (L2.defBody st12) = some bd12 := by rfl
def st13 : Stmt := topS 29
def bd13 : ISs := (.cons (.asg true (.n 2) (.lst .nil)) (.cons (.asg false (.n 3) (.c (.int (7)))) (.cons (.for_ (.n 4) (.seq (.sl (.b 0) .nil (.cons (.c (.int (63))) .nil))) (.cons (.asg false (.n 5) (.bi .abs (.cons (.b 4) .nil))) (.cons (.asg false (.n 3) (.op .mod (.bi .int (.cons (.op .add (.op .add (.op .mul (.b 3) (.c (.int (48271)))) (.b 5)) (.c (.int (11)))) .nil)) (.c (.int (2147483647))))) (.cons (.if_ (.op .ge (.b 5) (.op .pow (.c (.int (10))) (.c (.int (18))))) (.cons (.for_ (.n 6) (.rng (.cons (.c (.int (60))) .nil)) (.cons (.if_ (.op .gt (.b 5) (.c (.int (0)))) (.cons (.app 2 (.op .mod (.bi .int (.cons (.b 5) .nil)) (.c (.int (1009))))) (.cons (.asg false (.n 5) (.op .fdiv (.b 5) (.c (.int (1009))))) .nil)) .nil) .nil)) .nil) (.cons (.app 2 (.op .mod (.op .fdiv (.bi .int (.cons (.op .add (.op .mul (.b 3) (.c (.int (16807)))) (.c (.int (5)))) .nil)) (.c (.int (3)))) (.c (.int (65521))))) .nil)) .nil)))) (.cons (.for_ (.n 6) (.rng (.cons (.b 1) .nil)) (.cons (.if_ (.op .lt (.bi .len (.cons (.b 2) .nil)) (.b 1)) (.cons (.asg false (.n 3) (.op .mod (.bi .int (.cons (.op .add (.op .add (.op .mul (.b 3) (.c (.int (69621)))) (.b 6)) (.c (.int (1)))) .nil)) (.c (.int (2147483647))))) (.cons (.app 2 (.op .mod (.op .fdiv (.bi .int (.cons (.b 3) .nil)) (.c (.int (7)))) (.c (.int (65521))))) .nil)) .nil) .nil)) (.cons (.ex (.v 2)) (.cons (.ret (.sl (.b 2) .nil (.cons (.b 1) .nil))) .nil))))))
theorem co13 : cBody ⟨["script", "many", "draws", "seed", "cell", "number", "k"], false, TT, FF, MM, BB, ["draws"], [(119, 2)]⟩ (L2.defScope st13) (L2.defBody st13) = some bd13 := by rfl
def st14 : Stmt := topS 30
def bd14 : ISs := (.cons (.par false true 2 3 (.cons (.sl (.lst (.cons (.c (.str "S")) (.cons (.c (.str "T")) (.cons (.c (.str "U")) (.cons (.c (.str "V")) .nil))))) .nil (.cons (.op .add (.c (.int (1))) (.op .mod (.bi .int (.cons (.ix (.b 0) (.c (.int (0)))) .nil)) (.c (.int (4))))) .nil)) (.cons (.lst .nil) .nil))) (.cons (.asg false (.n 4) (.op .mod (.op .fdiv (.bi .int (.cons (.ix (.b 0) (.c (.int (0)))) .nil)) (.c (.int (4)))) (.c (.int (4))))) (.cons (.for_ (.n 5) (.rng (.cons (.op .add (.bi .len (.cons (.b 2) .nil)) (.op .mod (.bi .int (.cons (.ix (.b 0) (.c (.int (1)))) .nil)) (.b 1))) .nil)) (.cons (.asg false (.n 6) (.op .fdiv (.bi .int (.cons (.ix (.b 0) (.op .add (.c (.int (2))) (.op .mod (.b 5) (.op .sub (.bi .len (.cons (.b 0) .nil)) (.c (.int (2))))))) .nil)) (.op .add (.c (.int (1))) (.op .fdiv (.b 5) (.op .sub (.bi .len (.cons (.b 0) .nil)) (.c (.int (2)))))))) (.cons (.asg false (.n 7) (.ite (.op .lt (.b 5) (.bi .len (.cons (.b 2) .nil))) (.ix (.b 2) (.b 5)) (.ix (.b 2) (.op .mod (.b 6) (.bi .len (.cons (.b 2) .nil)))))) (.cons (.asg true (.n 8) (.lst .nil)) (.cons (.for_ (.n 9) (.rng (.cons (.op .mod (.op .fdiv (.b 6) (.c (.int (5)))) (.ix (.lst (.cons (.c (.int (4))) (.cons (.c (.int (3))) (.cons (.c (.int (2))) (.cons (.c (.int (5))) .nil))))) (.b 4))) .nil)) (.cons (.asg false (.n 10) (.op .mod (.op .fdiv (.b 6) (.op .add (.c (.int (7))) (.op .mul (.c (.int (4))) (.b 9)))) (.ix (.lst (.cons (.c (.int (5))) (.cons (.c (.int (4))) (.cons (.c (.int (3))) (.cons (.c (.int (6))) .nil))))) (.b 4)))) (.cons (.app 8 (.ite (.op .gt (.b 10) (.c (.int (1)))) (.ix (.c (.str "ab")) (.op .mod (.op .fdiv (.b 6) (.op .add (.c (.int (11))) (.b 9))) (.c (.int (2))))) (.ix (.b 2) (.op .mod (.op .fdiv (.b 6) (.op .add (.c (.int (13))) (.b 9))) (.bi .len (.cons (.b 2) .nil)))))) .nil))) (.cons (.ex (.v 8)) (.cons (.if_ (.op .notin (.tup (.cons (.v 7) (.cons (.bi .tuple (.cons (.b 8) .nil)) .nil))) (.b 3)) (.cons (.app 3 (.tup (.cons (.v 7) (.cons (.bi .tuple (.cons (.b 8) .nil)) .nil)))) .nil) .nil) .nil))))))) (.cons (.ex (.v 3)) (.cons (.ret (.bi .tuple (.cons (.b 3) .nil))) .nil)))))
theorem co14 : cBody ⟨["draws", "most", "names", "found", "kind", "k", "draw", "name", "body", "n", "pick"], false, TT, FF, MM, BB, ["body", "found"], [(132, 3), (130, 8)]⟩ (L2.defScope st14) (L2.defBody st14) = some bd14 := by rfl
def st15 : Stmt := topS 32
def bd15 : ISs := (.cons (.asg false (.n 2) (.op .mod (.bi .int (.cons (.ix (.b 0) (.c (.int (0)))) .nil)) (.c (.int (4))))) (.cons (.ret (.bi .tuple (.cons (.lc [3] (.n 3) (.rng (.cons (.b 1) .nil)) .nil (.op .mod (.op .fdiv (.bi .int (.cons (.ix (.b 0) (.op .add (.c (.int (1))) (.op .mod (.b 3) (.op .sub (.bi .len (.cons (.b 0) .nil)) (.c (.int (1))))))) .nil)) (.op .add (.c (.int (1))) (.op .fdiv (.b 3) (.op .sub (.bi .len (.cons (.b 0) .nil)) (.c (.int (1))))))) (.ix (.lst (.cons (.c (.int (2))) (.cons (.c (.int (5))) (.cons (.c (.int (100))) (.cons (.c (.int (1))) .nil))))) (.b 2)))) .nil))) .nil))
theorem co15 : cBody ⟨["draws", "many", "kind", "k"], false, TT, FF, MM, BB, [], []⟩ (L2.defScope st15) (L2.defBody st15) = some bd15 := by rfl
def st16 : Stmt := topS 33
def bd16 : ISs := (.cons (.ret (.and_ (.isi (.b 0) .int) (.and_ (.not_ (.isi (.b 0) .bool)) (.op .ge (.b 0) (.c (.int (0))))))) .nil)
theorem co16 : cBody ⟨["value"], false, TT, FF, MM, BB, [], []⟩ (L2.defScope st16) (L2.defBody st16) = some bd16 := by rfl
def st17 : Stmt := topS 34
def bd17 : ISs := (.cons (.asg true (.n 2) .dnew) (.cons (.for_ (.n 3) (.rng (.cons (.c (.int (400))) .nil)) (.cons (.asg false (.n 4) (.c (.bl false))) (.cons (.for_ (.n 5) (.rng (.cons (.bi .len (.cons (.b 0) .nil)) .nil)) (.cons (.asg false (.t (.cons (.n 6) (.cons (.n 7) .nil))) (.ix (.b 0) (.b 5))) (.cons (.if_ (.bi .all (.cons (.lc [8] (.n 8) (.seq (.v 7)) .nil (.or_ (.op .isin (.b 8) (.c (.str "ab"))) (.op .isin (.b 8) (.b 2)))) .nil)) (.cons (.asg false (.n 9) (.op .add (.ix (.b 1) (.b 5)) (.bi .sum (.cons (.lc [8] (.n 8) (.seq (.v 7)) (.cons (.op .notin (.b 8) (.c (.str "ab"))) .nil) (.ix (.b 2) (.b 8))) .nil)))) (.cons (.if_ (.or_ (.op .notin (.b 6) (.b 2)) (.op .lt (.b 9) (.ix (.b 2) (.b 6)))) (.cons (.put 2 (.b 6) (.v 9)) (.cons (.asg false (.n 4) (.c (.bl true))) .nil)) .nil) .nil)) .nil) .nil))) (.cons (.if_ (.not_ (.b 4)) (.cons (.ret (.mv 2)) .nil) .nil) .nil)))) (.cons (.ret (.mv 2)) .nil)))
theorem co17 : cBody ⟨["rules", "prices", "found", "turn", "is_new", "k", "name", "body", "symbol", "cost"], false, TT, FF, MM, BB, ["found"], []⟩ (L2.defScope st17) (L2.defBody st17) = some bd17 := by rfl
def st18 : Stmt := topS 35
def bd18 : ISs := (.cons (.if_ (.or_ (.not_ (.isi (.b 1) .tuple)) (.not_ (.bi .all (.cons (.lc [2] (.n 2) (.seq (.v 1)) .nil (.and_ (.call 16 (.cons (.v 2) .nil)) (.op .lt (.b 2) (.bi .len (.cons (.b 0) .nil))))) .nil)))) (.cons (.ret (.tup (.cons (.c (.str "form")) (.cons .dnew .nil)))) .nil) .nil) (.cons (.asg false (.n 3) (.lc [2] (.n 2) (.seq (.v 1)) .nil (.ix (.ix (.b 0) (.b 2)) (.c (.int (0)))))) (.cons (.if_ (.op .lt (.un .lset (.b 3)) (.bi .len (.cons (.b 3) .nil))) (.cons (.ret (.tup (.cons (.c (.str "form")) (.cons .dnew .nil)))) .nil) .nil) (.cons (.for_ (.n 4) (.rng (.cons (.bi .len (.cons (.b 1) .nil)) .nil)) (.cons (.if_ (.not_ (.bi .all (.cons (.lc [5] (.n 5) (.seq (.ix (.ix (.b 0) (.ix (.b 1) (.b 4))) (.c (.int (1))))) .nil (.or_ (.op .isin (.b 5) (.c (.str "ab"))) (.op .isin (.b 5) (.sl (.b 3) .nil (.cons (.b 4) .nil))))) .nil))) (.cons (.ret (.tup (.cons (.v 4) (.cons .dnew .nil)))) .nil) .nil) .nil)) (.cons (.ret (.tup (.cons (.c .non) (.cons (.v 3) .nil)))) .nil)))))
theorem co18 : cBody ⟨["rules", "value", "one", "names", "k", "symbol"], false, TT, FF, MM, BB, [], []⟩ (L2.defScope st18) (L2.defBody st18) = some bd18 := by rfl
def st19 : Stmt := topS 36
def bd19 : ISs := (.cons (.par true false 3 4 (.cons (.lst .nil) (.cons (.rgl false (.cons (.bi .len (.cons (.b 1) .nil)) .nil)) .nil))) (.cons (.for_ (.n 5) (.rng (.cons (.bi .len (.cons (.b 1) .nil)) .nil)) (.cons (.asg false (.n 6) (.ix (.b 4) (.op .mod (.bi .int (.cons (.ix (.b 0) (.op .mod (.b 5) (.bi .len (.cons (.b 0) .nil)))) .nil)) (.bi .len (.cons (.b 4) .nil))))) (.cons (.asg false (.n 4) (.lc [7] (.n 7) (.seq (.v 4)) (.cons (.op .ne (.ix (.ix (.b 1) (.b 7)) (.c (.int (0)))) (.ix (.ix (.b 1) (.b 6)) (.c (.int (0))))) .nil) (.v 7))) (.cons (.app 3 (.v 6)) (.cons (.if_ (.op .eq (.bi .len (.cons (.b 4) .nil)) (.c (.int (0)))) (.cons .brk .nil) .nil) .nil))))) (.cons (.ex (.v 3)) (.cons (.asg false (.n 8) (.lst (.cons (.v 2) (.cons (.bi .list (.cons (.b 2) .nil)) (.cons (.c .non) (.cons (.c (.int (7))) (.cons (.tup .nil) (.cons (.sl (.b 2) (.cons (.c (.int (1))) .nil) .nil) (.cons (.sl (.b 2) .nil (.cons (.neg (.c (.int (1)))) .nil)) (.cons (.un .rev (.b 2)) (.cons (.op .add (.b 2) (.sl (.b 2) (.cons (.neg (.c (.int (1)))) .nil) .nil)) (.cons (.bi .tuple (.cons (.b 3) .nil)) (.cons (.rgl true (.cons (.bi .len (.cons (.b 1) .nil)) .nil)) .nil))))))))))))) (.cons (.asg false (.n 8) (.op .add (.b 8) (.lc [9] (.n 9) (.seq (.lst (.cons (.bi .len (.cons (.b 1) .nil)) (.cons (.neg (.c (.int (1)))) (.cons (.c (.bl true)) (.cons (.c .non) (.cons (.c (.str "0")) .nil))))))) .nil (.op .add (.b 2) (.tup (.cons (.v 9) .nil)))))) (.cons (.if_ (.op .gt (.bi .len (.cons (.b 2) .nil)) (.c (.int (0)))) (.cons (.par false false 10 7 (.cons (.op .mod (.bi .int (.cons (.ix (.b 0) (.c (.int (0)))) .nil)) (.bi .len (.cons (.b 2) .nil))) (.cons (.op .mod (.bi .int (.cons (.ix (.b 0) (.c (.int (1)))) .nil)) (.bi .len (.cons (.b 2) .nil))) .nil))) (.cons (.asg true (.n 11) (.bi .list (.cons (.b 2) .nil))) (.cons (.put2 11 11 (.b 10) (.b 7) (.tup (.cons (.ix (.b 11) (.b 7)) (.cons (.ix (.b 11) (.b 10)) .nil)))) (.cons (.ex (.v 11)) (.cons (.asg false (.n 8) (.op .add (.b 8) (.lst (.cons (.bi .tuple (.cons (.b 11) .nil)) (.cons (.op .add (.sl (.b 2) .nil (.cons (.b 10) .nil)) (.sl (.b 2) (.cons (.op .add (.b 10) (.c (.int (1)))) .nil) .nil)) (.cons (.op .add (.op .add (.sl (.b 2) .nil (.cons (.b 10) .nil)) (.tup (.cons (.op .mod (.bi .int (.cons (.ix (.b 0) (.c (.int (2)))) .nil)) (.bi .len (.cons (.b 1) .nil))) .nil))) (.sl (.b 2) (.cons (.op .add (.b 10) (.c (.int (1)))) .nil) .nil)) .nil)))))) .nil))))) .nil) (.cons (.ret (.mv 8)) .nil)))))))
theorem co19 : cBody ⟨["draws", "rules", "plan", "drawn", "left", "k", "one", "other", "found", "wrong", "at", "rows"], false, TT, FF, MM, BB, ["drawn", "rows"], [(172, 3), (178, 11)]⟩ (L2.defScope st19) (L2.defBody st19) = some bd19 := by rfl
def st20 : Stmt := topS 37
def bd20 : ISs := (.cons (.tryA (.cons (.ex (.call 10 (.cons (.v 0) (.cons (.v 1) (.cons (.v 2) .nil))))) .nil) 0 3 3 (.bl true) (.bl false)) (.cons (.ret (.c (.bl false))) .nil))
theorem co20 : cBody ⟨["grammar", "prices", "value", "e"], false, TT, FF, MM, BB, [], []⟩ (L2.defScope st20) (L2.defBody st20) = some bd20 := by rfl
def st21 : Stmt := topS 38
def bd21 : ISs := (.cons (.asg false (.n 1) (.call 13 (.cons (.v 0) (.cons (.c (.int (60))) .nil)))) (.cons (.for_ (.n 2) (.rng (.cons (.c (.int (4))) .nil)) (.cons (.asg false (.n 3) (.call 14 (.cons (.sl (.b 1) (.cons (.op .add (.c (.int (4))) (.op .mul (.c (.int (9))) (.b 2))) .nil) (.cons (.op .add (.c (.int (18))) (.op .mul (.c (.int (9))) (.b 2))) .nil)) (.cons (.c (.int (6))) .nil)))) (.cons (.par false false 4 5 (.cons (.new 0 (.cons (.c (.str "S")) (.cons (.v 3) .nil))) (.cons (.call 15 (.cons (.sl (.b 1) (.cons (.op .add (.c (.int (38))) (.op .mul (.c (.int (4))) (.b 2))) .nil) (.cons (.op .add (.c (.int (48))) (.op .mul (.c (.int (4))) (.b 2))) .nil)) (.cons (.bi .len (.cons (.b 3) .nil)) .nil))) .nil))) (.cons (.asg false (.n 6) (.call 17 (.cons (.v 3) (.cons (.v 5) .nil)))) (.cons (.for_ (.n 7) (.seq (.call 19 (.cons (.sl (.b 1) (.cons (.op .add (.c (.int (44))) (.op .mul (.c (.int (3))) (.b 2))) .nil) .nil) (.cons (.v 3) (.cons (.ix (.call 12 (.cons (.v 4) (.cons (.v 5) .nil))) (.c (.int (0)))) .nil))))) (.cons (.asg false (.t (.cons (.n 8) (.cons (.n 9) .nil))) (.call 18 (.cons (.v 3) (.cons (.v 7) .nil)))) (.cons (.if_ (.or_ (.op .ne (.call 9 (.cons (.v 4) (.cons (.v 7) .nil))) (.b 8)) (.op .eq (.call 20 (.cons (.v 4) (.cons (.v 5) (.cons (.v 7) .nil)))) (.op .is_ (.b 8) (.c .non)))) (.cons (.ret (.c (.bl false))) .nil) .nil) (.cons (.if_ (.op .is_ (.b 8) (.c .non)) (.cons (.asg true (.n 10) .dnew) (.cons (.for_ (.n 11) (.seq (.v 7)) (.cons (.put 10 (.ix (.ix (.b 3) (.b 11)) (.c (.int (0)))) (.op .add (.ix (.b 5) (.b 11)) (.bi .sum (.cons (.lc [12] (.n 12) (.seq (.ix (.ix (.b 3) (.b 11)) (.c (.int (1))))) (.cons (.op .notin (.b 12) (.c (.str "ab"))) .nil) (.ix (.b 10) (.b 12))) .nil)))) .nil)) (.cons (.ex (.v 10)) (.cons (.if_ (.or_ (.op .ne (.call 10 (.cons (.v 4) (.cons (.v 5) (.cons (.v 7) .nil)))) (.bi .tuple (.cons (.lc [13] (.n 13) (.seq (.bi .sorted (.cons (.b 10) .nil))) .nil (.tup (.cons (.v 13) (.cons (.ix (.b 10) (.b 13)) .nil)))) .nil))) (.bi .any (.cons (.lc [13] (.n 13) (.seq (.v 10)) .nil (.op .lt (.ix (.b 10) (.b 13)) (.ix (.b 6) (.b 13)))) .nil))) (.cons (.ret (.c (.bl false))) .nil) .nil) .nil)))) .nil) .nil)))) .nil))))) (.cons (.ret (.c (.bl true))) .nil)))
theorem co21 : cBody ⟨["script", "draws", "turn", "rules", "grammar", "prices", "least", "value", "due", "names", "costs", "number", "symbol", "name"], false, TT, FF, MM, BB, ["costs"], [(200, 10)]⟩ (L2.defScope st21) (L2.defBody st21) = some bd21 := by rfl
def st22 : Stmt := inClass (topS 16) 1
def bd22 : ISs := (.cons (.ret (.lc [2, 3] (.t (.cons (.n 2) (.cons (.n 3) .nil))) (.enum (.cons (.fld (.b 0) 1) .nil)) (.cons (.op .eq (.ix (.b 3) (.c (.int (0)))) (.b 1)) .nil) (.v 2))) .nil)
theorem co22 : cBody ⟨["self", "name", "number", "rule"], false, TT, FF, MM, BB, [], []⟩ (L2.defScope st22) (L2.defBody st22) = some bd22 := by rfl
def st23 : Stmt := inClass (topS 16) 0
def bd23 : ISs := (.cons (.if_ (.or_ (.not_ (.isi (.b 2) .tuple)) (.not_ (.ch .le .le (.c (.int (1))) (.bi .len (.cons (.b 2) .nil)) (.c (.int (40)))))) (.cons (.raise 1) .nil) .nil) (.cons (.if_ (.not_ (.bi .all (.cons (.lc [3] (.n 3) (.seq (.v 2)) .nil (.call 3 (.cons (.v 3) .nil))) .nil))) (.cons (.raise 1) .nil) .nil) (.cons (.asg false (.n 4) (.dc [5, 6] (.t (.cons (.n 5) (.cons (.n 6) .nil))) (.seq (.v 2)) .nil (.b 5) (.c (.bl true)))) (.cons (.if_ (.or_ (.op .ne (.nd [3] (.n 3) (.seq (.v 2)) (.b 3) (.c (.bl true))) (.bi .len (.cons (.b 2) .nil))) (.op .gt (.bi .len (.cons (.b 4) .nil)) (.c (.int (12))))) (.cons (.raise 1) .nil) .nil) (.cons (.if_ (.or_ (.not_ (.call 1 (.cons (.v 1) .nil))) (.op .notin (.b 1) (.b 4))) (.cons (.raise 1) .nil) .nil) (.cons (.asg false (.n 7) (.dc2 [8, 9, 10] [10] (.t (.cons (.n 8) (.cons (.n 9) .nil))) (.seq (.v 2)) (.n 10) (.seq (.v 9)) (.b 10) (.c (.bl true)))) (.cons (.if_ (.not_ (.bi .all (.cons (.lc [10] (.n 10) (.seq (.v 7)) .nil (.or_ (.call 0 (.cons (.v 10) .nil)) (.op .isin (.b 10) (.b 4)))) .nil))) (.cons (.raise 1) .nil) .nil) (.cons (.setf 0 0 (.v 1)) (.cons (.setf 0 1 (.v 2)) (.cons (.setf 0 2 (.bi .tuple (.cons (.bi .sorted (.cons (.b 4) .nil)) .nil))) (.cons (.setf 0 3 (.bi .tuple (.cons (.bi .sorted (.cons (.lc [10] (.n 10) (.seq (.v 7)) (.cons (.call 0 (.cons (.v 10) .nil)) .nil) (.v 10)) .nil)) .nil))) .nil)))))))))))
theorem co23 : cBody ⟨["self", "start", "rules", "rule", "heads", "name", "_body", "symbols", "_name", "body", "symbol"], true, TT, FF, MM, BB, ["self"], []⟩ (L2.defScope st23) (L2.defBody st23) = some bd23 := by rfl
def subT : List (List Bool) := [[true, false, false, false], [true, true, false, false], [true, false, true, false], [true, false, false, true]]
def subP (j k : Nat) : Bool := (subT.getD j (subT.getD 0 [])).getD k false
def flP (k i : Nat) : Bool := (k == 0 && decide (i < 4))
def prg : Prg := { fns := [⟨1, 1, bd0⟩, ⟨1, 2, bd1⟩, ⟨1, 1, bd2⟩, ⟨1, 2, bd3⟩, ⟨1, 1, bd4⟩, ⟨2, 3, bd5⟩, ⟨2, 2, bd6⟩, ⟨1, 2, bd7⟩, ⟨2, 3, bd8⟩, ⟨2, 8, bd9⟩, ⟨3, 8, bd10⟩, ⟨2, 11, bd11⟩, ⟨2, 4, bd12⟩, ⟨2, 7, bd13⟩, ⟨2, 11, bd14⟩, ⟨2, 4, bd15⟩, ⟨1, 1, bd16⟩, ⟨2, 10, bd17⟩, ⟨2, 6, bd18⟩, ⟨3, 12, bd19⟩, ⟨3, 4, bd20⟩, ⟨1, 14, bd21⟩, ⟨2, 4, bd22⟩], cls := [(0, ⟨⟨3, 11, bd23⟩, [(0, 22)]⟩)], sub := subP, fl := flP, fuel := 5000, ia := true }
end GK
namespace GK
open PySem GF L2
structure Gram where
  start : Tx
  rules : (List (Tx × (List Tx)))
  names : (List Tx)
  letters : (List Tx)
  deriving DecidableEq
def encGram (o : Bool) (x : Gram) : D := .ins o 0 [0, 1, 2, 3] [encT x.start, (encS (enc2 encT (encS encT))) x.rules, (encS encT) x.names, (encS encT) x.letters]
theorem mt_22 (n : Nat) : (prg.phi n).mt 0 0 = some 22 := by rw [phi_mt]; rfl
abbrev R_is_letter (x0 : Option D) : Rho := [x0]
def F_is_letter (value0 : Tx) : M Bool :=
  M.ofO (isTy (encT value0) .str) fun v1 =>
  M.ofO (if v1 then gO (value0.length ≤ sizeLine) (some ((decide ((value0.length : Int) = (1 : Int))) && (inTx value0 (("abcdefghijklmnopqrstuvwxyz").toList)))) else some false) fun v4 =>
  .ok v4
theorem ok_is_letter (n : Nat) (value0 : Tx) : JF ((prg.phi (n + 1)).fn 0 [encT value0]) (F_is_letter value0) D.bl := by
  refine JF_fn (fi := ⟨1, 1, bd0⟩) rfl rfl (JF_run (r := (R_is_letter (some (encT value0)))) rfl ?_)
  unfold F_is_letter
  exact (
  J_ho fun v1 h2 =>
  J_ho fun v4 h5 =>
  J_ret ((evV_and (PV.o (pv_isi (po_b rfl) h2)) (fun _ => (evV_gO fun h3 => (evV (pv_and (PV.o (pv_op (PV.o (pv_bi (pos_cons (po_b rfl) pos_nil) (bi_len_t h3))) (PV.o (pv_c _)) (op_eq (PlT.int (k := 0)) (by decide) _ _))) (pv_op (po_b rfl) (PV.o (pv_cc (str_lit _))) (op_in_t _ _))) rfl)))).q h5) (.inl rfl))

abbrev R_is_name (x0 x1 : Option D) : Rho := [x0, x1]
def F_is_name (value0 : Tx) : M Bool :=
  M.ofO (isTy (encT value0) .str) fun v1 =>
  M.ofO (if v1 then gO (value0.length ≤ sizeLine) ((if (decide ((1 : Int) ≤ (value0.length : Int)) && decide ((value0.length : Int) ≤ (6 : Int))) then (gO (value0.length ≤ sizeLine) (lcO (fun _ => some true) (fun (a4 : Char) => some (inTx [a4] (("ABCDEFGHIJKLMNOPQRSTUVWXYZ").toList))) value0)).bind fun v5 => some (v5.all id) else some false).bind fun v7 => some v7) else some false) fun v9 =>
  .ok v9
theorem ok_is_name (n : Nat) (value0 : Tx) : JF ((prg.phi (n + 1)).fn 1 [encT value0]) (F_is_name value0) D.bl := by
  refine JF_fn (fi := ⟨1, 2, bd1⟩) rfl rfl (JF_run (r := (R_is_name (some (encT value0)) none)) rfl ?_)
  unfold F_is_name
  exact (
  J_ho fun v1 h2 =>
  J_ho fun v9 h10 =>
  J_ret ((evV_and (PV.o (pv_isi (po_b rfl) h2)) (fun _ => (evV_gO fun h3 => (evV_bind fun v7 h8 => (evV ((evV_and (PV.o (pv_ch (PV.o (pv_c _)) (PV.o (pv_bi (pos_cons (po_b rfl) pos_nil) (bi_len_t h3))) (PV.o (pv_c _)) (op_le _ _) (op_le _ _))) (fun _ => (evV_bind fun v5 h6 => (evV (pv_bi (pos_cons (PV.o ((evV_lc (f := D.bl) value0 sgn (pi_seq (pv_v rfl rfl) (it_t _)) (free_c (x := none) rfl nj_none free_n) rfl (fun a4 => ⟨(R_is_name (some (encT value0)) (some (sgn a4))), rfl, rfl, D.bl, fun _ => ⟨rfl, rfl⟩, (evV (pv_op (po_b rfl) (PV.o (pv_cc (str_lit _))) (op_in_t _ _)) rfl)⟩)).q h6)) pos_nil) (tb_all _)) rfl)))).q h8) rfl))))).q h10) (.inl rfl))

abbrev R_is_symbol (x0 : Option D) : Rho := [x0]
def F_is_symbol (value0 : Tx) : M Bool :=
  M.ofO ((F_is_letter value0).get) fun v1 =>
  M.ofO (if v1 then some true else ((F_is_name value0).get).bind fun v3 => some v3) fun v5 =>
  .ok v5
theorem ok_is_symbol (n : Nat) (value0 : Tx) : JF ((prg.phi (n + 2)).fn 2 [encT value0]) (F_is_symbol value0) D.bl := by
  refine JF_fn (fi := ⟨1, 1, bd2⟩) rfl rfl (JF_run (r := (R_is_symbol (some (encT value0)))) rfl ?_)
  unfold F_is_symbol
  exact (
  J_ho fun v1 h2 =>
  J_ho fun v5 h6 =>
  J_ret ((evV_or (PV.o (pv_call (pl_cons (d' := encT value0) (pv_v rfl rfl) rfl pl_nil) ((ok_is_letter (n + 0) value0).get h2))) (fun _ => (evV_bind fun v3 h4 => (evV (pv_call (pl_cons (d' := encT value0) (pv_v rfl rfl) rfl pl_nil) ((ok_is_name (n + 0) value0).get h4)) rfl)))).q h6) (.inl rfl))

abbrev R_is_rule (x0 x1 : Option D) : Rho := [x0, x1]
def F_is_rule (value0 : (Tx × (List Tx))) : M Bool :=
  M.ofO (isTy ((enc2 encT (encS encT)) value0) .tuple) fun v1 =>
  M.ofO (if (!v1) then some true else (if (!decide ((2 : Int) = (2 : Int))) then some true else ((F_is_name value0.1).get).bind fun v3 => (if (!v3) then some true else (isTy ((encS encT) value0.2) .tuple).bind fun v5 => some (!v5)).bind fun v7 => some v7).bind fun v9 => some v9) fun v11 =>
  (if v11 then (.ok false) else (M.ofO (if (decide ((value0.2.length : Int) ≤ (8 : Int))) then (gO (value0.2.length ≤ sizeLine) (lcO (fun _ => some true) (fun (a13 : Tx) => ((F_is_symbol a13).get).bind fun v14 => some v14) value0.2)).bind fun v16 => some (v16.all id) else some false) fun v18 =>
  .ok v18))
theorem ok_is_rule (n : Nat) (value0 : (Tx × (List Tx))) : JF ((prg.phi (n + 3)).fn 3 [(enc2 encT (encS encT)) value0]) (F_is_rule value0) D.bl := by
  refine JF_fn (fi := ⟨1, 2, bd3⟩) rfl rfl (JF_run (r := (R_is_rule (some ((enc2 encT (encS encT)) value0)) none)) rfl ?_)
  unfold F_is_rule
  exact (
  J_ho fun v1 h2 =>
  J_ho fun v11 h12 =>
  J_ifX ((evO_or (PV.o (pv_not (PV.o (pv_isi (po_b rfl) h2)))) (fun _ => (evO_bind fun v9 h10 => (evO ((evO_or (PV.o (pv_op (PV.o (pv_bi (pos_cons (po_b rfl) pos_nil) (bi_len_2 _))) (PV.o (pv_c _)) (op_ne (PlT.int (k := 0)) (by decide) _ _))) (fun _ => (evO_bind fun v3 h4 => (evO_bind fun v7 h8 => (evO ((evO_or (PV.o (pv_not (PV.o (pv_call (pl_cons (d' := encT value0.1) (pv_ix (po_b rfl) (PV.o (pv_c _)) rfl) rfl pl_nil) ((ok_is_name (n + 1) value0.1).get h4))))) (fun _ => (evO_bind fun v5 h6 => (evO (PV.o (pv_not (PV.o (pv_isi (PV.o (pv_ix (po_b rfl) (PV.o (pv_c _)) rfl)) h6)))) rfl)))).q h8) rfl))))).q h10) rfl)))).q h12) (fun _ =>
  J_ret (pv_c _) (.inl rfl))
  (fun _ =>
  J_on <|
  J_ho fun v18 h19 =>
  J_ret ((evV_and (PV.o (pv_op (PV.o (pv_bi (pos_cons (PV.o (pv_ix (po_b rfl) (PV.o (pv_c _)) rfl)) pos_nil) (bi_len_s _))) (PV.o (pv_c _)) (op_le _ _))) (fun _ => (evV_bind fun v16 h17 => (evV (pv_bi (pos_cons (PV.o ((evV_lc (f := D.bl) value0.2 encT (pi_seq (pv_ix (po_b rfl) (PV.o (pv_c _)) rfl) (it_s _)) (free_c (x := none) rfl nj_none free_n) rfl (fun a13 => ⟨(R_is_rule (some ((enc2 encT (encS encT)) value0)) (some (encT a13))), rfl, rfl, D.bl, fun _ => ⟨rfl, rfl⟩, (evV_bind fun v14 h15 => (evV (pv_call (pl_cons (d' := encT a13) (pv_v rfl rfl) rfl pl_nil) ((ok_is_symbol (n + 0) a13).get h15)) rfl))⟩)).q h17)) pos_nil) (tb_all _)) rfl)))).q h19) (.inl rfl)))

abbrev R_Grammar___init (x0 x1 x2 x3 x4 x5 x6 x7 x8 x9 x10 : Option D) : Rho := [x0, x1, x2, x3, x4, x5, x6, x7, x8, x9, x10]
def F_Grammar___init (start0 : Tx) (rules0 : (List (Tx × (List Tx)))) : M Gram :=
  M.ofO (isTy ((encS (enc2 encT (encS encT))) rules0) .tuple) fun v1 =>
  (if ((!v1) || (!(decide ((1 : Int) ≤ (rules0.length : Int)) && decide ((rules0.length : Int) ≤ (40 : Int))))) then (.er 1) else (M.ofO (gO (rules0.length ≤ sizeLine) (lcO (fun _ => some true) (fun (a3 : (Tx × (List Tx))) => ((F_is_rule a3).get).bind fun v4 => some v4) rules0)) fun v6 =>
  (if (!(v6.all id)) then (.er 1) else (M.ofO (dcO (fun _ => some true) (fun (a8 : (Tx × (List Tx))) => some a8.1) (fun (a8 : (Tx × (List Tx))) => some true) rules0 []) fun v9 =>
  M.ofO (gO (rules0.length ≤ sizeLine) (some ((nubK rules0).length : Int))) fun v12 =>
  (if ((!decide (v12 = (rules0.length : Int))) || (decide ((12 : Int) < (v9.length : Int)))) then (.er 1) else (M.ofO ((F_is_name start0).get) fun v14 =>
  (if ((!v14) || (!((dget v9 start0).isSome))) then (.er 1) else (M.ofO (dc2O (fun (a16 : (Tx × (List Tx))) => some a16.2) (fun (a16 : (Tx × (List Tx))) (a17 : Tx) => some a17) (fun (a16 : (Tx × (List Tx))) (a17 : Tx) => some true) rules0 []) fun v18 =>
  M.ofO (gO ((v18.map (·.1)).length ≤ sizeLine) (lcO (fun _ => some true) (fun (a20 : Tx) => ((F_is_letter a20).get).bind fun v21 => some (v21 || (dget v9 a20).isSome)) (v18.map (·.1)))) fun v23 =>
  (if (!(v23.all id)) then (.er 1) else (gd (sortOk ((v9.map (·.1)).map encT) = true) <|
  let_ ((srtT encT (v9.map (·.1)))) fun x26 =>
  M.ofO (gO ((v18.map (·.1)).length ≤ sizeLine) (lcO (fun (a27 : Tx) => ((F_is_letter a27).get).bind fun v28 => some v28) (fun (a27 : Tx) => some a27) (v18.map (·.1)))) fun v30 =>
  gd (sortOk (v30.map encT) = true) <|
  let_ ((srtT encT v30)) fun x33 =>
  .ok (⟨start0, rules0, x26, x33⟩ : Gram)))))))))))
theorem ok_Grammar___init (n : Nat) (start0 : Tx) (rules0 : (List (Tx × (List Tx)))) : JF ((prg.phi (n + 4)).mkI 0 [encT start0, (encS (enc2 encT (encS encT))) rules0]) (F_Grammar___init start0 rules0) (encGram true) := by
  refine JI_fn (ci := _) rfl rfl (JI_run (ns := [0, 1, 2, 3]) (us := (fun (v : Gram) => [encT v.start, (encS (enc2 encT (encS encT))) v.rules, (encS encT) v.names, (encS encT) v.letters])) (r := (R_Grammar___init (some (.ins true 0 [] [])) (some (encT start0)) (some ((encS (enc2 encT (encS encT))) rules0)) none none none none none none none none)) rfl ?_)
  unfold F_Grammar___init
  exact (
  J_ho fun v1 h2 =>
  J_ifX (PV.o (pv_or (PV.o (pv_not (PV.o (pv_isi (po_b rfl) h2)))) (pv_not (PV.o (pv_ch (PV.o (pv_c _)) (PV.o (pv_bi (pos_cons (po_b rfl) pos_nil) (bi_len_s _))) (PV.o (pv_c _)) (op_le _ _) (op_le _ _)))))) (fun _ =>
  J_raise trivial)
  (fun _ =>
  J_on <|
  J_ho fun v6 h7 =>
  J_ifX (PV.o (pv_not (PV.o (pv_bi (pos_cons (PV.o ((evV_lc (f := D.bl) rules0 (enc2 encT (encS encT)) (pi_seq (pv_v rfl rfl) (it_s _)) (free_c (x := none) rfl nj_none free_n) rfl (fun a3 => ⟨(R_Grammar___init (some (.ins true 0 [] [])) (some (encT start0)) (some ((encS (enc2 encT (encS encT))) rules0)) (some ((enc2 encT (encS encT)) a3)) none none none none none none none), rfl, rfl, D.bl, fun _ => ⟨rfl, rfl⟩, (evV_bind fun v4 h5 => (evV (pv_call (pl_cons (d' := (enc2 encT (encS encT)) a3) (pv_v rfl rfl) rfl pl_nil) ((ok_is_rule (n + 0) a3).get h5)) rfl))⟩)).q h7)) pos_nil) (tb_all _))))) (fun _ =>
  J_raise trivial)
  (fun _ =>
  J_on <|
  J_ho fun v9 h10 =>
  J_asg (d' := (encDc false encT D.bl) v9) (r2 := (R_Grammar___init (some (.ins true 0 [] [])) (some (encT start0)) (some ((encS (enc2 encT (encS encT))) rules0)) none (some ((encDc false encT D.bl) v9)) none none none none none none)) ((evV_dc (ek := encT) (ev := D.bl) KeyT.str (tk := (fun (a8 : (Tx × (List Tx))) => some a8.1)) (tv := (fun (a8 : (Tx × (List Tx))) => some true)) rules0 (enc2 encT (encS encT)) (pi_seq (pv_v rfl rfl) (it_s _)) (free_c (x := none) rfl nj_none (free_c (x := none) rfl nj_none free_n)) rfl (fun a8 => ⟨(R_Grammar___init (some (.ins true 0 [] [])) (some (encT start0)) (some ((encS (enc2 encT (encS encT))) rules0)) none none (some (encT a8.1)) (some ((encS encT) a8.2)) none none none none), rfl, rfl, (evO (po_b rfl) rfl), D.bl, fun _ => ⟨rfl, rfl⟩, (evV (pv_c _) rfl)⟩)).q h10) rfl rfl <|
  J_ho fun v12 h13 =>
  J_ifX (PV.o (pv_or (PV.o (pv_op (PV.o ((evV_nd (ek := (enc2 encT (encS encT))) NkT.rule rules0 (pi_seq (pv_v rfl rfl) (it_s _)) (free_c (x := none) rfl nj_none free_n) rfl (fun a11 => ⟨(R_Grammar___init (some (.ins true 0 [] [])) (some (encT start0)) (some ((encS (enc2 encT (encS encT))) rules0)) (some ((enc2 encT (encS encT)) a11)) (some ((encDc false encT D.bl) v9)) none none none none none none), rfl, rfl, (po_b rfl), pv_c _⟩)).q h13)) (PV.o (pv_bi (pos_cons (po_b rfl) pos_nil) (bi_len_s _))) (op_ne (PlT.int (k := 0)) (by decide) _ _))) (pv_op (PV.o (pv_bi (pos_cons (po_b rfl) pos_nil) (bi_len_d _))) (PV.o (pv_c _)) (op_gt _ _)))) (fun _ =>
  J_raise trivial)
  (fun _ =>
  J_on <|
  J_ho fun v14 h15 =>
  J_ifX (PV.o (pv_or (PV.o (pv_not (PV.o (pv_call (pl_cons (d' := encT start0) (pv_v rfl rfl) rfl pl_nil) ((ok_is_name (n + 2) start0).get h15))))) (pv_op (po_b rfl) (po_b rfl) (op_notin (op_in_d KeyT.str _ _))))) (fun _ =>
  J_raise trivial)
  (fun _ =>
  J_on <|
  J_ho fun v18 h19 =>
  J_asg (d' := (encDc false encT D.bl) v18) (r2 := (R_Grammar___init (some (.ins true 0 [] [])) (some (encT start0)) (some ((encS (enc2 encT (encS encT))) rules0)) none (some ((encDc false encT D.bl) v9)) none none (some ((encDc false encT D.bl) v18)) none none none)) ((evV_dc2 (ek := encT) (ev := D.bl) KeyT.str (ti := (fun (a16 : (Tx × (List Tx))) => some a16.2)) (tk := (fun (a16 : (Tx × (List Tx))) (a17 : Tx) => some a17)) (tv := (fun (a16 : (Tx × (List Tx))) (a17 : Tx) => some true)) rules0 (enc2 encT (encS encT)) encT (pi_seq (pv_v rfl rfl) (it_s _)) (free_c (x := none) rfl nj_none (free_c (x := none) rfl nj_none (free_c (x := none) rfl nj_none free_n))) rfl (fun a16 => ⟨(R_Grammar___init (some (.ins true 0 [] [])) (some (encT start0)) (some ((encS (enc2 encT (encS encT))) rules0)) none (some ((encDc false encT D.bl) v9)) none none none (some (encT a16.1)) (some ((encS encT) a16.2)) none), rfl, rfl, fun _ he => (by cases he; exact (pi_seq (pv_v rfl rfl) (it_s _))), fun a17 => ⟨(R_Grammar___init (some (.ins true 0 [] [])) (some (encT start0)) (some ((encS (enc2 encT (encS encT))) rules0)) none (some ((encDc false encT D.bl) v9)) none none none (some (encT a16.1)) (some ((encS encT) a16.2)) (some (encT a17))), rfl, rfl, (evO (po_b rfl) rfl), D.bl, fun _ => ⟨rfl, rfl⟩, (evV (pv_c _) rfl)⟩⟩)).q h19) rfl rfl <|
  J_ho fun v23 h24 =>
  J_ifX (PV.o (pv_not (PV.o (pv_bi (pos_cons (PV.o ((evV_lc (f := D.bl) (v18.map (·.1)) encT (pi_seq (pv_v rfl rfl) (it_d _)) (free_c (x := none) rfl nj_none free_n) rfl (fun a20 => ⟨(R_Grammar___init (some (.ins true 0 [] [])) (some (encT start0)) (some ((encS (enc2 encT (encS encT))) rules0)) none (some ((encDc false encT D.bl) v9)) none none (some ((encDc false encT D.bl) v18)) none none (some (encT a20))), rfl, rfl, D.bl, fun _ => ⟨rfl, rfl⟩, (evV_bind fun v21 h22 => (evV (pv_or (PV.o (pv_call (pl_cons (d' := encT a20) (pv_v rfl rfl) rfl pl_nil) ((ok_is_letter (n + 2) a20).get h22))) (pv_op (po_b rfl) (po_b rfl) (op_in_d KeyT.str _ _))) rfl))⟩)).q h24)) pos_nil) (tb_all _))))) (fun _ =>
  J_raise trivial)
  (fun _ =>
  J_on <|
  J_setf (d' := encT start0) (r2 := (R_Grammar___init (some (.ins true 0 [0] [encT start0])) (some (encT start0)) (some ((encS (enc2 encT (encS encT))) rules0)) none (some ((encDc false encT D.bl) v9)) none none (some ((encDc false encT D.bl) v18)) none none none)) (pv_v rfl rfl) rfl (by rw [phi_fl]; rfl) rfl rfl rfl <|
  J_setf (d' := (encS (enc2 encT (encS encT))) rules0) (r2 := (R_Grammar___init (some (.ins true 0 [0, 1] [encT start0, (encS (enc2 encT (encS encT))) rules0])) (some (encT start0)) (some ((encS (enc2 encT (encS encT))) rules0)) none (some ((encDc false encT D.bl) v9)) none none (some ((encDc false encT D.bl) v18)) none none none)) (pv_v rfl rfl) rfl (by rw [phi_fl]; rfl) rfl rfl rfl <|
  J_gd fun h25 =>
  J_let fun x26 e_x26 => (J_setf (d' := (encS encT) x26) (r2 := (R_Grammar___init (some (.ins true 0 [0, 1, 2] [encT start0, (encS (enc2 encT (encS encT))) rules0, (encS encT) x26])) (some (encT start0)) (some ((encS (enc2 encT (encS encT))) rules0)) none (some ((encDc false encT D.bl) v9)) none none (some ((encDc false encT D.bl) v18)) none none none)) (pv_d (pv_bi (pos_cons (PV.o (pv_bi (pos_cons (po_b rfl) pos_nil) (bi_sorted_d h25))) pos_nil) (bi_tuple_l _)) (congrArg (encS encT) e_x26.symm)) rfl (by rw [phi_fl]; rfl) rfl rfl rfl <|
  J_ho fun v30 h31 =>
  J_gd fun h32 =>
  J_let fun x33 e_x33 => (J_setf (d' := (encS encT) x33) (r2 := (R_Grammar___init (some (.ins true 0 [0, 1, 2, 3] [encT start0, (encS (enc2 encT (encS encT))) rules0, (encS encT) x26, (encS encT) x33])) (some (encT start0)) (some ((encS (enc2 encT (encS encT))) rules0)) none (some ((encDc false encT D.bl) v9)) none none (some ((encDc false encT D.bl) v18)) none none none)) (pv_d (pv_bi (pos_cons (PV.o (pv_bi (pos_cons (PV.o ((evV_lcif (f := encT) (v18.map (·.1)) encT (pi_seq (pv_v rfl rfl) (it_d _)) (free_c (x := none) rfl nj_none free_n) rfl (fun a27 => ⟨(R_Grammar___init (some (.ins true 0 [0, 1, 2] [encT start0, (encS (enc2 encT (encS encT))) rules0, (encS encT) x26])) (some (encT start0)) (some ((encS (enc2 encT (encS encT))) rules0)) none (some ((encDc false encT D.bl) v9)) none none (some ((encDc false encT D.bl) v18)) none none (some (encT a27))), rfl, rfl, (evO_bind fun v28 h29 => (evO (PV.o (pv_call (pl_cons (d' := encT a27) (pv_v rfl rfl) rfl pl_nil) ((ok_is_letter (n + 2) a27).get h29))) rfl)), encT, fun _ => ⟨rfl, rfl⟩, (evV (pv_v rfl rfl) rfl)⟩)).q h31)) pos_nil) (bi_sorted_l h32))) pos_nil) (bi_tuple_l _)) (congrArg (encS encT) e_x33.symm)) rfl (by rw [phi_fl]; rfl) rfl rfl rfl <|
  J_nil ⟨_, rfl, rfl⟩))))))))

abbrev R_is_count (x0 : Option D) : Rho := [x0]
def F_is_count (value0 : FD) : M Bool :=
  M.ofO (isTy (encF value0) .int) fun v1 =>
  M.ofO (if v1 then (isTy (encF value0) .bool).bind fun v3 => (if (!v3) then (oB (opD .ge (encF value0) (D.int (0 : Int)))).bind fun v5 => some v5 else some false).bind fun v7 => some v7 else some false) fun v9 =>
  .ok v9
theorem ok_is_count (n : Nat) (value0 : FD) : JF ((prg.phi (n + 1)).fn 4 [encF value0]) (F_is_count value0) D.bl := by
  refine JF_fn (fi := ⟨1, 1, bd4⟩) rfl rfl (JF_run (r := (R_is_count (some (encF value0)))) rfl ?_)
  unfold F_is_count
  exact (
  J_ho fun v1 h2 =>
  J_ho fun v9 h10 =>
  J_ret ((evV_and (PV.o (pv_isi (po_b rfl) h2)) (fun _ => (evV_bind fun v3 h4 => (evV_bind fun v7 h8 => (evV ((evV_and (PV.o (pv_not (PV.o (pv_isi (po_b rfl) h4)))) (fun _ => (evV_bind fun v5 h6 => (evV (pv_op (po_b rfl) (PV.o (pv_c _)) (oB_q h6)) rfl)))).q h8) rfl))))).q h10) (.inl rfl))

abbrev R_is_prices (x0 x1 x2 : Option D) : Rho := [x0, x1, x2]
def F_is_prices (grammar0 : Gram) (value0 : (List Int)) : M Bool :=
  M.ofO (isTy ((encS D.int) value0) .tuple) fun v1 =>
  M.ofO (if v1 then (if (decide ((value0.length : Int) = (grammar0.rules.length : Int))) then (gO (value0.length ≤ sizeLine) (lcO (fun _ => some true) (fun (a3 : Int) => ((F_is_count (⟨D.int a3, rfl⟩ : FD)).get).bind fun v4 => some v4) value0)).bind fun v6 => some (v6.all id) else some false).bind fun v8 => some v8 else some false) fun v10 =>
  .ok v10
theorem ok_is_prices (n : Nat) (grammar0 : Gram) (value0 : (List Int)) : JF ((prg.phi (n + 2)).fn 5 [(encGram false) grammar0, (encS D.int) value0]) (F_is_prices grammar0 value0) D.bl := by
  refine JF_fn (fi := ⟨2, 3, bd5⟩) rfl rfl (JF_run (r := (R_is_prices (some ((encGram false) grammar0)) (some ((encS D.int) value0)) none)) rfl ?_)
  unfold F_is_prices
  exact (
  J_ho fun v1 h2 =>
  J_ho fun v10 h11 =>
  J_ret ((evV_and (PV.o (pv_isi (po_b rfl) h2)) (fun _ => (evV_bind fun v8 h9 => (evV ((evV_and (PV.o (pv_op (PV.o (pv_bi (pos_cons (po_b rfl) pos_nil) (bi_len_s _))) (PV.o (pv_bi (pos_cons (PV.o (pv_fld (po_b rfl) rfl)) pos_nil) (bi_len_s _))) (op_eq (PlT.int (k := 0)) (by decide) _ _))) (fun _ => (evV_bind fun v6 h7 => (evV (pv_bi (pos_cons (PV.o ((evV_lc (f := D.bl) value0 D.int (pi_seq (pv_v rfl rfl) (it_s _)) (free_c (x := none) rfl nj_none free_n) rfl (fun a3 => ⟨(R_is_prices (some ((encGram false) grammar0)) (some ((encS D.int) value0)) (some (D.int a3))), rfl, rfl, D.bl, fun _ => ⟨rfl, rfl⟩, (evV_bind fun v4 h5 => (evV (pv_call (pl_cons (d' := encF (⟨D.int a3, rfl⟩ : FD)) (pv_v rfl rfl) rfl pl_nil) ((ok_is_count (n + 0) (⟨D.int a3, rfl⟩ : FD)).get h5)) rfl))⟩)).q h7)) pos_nil) (tb_all _)) rfl)))).q h9) rfl)))).q h11) (.inl rfl))

abbrev R_check_prices (x0 x1 : Option D) : Rho := [x0, x1]
def F_check_prices (grammar0 : Gram) (value0 : (List Int)) : M Unit :=
  M.ofO ((F_is_prices grammar0 value0).get) fun v1 =>
  (if (!v1) then (.er 2) else (.ok ()))
theorem ok_check_prices (n : Nat) (grammar0 : Gram) (value0 : (List Int)) : JF ((prg.phi (n + 3)).fn 6 [(encGram false) grammar0, (encS D.int) value0]) (F_check_prices grammar0 value0) encU := by
  refine JF_fn (fi := ⟨2, 2, bd6⟩) rfl rfl (JF_run (r := (R_check_prices (some ((encGram false) grammar0)) (some ((encS D.int) value0)))) rfl ?_)
  unfold F_check_prices
  exact (
  J_ho fun v1 h2 =>
  J_ifX (PV.o (pv_not (PV.o (pv_call (pl_cons (d' := (encGram false) grammar0) (pv_v rfl rfl) rfl (pl_cons (d' := (encS D.int) value0) (pv_v rfl rfl) rfl pl_nil)) ((ok_is_prices (n + 0) grammar0 value0).get h2))))) (fun _ =>
  J_raise trivial)
  (fun _ =>
  J_on <|
  J_nil (.inr ⟨⟨_, rfl⟩, rfl⟩)))

abbrev R_names_in (x0 x1 : Option D) : Rho := [x0, x1]
def F_names_in (body0 : (List Tx)) : M (List Tx) :=
  M.ofO (gO (body0.length ≤ sizeLine) (lcO (fun (a1 : Tx) => ((F_is_letter a1).get).bind fun v2 => some (!v2)) (fun (a1 : Tx) => some a1) body0)) fun v4 =>
  .ok v4
theorem ok_names_in (n : Nat) (body0 : (List Tx)) : JF ((prg.phi (n + 2)).fn 7 [(encS encT) body0]) (F_names_in body0) (encL true encT) := by
  refine JF_fn (fi := ⟨1, 2, bd7⟩) rfl rfl (JF_run (r := (R_names_in (some ((encS encT) body0)) none)) rfl ?_)
  unfold F_names_in
  exact (
  J_ho fun v4 h5 =>
  J_ret ((evV_lcif (f := encT) body0 encT (pi_seq (pv_v rfl rfl) (it_s _)) (free_c (x := none) rfl nj_none free_n) rfl (fun a1 => ⟨(R_names_in (some ((encS encT) body0)) (some (encT a1))), rfl, rfl, (evO_bind fun v2 h3 => (evO (PV.o (pv_not (PV.o (pv_call (pl_cons (d' := encT a1) (pv_v rfl rfl) rfl pl_nil) ((ok_is_letter (n + 0) a1).get h3))))) rfl)), encT, fun _ => ⟨rfl, rfl⟩, (evV (pv_v rfl rfl) rfl)⟩)).q h5) (.inl rfl))

abbrev R_are_numbers (x0 x1 x2 : Option D) : Rho := [x0, x1, x2]
def F_are_numbers (grammar0 : Gram) (value0 : FD) : M Bool :=
  M.ofO (isTy (encF value0) .tuple) fun v1 =>
  M.ofO (if (!v1) then some true else (oL (itemsD (encF value0))).bind fun v3 => (gO (v3.length ≤ sizeLine) (lcO (fun _ => some true) (fun (a5 : FD) => ((F_is_count a5).get).bind fun v6 => (if v6 then (oB (opD .lt (encF a5) (D.int (grammar0.rules.length : Int)))).bind fun v8 => some v8 else some false).bind fun v10 => some v10) v3)).bind fun v12 => some (!(v12.all id))) fun v14 =>
  (if v14 then (.ok false) else (M.ofO (oL (itemsD (encF value0))) fun v16 =>
  M.ofO (dcO (fun _ => some true) (fun (a18 : FD) => (oI (some (encF a18))).bind fun v19 => (atT grammar0.rules v19).bind fun v21 => some v21.1) (fun (a18 : FD) => some true) v16 []) fun v23 =>
  M.ofO (oI (biD .len [(encF value0)])) fun v25 =>
  .ok (decide ((v23.length : Int) = v25))))
theorem ok_are_numbers (n : Nat) (grammar0 : Gram) (value0 : FD) : JF ((prg.phi (n + 2)).fn 8 [(encGram false) grammar0, encF value0]) (F_are_numbers grammar0 value0) D.bl := by
  refine JF_fn (fi := ⟨2, 3, bd8⟩) rfl rfl (JF_run (r := (R_are_numbers (some ((encGram false) grammar0)) (some (encF value0)) none)) rfl ?_)
  unfold F_are_numbers
  exact (
  J_ho fun v1 h2 =>
  J_ho fun v14 h15 =>
  J_ifX ((evO_or (PV.o (pv_not (PV.o (pv_isi (po_b rfl) h2)))) (fun _ => (evO_bind fun v3 h4 => (evO_bind fun v12 h13 => (evO (PV.o (pv_not (PV.o (pv_bi (pos_cons (PV.o ((evV_lc (f := D.bl) v3 encF (pi_seq (pv_v rfl (own_F _)) (oL_q h4)) (free_c (x := none) rfl nj_none free_n) rfl (fun a5 => ⟨(R_are_numbers (some ((encGram false) grammar0)) (some (encF value0)) (some (encF a5))), rfl, rfl, D.bl, fun _ => ⟨rfl, rfl⟩, (evV_bind fun v6 h7 => (evV_bind fun v10 h11 => (evV ((evV_and (PV.o (pv_call (pl_cons (d' := encF a5) (pv_v rfl (own_F _)) (frz_F _) pl_nil) ((ok_is_count (n + 0) a5).get h7))) (fun _ => (evV_bind fun v8 h9 => (evV (pv_op (po_b rfl) (PV.o (pv_bi (pos_cons (PV.o (pv_fld (po_b rfl) rfl)) pos_nil) (bi_len_s _))) (oB_q h9)) rfl)))).q h11) rfl)))⟩)).q h13)) pos_nil) (tb_all _))))) rfl))))).q h15) (fun _ =>
  J_ret (pv_c _) (.inl rfl))
  (fun _ =>
  J_on <|
  J_ho fun v16 h17 =>
  J_ho fun v23 h24 =>
  J_ho fun v25 h26 =>
  J_ret (pv_op (PV.o (pv_bi (pos_cons (PV.o ((evV_dc (ek := encT) (ev := D.bl) KeyT.str (tk := (fun (a18 : FD) => (oI (some (encF a18))).bind fun v19 => (atT grammar0.rules v19).bind fun v21 => some v21.1)) (tv := (fun (a18 : FD) => some true)) v16 encF (pi_seq (pv_v rfl (own_F _)) (oL_q h17)) (free_c (x := none) rfl nj_none free_n) rfl (fun a18 => ⟨(R_are_numbers (some ((encGram false) grammar0)) (some (encF value0)) (some (encF a18))), rfl, rfl, (evO_bind fun v19 h20 => (evO_bind fun v21 h22 => (evO (PV.o (pv_ix (PV.o (pv_ix (PV.o (pv_fld (po_b rfl) rfl)) (po_d (po_b rfl) (some_i (oI_q h20))) (ix_s h22))) (PV.o (pv_c _)) rfl)) rfl))), D.bl, fun _ => ⟨rfl, rfl⟩, (evV (pv_c _) rfl)⟩)).q h24)) pos_nil) (bi_len_d _))) (PV.o (pv_bi (pos_cons (po_b rfl) pos_nil) (oI_q h26))) (op_eq (PlT.int (k := 0)) (by decide) _ _)) (.inl rfl)))

abbrev R_plan_fault (x0 x1 x2 x3 x4 x5 x6 x7 : Option D) : Rho := [x0, x1, x2, x3, x4, x5, x6, x7]
def F_plan_fault (grammar0 : Gram) (plan0 : FD) : M FD :=
  M.ofO ((F_are_numbers grammar0 plan0).get) fun v1 =>
  (if (!v1) then (.ok (⟨encT (("form").toList), rfl⟩ : FD)) else (let_ (([] : (List (Tx × Bool)))) fun ahead3 =>
  M.ofO (oT (some (encF plan0))) fun v4 =>
  (loop (ρ := FD) (fun (a6 : (Int × FD)) (s6 : (List (Tx × Bool))) =>
  M.ofO (oI (some (encF a6.2))) fun v7 =>
  M.ofO (atT grammar0.rules v7) fun v9 =>
  M.ofO ((F_names_in v9.2).get) fun v11 =>
  M.ofO (gO (v11.length ≤ sizeLine) (lcO (fun _ => some true) (fun (a13 : Tx) => some ((dget s6 a13).isSome)) v11)) fun v14 =>
  (if (!(v14.all id)) then (.ok (.rt (⟨D.int a6.1, rfl⟩ : FD))) else (gd (s6.length < sizeLine) <|
  let_ (dput s6 v9.1 true) fun ahead17 =>
  .ok (.nx ahead17)))) (enumT v4 0) ahead3).bind fun
  | .rt v18 => .ok v18
  | .nx s6 =>
  .ok (⟨encU (), rfl⟩ : FD)))
theorem ok_plan_fault (n : Nat) (grammar0 : Gram) (plan0 : FD) : JF ((prg.phi (n + 3)).fn 9 [(encGram false) grammar0, encF plan0]) (F_plan_fault grammar0 plan0) encF := by
  refine JF_fn (fi := ⟨2, 8, bd9⟩) rfl rfl (JF_run (r := (R_plan_fault (some ((encGram false) grammar0)) (some (encF plan0)) none none none none none none)) rfl ?_)
  unfold F_plan_fault
  exact (
  J_ho fun v1 h2 =>
  J_ifX (PV.o (pv_not (PV.o (pv_call (pl_cons (d' := (encGram false) grammar0) (pv_v rfl rfl) rfl (pl_cons (d' := encF plan0) (pv_v rfl (own_F _)) (frz_F _) pl_nil)) ((ok_are_numbers (n + 0) grammar0 plan0).get h2))))) (fun _ =>
  J_ret (pv_cc (str_lit _)) (.inl rfl))
  (fun _ =>
  J_on <|
  J_asgL (f := (encDc true encT D.bl)) (f' := (encDc true encT D.bl)) (pv_d (d' := (encDc true encT D.bl) ([] : (List (Tx × Bool)))) pv_dnew rfl) (fun _ => rfl) fun ahead3 => ⟨(R_plan_fault (some ((encGram false) grammar0)) (some (encF plan0)) (some ((encDc true encT D.bl) ahead3)) none none none none none), rfl,
  J_ho fun v4 h5 =>
  J_forO (g := (enc2 D.int encF)) (E := (fun (s6 : (List (Tx × Bool))) r => ∃ j3_6 : Option D, ∃ j4_6 : Option D, ∃ j5_6 : Option D, ∃ j6_6 : Option D, r = (R_plan_fault (some ((encGram false) grammar0)) (some (encF plan0)) (some ((encDc true encT D.bl) s6)) j3_6 j4_6 j5_6 j6_6 none))) (f := encF) (enumT v4 0) ahead3 (pi_enum (pl_cons (d' := (encS encF) v4) (pv_d (pv_v rfl (own_F _)) (some_i (oT_q h5))) rfl pl_nil) (enumK_s _)) ⟨none, none, none, none, rfl⟩ (fun a6 s6 r hr => (by obtain ⟨j3_6, j4_6, j5_6, j6_6, rfl⟩ := hr; exact (
  ⟨(R_plan_fault (some ((encGram false) grammar0)) (some (encF plan0)) (some ((encDc true encT D.bl) s6)) (some (D.int a6.1)) (some (encF a6.2)) j5_6 j6_6 none), rfl,
  J_ho fun v7 h8 =>
  J_ho fun v9 h10 =>
  J_asg (d' := (enc2 encT (encS encT)) v9) (r2 := (R_plan_fault (some ((encGram false) grammar0)) (some (encF plan0)) (some ((encDc true encT D.bl) s6)) (some (D.int a6.1)) (some (encF a6.2)) (some (encT v9.1)) (some ((encS encT) v9.2)) none)) (pv_ix (PV.o (pv_fld (po_b rfl) rfl)) (po_d (po_b rfl) (some_i (oI_q h8))) (ix_s h10)) rfl rfl <|
  J_ho fun v11 h12 =>
  J_ho fun v14 h15 =>
  J_ifX (PV.o (pv_not (PV.o (pv_bi (pos_cons (PV.o ((evV_lc (f := D.bl) v11 encT (pi_seq (pv_call (pl_cons (d' := (encS encT) v9.2) (pv_v rfl rfl) rfl pl_nil) ((ok_names_in (n + 0) v9.2).get h12)) (it_l _)) (free_c (x := none) rfl nj_none free_n) rfl (fun a13 => ⟨(R_plan_fault (some ((encGram false) grammar0)) (some (encF plan0)) (some ((encDc true encT D.bl) s6)) (some (D.int a6.1)) (some (encF a6.2)) (some (encT v9.1)) (some ((encS encT) v9.2)) (some (encT a13))), rfl, rfl, D.bl, fun _ => ⟨rfl, rfl⟩, (evV (pv_op (po_b rfl) (po_b rfl) (op_in_d KeyT.str _ _)) rfl)⟩)).q h15)) pos_nil) (tb_all _))))) (fun _ =>
  J_ret (pv_mv rfl) pO_rt)
  (fun _ =>
  J_on <|
  J_gd fun h16 =>
  J_putL (f := (encDc true encT D.bl)) (pv_c _) rfl (po_b rfl) rfl rfl (put_d KeyT.str h16) fun ahead17 =>
  J_r (r2 := (R_plan_fault (some ((encGram false) grammar0)) (some (encF plan0)) (some ((encDc true encT D.bl) ahead17)) (some (D.int a6.1)) (some (encF a6.2)) (some (encT v9.1)) (some ((encS encT) v9.2)) none)) rfl <|
  J_nil ⟨_, rfl, (some (D.int a6.1)), (some (encF a6.2)), (some (encT v9.1)), (some ((encS encT) v9.2)), rfl⟩)⟩)))
  (fun s6 r hr => (by obtain ⟨j3_6, j4_6, j5_6, j6_6, rfl⟩ := hr; exact (
  J_ret (pv_cc rfl) (.inl rfl))))
  (fun _ => J_rtF)⟩))

abbrev R_plan_costs (x0 x1 x2 x3 x4 x5 x6 x7 : Option D) : Rho := [x0, x1, x2, x3, x4, x5, x6, x7]
def F_plan_costs (grammar0 : Gram) (prices0 : (List Int)) (plan0 : FD) : M (List (Tx × Int)) :=
  (F_check_prices grammar0 prices0).bind fun _ =>
  M.ofO ((F_plan_fault grammar0 plan0).get) fun v1 =>
  M.ofO (oB (opD .isnot (encF v1) (encU ()))) fun v3 =>
  (if v3 then (.er 3) else (let_ (([] : (List (Tx × Int)))) fun costs5 =>
  M.ofO (oL (itemsD (encF plan0))) fun v6 =>
  (fold (fun (a8 : FD) (s8 : (List (Tx × Int))) =>
  M.ofO (oI (some (encF a8))) fun v9 =>
  M.ofO (atT grammar0.rules v9) fun v11 =>
  M.ofO (oI (some (encF a8))) fun v13 =>
  M.ofO (atT prices0 v13) fun v15 =>
  M.ofO ((F_names_in v11.2).get) fun v17 =>
  M.ofO (gO (v17.length ≤ sizeLine) (lcO (fun _ => some true) (fun (a19 : Tx) => (dget s8 a19).bind fun v20 => some v20) v17)) fun v22 =>
  gd (s8.length < sizeLine) <|
  let_ (dput s8 v11.1 (v15 + v22.sum)) fun costs25 =>
  .ok costs25) v6 costs5).bind fun s8 =>
  gd (sortOk (s8.map (enc2 encT D.int)) = true) <|
  .ok (srtT (enc2 encT D.int) s8)))
theorem ok_plan_costs (n : Nat) (grammar0 : Gram) (prices0 : (List Int)) (plan0 : FD) : JF ((prg.phi (n + 4)).fn 10 [(encGram false) grammar0, (encS D.int) prices0, encF plan0]) (F_plan_costs grammar0 prices0 plan0) (encS (enc2 encT D.int)) := by
  refine JF_fn (fi := ⟨3, 8, bd10⟩) rfl rfl (JF_run (r := (R_plan_costs (some ((encGram false) grammar0)) (some ((encS D.int) prices0)) (some (encF plan0)) none none none none none)) rfl ?_)
  unfold F_plan_costs
  exact (
  J_exX (evX_fn (pl_cons (d' := (encGram false) grammar0) (pv_v rfl rfl) rfl (pl_cons (d' := (encS D.int) prices0) (pv_v rfl rfl) rfl pl_nil)) (ok_check_prices (n + 0) grammar0 prices0)) trivial fun _ _ =>
  J_ho fun v1 h2 =>
  J_ho fun v3 h4 =>
  J_ifX (PV.o (pv_op (PV.o (pv_call (pl_cons (d' := (encGram false) grammar0) (pv_v rfl rfl) rfl (pl_cons (d' := encF plan0) (pv_v rfl (own_F _)) (frz_F _) pl_nil)) ((ok_plan_fault (n + 0) grammar0 plan0).get h2))) (PV.o (pv_cc rfl)) (oB_q h4))) (fun _ =>
  J_raise trivial)
  (fun _ =>
  J_on <|
  J_asgL (f := (encDc true encT D.int)) (f' := (encDc true encT D.int)) (pv_d (d' := (encDc true encT D.int) ([] : (List (Tx × Int)))) pv_dnew rfl) (fun _ => rfl) fun costs5 => ⟨(R_plan_costs (some ((encGram false) grammar0)) (some ((encS D.int) prices0)) (some (encF plan0)) (some ((encDc true encT D.int) costs5)) none none none none), rfl,
  J_ho fun v6 h7 =>
  J_for (g := encF) (E := (fun (s8 : (List (Tx × Int))) r => ∃ j4_8 : Option D, ∃ j5_8 : Option D, ∃ j6_8 : Option D, r = (R_plan_costs (some ((encGram false) grammar0)) (some ((encS D.int) prices0)) (some (encF plan0)) (some ((encDc true encT D.int) s8)) j4_8 j5_8 j6_8 none))) v6 costs5 (pi_seq (pv_v rfl (own_F _)) (oL_q h7)) ⟨none, none, none, rfl⟩ (fun a8 s8 r hr => (by obtain ⟨j4_8, j5_8, j6_8, rfl⟩ := hr; exact (
  ⟨(R_plan_costs (some ((encGram false) grammar0)) (some ((encS D.int) prices0)) (some (encF plan0)) (some ((encDc true encT D.int) s8)) (some (encF a8)) j5_8 j6_8 none), rfl,
  J_ho fun v9 h10 =>
  J_ho fun v11 h12 =>
  J_asg (d' := (enc2 encT (encS encT)) v11) (r2 := (R_plan_costs (some ((encGram false) grammar0)) (some ((encS D.int) prices0)) (some (encF plan0)) (some ((encDc true encT D.int) s8)) (some (encF a8)) (some (encT v11.1)) (some ((encS encT) v11.2)) none)) (pv_ix (PV.o (pv_fld (po_b rfl) rfl)) (po_d (po_b rfl) (some_i (oI_q h10))) (ix_s h12)) rfl rfl <|
  J_ho fun v13 h14 =>
  J_ho fun v15 h16 =>
  J_ho fun v17 h18 =>
  J_ho fun v22 h23 =>
  J_gd fun h24 =>
  J_putL (f := (encDc true encT D.int)) (pv_op (PV.o (pv_ix (po_b rfl) (po_d (po_b rfl) (some_i (oI_q h14))) (ix_s h16))) (PV.o (pv_bi (pos_cons (PV.o ((evV_lc (f := D.int) v17 encT (pi_seq (pv_call (pl_cons (d' := (encS encT) v11.2) (pv_v rfl rfl) rfl pl_nil) ((ok_names_in (n + 1) v11.2).get h18)) (it_l _)) (free_c (x := none) rfl nj_none free_n) rfl (fun a19 => ⟨(R_plan_costs (some ((encGram false) grammar0)) (some ((encS D.int) prices0)) (some (encF plan0)) (some ((encDc true encT D.int) s8)) (some (encF a8)) (some (encT v11.1)) (some ((encS encT) v11.2)) (some (encT a19))), rfl, rfl, D.int, fun _ => ⟨rfl, rfl⟩, (evV_bind fun v20 h21 => (evV (pv_ix (po_b rfl) (po_b rfl) (ix_d KeyT.str h21)) rfl))⟩)).q h23)) pos_nil) (tb_sum _))) (op_add _ _)) rfl (po_b rfl) rfl rfl (put_d KeyT.str h24) fun costs25 =>
  J_r (r2 := (R_plan_costs (some ((encGram false) grammar0)) (some ((encS D.int) prices0)) (some (encF plan0)) (some ((encDc true encT D.int) costs25)) (some (encF a8)) (some (encT v11.1)) (some ((encS encT) v11.2)) none)) rfl <|
  J_nil ⟨_, rfl, (some (encF a8)), (some (encT v11.1)), (some ((encS encT) v11.2)), rfl⟩⟩)))
  (fun s8 r hr => (by obtain ⟨j4_8, j5_8, j6_8, rfl⟩ := hr; exact (
  J_ex (d := (encDc false encT D.int) s8) (r1 := (R_plan_costs (some ((encGram false) grammar0)) (some ((encS D.int) prices0)) (some (encF plan0)) (some ((encDc false encT D.int) s8)) j4_8 j5_8 j6_8 none)) (pv_vo rfl rfl rfl) <|
  J_gd fun h26 =>
  J_ret (pv_bi (pos_cons (PV.o (pv_un (po_b rfl) (un_sitems h26))) pos_nil) (bi_tuple_l _)) (.inl rfl))))⟩))

abbrev R_least_plan (x0 x1 x2 x3 x4 x5 x6 x7 x8 x9 x10 : Option D) : Rho := [x0, x1, x2, x3, x4, x5, x6, x7, x8, x9, x10]
def F_least_plan (grammar0 : Gram) (prices0 : (List Int)) : M (List (Tx × (Int × Int))) :=
  let_ (([] : (List (Tx × (Int × Int))))) fun found1 =>
  (whileM (ρ := (List (Tx × (Int × Int)))) (fun s => M.ofO ((fun (s2 : (List (Tx × (Int × Int))) × Bool) => some s2.2) s) .ok) (fun (s2 : (List (Tx × (Int × Int))) × Bool) =>
  let_ (([] : List (Int × Int))) fun ways3 =>
  (fold (fun (a4 : (Int × (Tx × (List Tx)))) (s4 : (List (Int × Int))) =>
  (F_names_in a4.2.2).bind fun names5 =>
  M.ofO (if (!((dget s2.1 a4.2.1).isSome)) then (gO (names5.length ≤ sizeLine) (lcO (fun _ => some true) (fun (a6 : Tx) => some ((dget s2.1 a6).isSome)) names5)).bind fun v7 => some (v7.all id) else some false) fun v9 =>
  (if v9 then (M.ofO (atT prices0 a4.1) fun v11 =>
  M.ofO (gO (names5.length ≤ sizeLine) (lcO (fun _ => some true) (fun (a13 : Tx) => (dget s2.1 a13).bind fun v14 => some v14.2) names5)) fun v16 =>
  gd (s4.length < sizeLine) <|
  let_ (s4 ++ [((v11 + v16.sum), a4.1)]) fun ways19 =>
  .ok ways19) else (.ok s4)).bind fun s20 =>
  .ok s20) (enumT grammar0.rules 0) ways3).bind fun s4 =>
  let_ ((decide ((0 : Int) < (s4.length : Int)))) fun is_new21 =>
  (if is_new21 then (gd (sortOk (s4.map (enc2 D.int D.int)) = true) <|
  M.ofO (minT (enc2 D.int D.int) s4) fun v23 =>
  M.ofO (atT grammar0.rules v23.2) fun v25 =>
  gd (s2.1.length < sizeLine) <|
  let_ (dput s2.1 v25.1 (v23.2, v23.1)) fun found28 =>
  .ok found28) else (.ok s2.1)).bind fun s29 =>
  .ok (.nx (s29, is_new21))) prg.fuel (found1, true)).bind fun
  | .rt v32 => .ok v32
  | .nx s2 =>
  .ok s2.1
theorem ok_least_plan (n : Nat) (grammar0 : Gram) (prices0 : (List Int)) : JF ((prg.phi (n + 3)).fn 11 [(encGram false) grammar0, (encS D.int) prices0]) (F_least_plan grammar0 prices0) (encDc true encT (enc2 D.int D.int)) := by
  refine JF_fn (fi := ⟨2, 11, bd11⟩) rfl rfl (JF_run (r := (R_least_plan (some ((encGram false) grammar0)) (some ((encS D.int) prices0)) none none none none none none none none none)) rfl ?_)
  unfold F_least_plan
  exact (
  J_asgL (f := (encDc true encT (enc2 D.int D.int))) (f' := (encDc true encT (enc2 D.int D.int))) (pv_d (d' := (encDc true encT (enc2 D.int D.int)) ([] : (List (Tx × (Int × Int))))) pv_dnew rfl) (fun _ => rfl) fun found1 => ⟨(R_least_plan (some ((encGram false) grammar0)) (some ((encS D.int) prices0)) (some ((encDc true encT (enc2 D.int D.int)) found1)) none none none none none none none none), rfl,
  J_asg (d' := D.bl true) (r2 := (R_least_plan (some ((encGram false) grammar0)) (some ((encS D.int) prices0)) (some ((encDc true encT (enc2 D.int D.int)) found1)) (some (D.bl true)) none none none none none none none)) (pv_c _) rfl rfl <|
  J_whlO (tc := (fun (s2 : (List (Tx × (Int × Int))) × Bool) => some s2.2)) (E := (fun (s2 : (List (Tx × (Int × Int))) × Bool) r => ∃ j4_2 : Option D, ∃ j5_2 : Option D, ∃ j6_2 : Option D, ∃ j7_2 : Option D, ∃ j8_2 : Option D, ∃ j10_2 : Option D, r = (R_least_plan (some ((encGram false) grammar0)) (some ((encS D.int) prices0)) (some ((encDc true encT (enc2 D.int D.int)) s2.1)) (some (D.bl s2.2)) j4_2 j5_2 j6_2 j7_2 j8_2 none j10_2))) (f := (encDc true encT (enc2 D.int D.int))) (found1, true) ⟨none, none, none, none, none, none, rfl⟩ (fun s2 r hr => (by obtain ⟨j4_2, j5_2, j6_2, j7_2, j8_2, j10_2, rfl⟩ := hr; exact (
  (evO (po_b rfl) rfl))))
  (fun s2 r hr => (by obtain ⟨j4_2, j5_2, j6_2, j7_2, j8_2, j10_2, rfl⟩ := hr; exact (
  J_asgL (f := (encL true (enc2 D.int D.int))) (f' := (encL true (enc2 D.int D.int))) (pv_d (d' := (encL true (enc2 D.int D.int)) ([] : List (Int × Int))) (pv_lst pl_nil (len_le (n := 0) rfl (by decide))) rfl) (fun _ => rfl) fun ways3 => ⟨(R_least_plan (some ((encGram false) grammar0)) (some ((encS D.int) prices0)) (some ((encDc true encT (enc2 D.int D.int)) s2.1)) (some (D.bl s2.2)) (some ((encL true (enc2 D.int D.int)) ways3)) j5_2 j6_2 j7_2 j8_2 none j10_2), rfl,
  J_for (g := (enc2 D.int (enc2 encT (encS encT)))) (E := (fun (s4 : (List (Int × Int))) r => ∃ j5_4 : Option D, ∃ j6_4 : Option D, ∃ j7_4 : Option D, ∃ j8_4 : Option D, r = (R_least_plan (some ((encGram false) grammar0)) (some ((encS D.int) prices0)) (some ((encDc true encT (enc2 D.int D.int)) s2.1)) (some (D.bl s2.2)) (some ((encL true (enc2 D.int D.int)) s4)) j5_4 j6_4 j7_4 j8_4 none j10_2))) (enumT grammar0.rules 0) ways3 (pi_enum (pl_cons (d' := (encS (enc2 encT (encS encT))) grammar0.rules) (pv_fld (po_b rfl) rfl) rfl pl_nil) (enumK_s _)) ⟨j5_2, j6_2, j7_2, j8_2, rfl⟩ (fun a4 s4 r hr => (by obtain ⟨j5_4, j6_4, j7_4, j8_4, rfl⟩ := hr; exact (
  ⟨(R_least_plan (some ((encGram false) grammar0)) (some ((encS D.int) prices0)) (some ((encDc true encT (enc2 D.int D.int)) s2.1)) (some (D.bl s2.2)) (some ((encL true (enc2 D.int D.int)) s4)) (some (D.int a4.1)) (some (encT a4.2.1)) (some ((encS encT) a4.2.2)) j8_4 none j10_2), rfl,
  J_asgX (f' := (encL false encT)) (evX_fn (pl_cons (d' := (encS encT) a4.2.2) (pv_v rfl rfl) rfl pl_nil) (ok_names_in (n + 0) a4.2.2)) trivial (fun _ => rfl) fun names5 _ => ⟨(R_least_plan (some ((encGram false) grammar0)) (some ((encS D.int) prices0)) (some ((encDc true encT (enc2 D.int D.int)) s2.1)) (some (D.bl s2.2)) (some ((encL true (enc2 D.int D.int)) s4)) (some (D.int a4.1)) (some (encT a4.2.1)) (some ((encS encT) a4.2.2)) (some ((encL false encT) names5)) none j10_2), rfl,
  J_ho fun v9 h10 =>
  J_ifN (E := (fun (s20 : (List (Int × Int))) r => r = (R_least_plan (some ((encGram false) grammar0)) (some ((encS D.int) prices0)) (some ((encDc true encT (enc2 D.int D.int)) s2.1)) (some (D.bl s2.2)) (some ((encL true (enc2 D.int D.int)) s20)) (some (D.int a4.1)) (some (encT a4.2.1)) (some ((encS encT) a4.2.2)) (some ((encL false encT) names5)) none j10_2))) ((evO_and (PV.o (pv_op (po_b rfl) (po_b rfl) (op_notin (op_in_d KeyT.str _ _)))) (fun _ => (evO_bind fun v7 h8 => (evO (PV.o (pv_bi (pos_cons (PV.o ((evV_lc (f := D.bl) names5 encT (pi_seq (pv_v rfl rfl) (it_l _)) (free_c (x := none) rfl nj_none free_n) rfl (fun a6 => ⟨(R_least_plan (some ((encGram false) grammar0)) (some ((encS D.int) prices0)) (some ((encDc true encT (enc2 D.int D.int)) s2.1)) (some (D.bl s2.2)) (some ((encL true (enc2 D.int D.int)) s4)) (some (D.int a4.1)) (some (encT a4.2.1)) (some ((encS encT) a4.2.2)) (some ((encL false encT) names5)) (some (encT a6)) j10_2), rfl, rfl, D.bl, fun _ => ⟨rfl, rfl⟩, (evV (pv_op (po_b rfl) (po_b rfl) (op_in_d KeyT.str _ _)) rfl)⟩)).q h8)) pos_nil) (tb_all _))) rfl)))).q h10) (fun _ =>
  J_ho fun v11 h12 =>
  J_ho fun v16 h17 =>
  J_gd fun h18 =>
  J_appL (pv_d (d' := (enc2 D.int D.int) ((v11 + v16.sum), a4.1)) (pv_tup (pl_cons (d' := D.int (v11 + v16.sum)) (pv_op (PV.o (pv_ix (po_b rfl) (po_b rfl) (ix_s h12))) (PV.o (pv_bi (pos_cons (PV.o ((evV_lc (f := D.int) names5 encT (pi_seq (pv_v rfl rfl) (it_l _)) (free_c (x := none) rfl nj_none free_n) rfl (fun a13 => ⟨(R_least_plan (some ((encGram false) grammar0)) (some ((encS D.int) prices0)) (some ((encDc true encT (enc2 D.int D.int)) s2.1)) (some (D.bl s2.2)) (some ((encL true (enc2 D.int D.int)) s4)) (some (D.int a4.1)) (some (encT a4.2.1)) (some ((encS encT) a4.2.2)) (some ((encL false encT) names5)) (some (encT a13)) j10_2), rfl, rfl, D.int, fun _ => ⟨rfl, rfl⟩, (evV_bind fun v14 h15 => (evV (pv_ix (PV.o (pv_ix (po_b rfl) (po_b rfl) (ix_d KeyT.str h15))) (PV.o (pv_c _)) rfl) rfl))⟩)).q h17)) pos_nil) (tb_sum _))) (op_add _ _)) rfl (pl_cons (d' := D.int a4.1) (pv_v rfl rfl) rfl pl_nil)) (len_le (n := 2) rfl (by decide))) rfl) rfl rfl rfl h18 rfl fun ways19 =>
  J_r (r2 := (R_least_plan (some ((encGram false) grammar0)) (some ((encS D.int) prices0)) (some ((encDc true encT (enc2 D.int D.int)) s2.1)) (some (D.bl s2.2)) (some ((encL true (enc2 D.int D.int)) ways19)) (some (D.int a4.1)) (some (encT a4.2.1)) (some ((encS encT) a4.2.2)) (some ((encL false encT) names5)) none j10_2)) rfl <|
  J_nil ⟨_, rfl, rfl⟩)
  (fun _ =>
  J_nil ⟨_, rfl, rfl⟩)
  fun s20 r hr => (by subst hr; exact (
  J_nil ⟨_, rfl, (some (D.int a4.1)), (some (encT a4.2.1)), (some ((encS encT) a4.2.2)), (some ((encL false encT) names5)), rfl⟩))⟩⟩)))
  (fun s4 r hr => (by obtain ⟨j5_4, j6_4, j7_4, j8_4, rfl⟩ := hr; exact (
  J_ex (d := (encL false (enc2 D.int D.int)) s4) (r1 := (R_least_plan (some ((encGram false) grammar0)) (some ((encS D.int) prices0)) (some ((encDc true encT (enc2 D.int D.int)) s2.1)) (some (D.bl s2.2)) (some ((encL false (enc2 D.int D.int)) s4)) j5_4 j6_4 j7_4 j8_4 none j10_2)) (pv_vo rfl rfl rfl) <|
  J_asgL (f := D.bl) (f' := D.bl) (pv_op (PV.o (pv_bi (pos_cons (po_b rfl) pos_nil) (bi_len_l _))) (PV.o (pv_c _)) (op_gt _ _)) (fun _ => rfl) fun is_new21 => ⟨(R_least_plan (some ((encGram false) grammar0)) (some ((encS D.int) prices0)) (some ((encDc true encT (enc2 D.int D.int)) s2.1)) (some (D.bl is_new21)) (some ((encL false (enc2 D.int D.int)) s4)) j5_4 j6_4 j7_4 j8_4 none j10_2), rfl,
  J_ifN (E := (fun (s29 : (List (Tx × (Int × Int)))) r => ∃ j30 : Option D, ∃ j31 : Option D, r = (R_least_plan (some ((encGram false) grammar0)) (some ((encS D.int) prices0)) (some ((encDc true encT (enc2 D.int D.int)) s29)) (some (D.bl is_new21)) (some ((encL false (enc2 D.int D.int)) s4)) j30 j6_4 j7_4 j8_4 none j31))) (po_b rfl) (fun _ =>
  J_gd fun h22 =>
  J_ho fun v23 h24 =>
  J_asg (d' := (enc2 D.int D.int) v23) (r2 := (R_least_plan (some ((encGram false) grammar0)) (some ((encS D.int) prices0)) (some ((encDc true encT (enc2 D.int D.int)) s2.1)) (some (D.bl is_new21)) (some ((encL false (enc2 D.int D.int)) s4)) (some (D.int v23.2)) j6_4 j7_4 j8_4 none (some (D.int v23.1)))) (pv_bi (pos_cons (po_b rfl) pos_nil) (bi_min_l h22 h24)) rfl rfl <|
  J_ho fun v25 h26 =>
  J_gd fun h27 =>
  J_putL (f := (encDc true encT (enc2 D.int D.int))) (pv_d (d' := (enc2 D.int D.int) (v23.2, v23.1)) (pv_tup (pl_cons (d' := D.int v23.2) (pv_v rfl rfl) rfl (pl_cons (d' := D.int v23.1) (pv_v rfl rfl) rfl pl_nil)) (len_le (n := 2) rfl (by decide))) rfl) rfl (PV.o (pv_ix (PV.o (pv_ix (PV.o (pv_fld (po_b rfl) rfl)) (po_b rfl) (ix_s h26))) (PV.o (pv_c _)) rfl)) rfl rfl (put_d KeyT.str h27) fun found28 =>
  J_r (r2 := (R_least_plan (some ((encGram false) grammar0)) (some ((encS D.int) prices0)) (some ((encDc true encT (enc2 D.int D.int)) found28)) (some (D.bl is_new21)) (some ((encL false (enc2 D.int D.int)) s4)) (some (D.int v23.2)) j6_4 j7_4 j8_4 none (some (D.int v23.1)))) rfl <|
  J_nil ⟨_, rfl, (some (D.int v23.2)), (some (D.int v23.1)), rfl⟩)
  (fun _ =>
  J_nil ⟨_, rfl, j5_4, j10_2, rfl⟩)
  fun s29 r hr => (by obtain ⟨j30, j31, rfl⟩ := hr; exact (
  J_nil ⟨_, rfl, (some ((encL false (enc2 D.int D.int)) s4)), j30, j6_4, j7_4, j8_4, j31, rfl⟩))⟩)))⟩)))
  (fun s2 r hr => (by obtain ⟨j4_2, j5_2, j6_2, j7_2, j8_2, j10_2, rfl⟩ := hr; exact (
  J_ret (pv_mv rfl) (.inl rfl))))
  (fun _ => J_rtF)⟩)

abbrev R_cheapest (x0 x1 x2 x3 : Option D) : Rho := [x0, x1, x2, x3]
def F_cheapest (grammar0 : Gram) (prices0 : (List Int)) : M ((List Int) × (List (Tx × Int))) :=
  (F_check_prices grammar0 prices0).bind fun _ =>
  (F_least_plan grammar0 prices0).bind fun found1 =>
  M.ofO (gO ((found1.map (·.1)).length ≤ sizeLine) (lcO (fun _ => some true) (fun (a2 : Tx) => (dget found1 a2).bind fun v3 => some v3.1) (found1.map (·.1)))) fun v5 =>
  M.ofO (gO ((found1.map (·.1)).length ≤ sizeLine) (lcO (fun _ => some true) (fun (a7 : Tx) => (dget found1 a7).bind fun v8 => some (a7, v8.2)) (found1.map (·.1)))) fun v10 =>
  gd (sortOk (v10.map (enc2 encT D.int)) = true) <|
  .ok (v5, (srtT (enc2 encT D.int) v10))
theorem ok_cheapest (n : Nat) (grammar0 : Gram) (prices0 : (List Int)) : JF ((prg.phi (n + 4)).fn 12 [(encGram false) grammar0, (encS D.int) prices0]) (F_cheapest grammar0 prices0) (enc2 (encS D.int) (encS (enc2 encT D.int))) := by
  refine JF_fn (fi := ⟨2, 4, bd12⟩) rfl rfl (JF_run (r := (R_cheapest (some ((encGram false) grammar0)) (some ((encS D.int) prices0)) none none)) rfl ?_)
  unfold F_cheapest
  exact (
  J_exX (evX_fn (pl_cons (d' := (encGram false) grammar0) (pv_v rfl rfl) rfl (pl_cons (d' := (encS D.int) prices0) (pv_v rfl rfl) rfl pl_nil)) (ok_check_prices (n + 0) grammar0 prices0)) trivial fun _ _ =>
  J_asgX (f' := (encDc false encT (enc2 D.int D.int))) (evX_fn (pl_cons (d' := (encGram false) grammar0) (pv_v rfl rfl) rfl (pl_cons (d' := (encS D.int) prices0) (pv_v rfl rfl) rfl pl_nil)) (ok_least_plan (n + 0) grammar0 prices0)) trivial (fun _ => rfl) fun found1 _ => ⟨(R_cheapest (some ((encGram false) grammar0)) (some ((encS D.int) prices0)) (some ((encDc false encT (enc2 D.int D.int)) found1)) none), rfl,
  J_ho fun v5 h6 =>
  J_ho fun v10 h11 =>
  J_gd fun h12 =>
  J_ret (pv_d (d' := (enc2 (encS D.int) (encS (enc2 encT D.int))) (v5, (srtT (enc2 encT D.int) v10))) (pv_tup (pl_cons (d' := (encS D.int) v5) (pv_bi (pos_cons (PV.o ((evV_lc (f := D.int) (found1.map (·.1)) encT (pi_seq (pv_v rfl rfl) (it_d _)) (free_c (x := none) rfl nj_none free_n) rfl (fun a2 => ⟨(R_cheapest (some ((encGram false) grammar0)) (some ((encS D.int) prices0)) (some ((encDc false encT (enc2 D.int D.int)) found1)) (some (encT a2))), rfl, rfl, D.int, fun _ => ⟨rfl, rfl⟩, (evV_bind fun v3 h4 => (evV (pv_ix (PV.o (pv_ix (po_b rfl) (po_b rfl) (ix_d KeyT.str h4))) (PV.o (pv_c _)) rfl) rfl))⟩)).q h6)) pos_nil) (bi_tuple_l _)) rfl (pl_cons (d' := (encS (enc2 encT D.int)) (srtT (enc2 encT D.int) v10)) (pv_bi (pos_cons (PV.o (pv_bi (pos_cons (PV.o ((evV_lc (f := (enc2 encT D.int)) (found1.map (·.1)) encT (pi_seq (pv_v rfl rfl) (it_d _)) (free_c (x := none) rfl nj_none free_n) rfl (fun a7 => ⟨(R_cheapest (some ((encGram false) grammar0)) (some ((encS D.int) prices0)) (some ((encDc false encT (enc2 D.int D.int)) found1)) (some (encT a7))), rfl, rfl, (enc2 encT D.int), fun _ => ⟨rfl, rfl⟩, (evV_bind fun v8 h9 => (evV (pv_d (d' := (enc2 encT D.int) (a7, v8.2)) (pv_tup (pl_cons (d' := encT a7) (pv_v rfl rfl) rfl (pl_cons (d' := D.int v8.2) (pv_ix (PV.o (pv_ix (po_b rfl) (po_b rfl) (ix_d KeyT.str h9))) (PV.o (pv_c _)) rfl) rfl pl_nil)) (len_le (n := 2) rfl (by decide))) rfl) rfl))⟩)).q h11)) pos_nil) (bi_sorted_l h12))) pos_nil) (bi_tuple_l _)) rfl pl_nil)) (len_le (n := 2) rfl (by decide))) rfl) (.inl rfl)⟩)

abbrev R_law_draws (x0 x1 x2 x3 x4 x5 x6 : Option D) : Rho := [x0, x1, x2, x3, x4, x5, x6]
def F_law_draws (script0 : (List Int)) (many0 : Int) : M (List Int) :=
  let_ (([] : List Int)) fun draws1 =>
  let_ ((7 : Int)) fun seed2 =>
  (fold (fun (a3 : Int) (s3 : (List Int) × Int) =>
  let_ ((if a3 < 0 then -a3 else a3)) fun number4 =>
  let_ (((((s3.2 * (48271 : Int)) + number4) + (11 : Int)) % (2147483647 : Int))) fun seed5 =>
  (if (decide ((1000000000000000000 : Int) ≤ number4)) then ((fold (fun (a6 : Int) (s6 : (List Int) × Int) =>
  (if (decide ((0 : Int) < s6.2)) then (gd (s6.1.length < sizeLine) <|
  let_ (s6.1 ++ [(s6.2 % (1009 : Int))]) fun draws8 =>
  let_ ((s6.2 / (1009 : Int))) fun number9 =>
  .ok (draws8, number9)) else (.ok (s6.1, s6.2))).bind fun s10 =>
  .ok (s10.1, s10.2)) (rng (60 : Int)) (s3.1, number4)).bind fun s6 =>
  .ok (s6.1, s6.2)) else (gd (s3.1.length < sizeLine) <|
  let_ (s3.1 ++ [((((seed5 * (16807 : Int)) + (5 : Int)) / (3 : Int)) % (65521 : Int))]) fun draws12 =>
  .ok (draws12, number4))).bind fun s13 =>
  .ok (s13.1, seed5)) (cutT script0 none (some (63 : Int))) (draws1, seed2)).bind fun s3 =>
  gd (small62 many0 = true) <|
  (fold (fun (a16 : Int) (s16 : (List Int) × Int) =>
  (if (decide ((s16.1.length : Int) < many0)) then (let_ (((((s16.2 * (69621 : Int)) + a16) + (1 : Int)) % (2147483647 : Int))) fun seed17 =>
  gd (s16.1.length < sizeLine) <|
  let_ (s16.1 ++ [((seed17 / (7 : Int)) % (65521 : Int))]) fun draws19 =>
  .ok (draws19, seed17)) else (.ok (s16.1, s16.2))).bind fun s20 =>
  .ok (s20.1, s20.2)) (rng many0) (s3.1, s3.2)).bind fun s16 =>
  .ok (cutT s16.1 none (some many0))
theorem ok_law_draws (n : Nat) (script0 : (List Int)) (many0 : Int) : JF ((prg.phi (n + 1)).fn 13 [(encL false D.int) script0, D.int many0]) (F_law_draws script0 many0) (encL true D.int) := by
  refine JF_fn (fi := ⟨2, 7, bd13⟩) rfl rfl (JF_run (r := (R_law_draws (some ((encL false D.int) script0)) (some (D.int many0)) none none none none none)) rfl ?_)
  unfold F_law_draws
  exact (
  J_asgL (f := (encL true D.int)) (f' := (encL true D.int)) (pv_d (d' := (encL true D.int) ([] : List Int)) (pv_lst pl_nil (len_le (n := 0) rfl (by decide))) rfl) (fun _ => rfl) fun draws1 => ⟨(R_law_draws (some ((encL false D.int) script0)) (some (D.int many0)) (some ((encL true D.int) draws1)) none none none none), rfl,
  J_asgL (f := D.int) (f' := D.int) (pv_c _) (fun _ => rfl) fun seed2 => ⟨(R_law_draws (some ((encL false D.int) script0)) (some (D.int many0)) (some ((encL true D.int) draws1)) (some (D.int seed2)) none none none), rfl,
  J_for (g := D.int) (E := (fun (s3 : (List Int) × Int) r => ∃ j4_3 : Option D, ∃ j5_3 : Option D, ∃ j6_3 : Option D, r = (R_law_draws (some ((encL false D.int) script0)) (some (D.int many0)) (some ((encL true D.int) s3.1)) (some (D.int s3.2)) j4_3 j5_3 j6_3))) (cutT script0 none (some (63 : Int))) (draws1, seed2) (pi_seq (pv_sl (po_b rfl) pb_no (pb_at (PV.o (pv_c _))) (sl_l _ _ _)) (it_l _)) ⟨none, none, none, rfl⟩ (fun a3 s3 r hr => (by obtain ⟨j4_3, j5_3, j6_3, rfl⟩ := hr; exact (
  ⟨(R_law_draws (some ((encL false D.int) script0)) (some (D.int many0)) (some ((encL true D.int) s3.1)) (some (D.int s3.2)) (some (D.int a3)) j5_3 j6_3), rfl,
  J_asgL (f := D.int) (f' := D.int) (pv_bi (pos_cons (po_b rfl) pos_nil) (bi_absI _)) (fun _ => rfl) fun number4 => ⟨(R_law_draws (some ((encL false D.int) script0)) (some (D.int many0)) (some ((encL true D.int) s3.1)) (some (D.int s3.2)) (some (D.int a3)) (some (D.int number4)) j6_3), rfl,
  J_asgL (f := D.int) (f' := D.int) (pv_op (PV.o (pv_bi (pos_cons (PV.o (pv_op (PV.o (pv_op (PV.o (pv_op (po_b rfl) (PV.o (pv_c _)) (op_mul (by simp only [Bool.or_eq_true]; exact .inr (by decide +kernel))))) (po_b rfl) (op_add _ _))) (PV.o (pv_c _)) (op_add _ _))) pos_nil) rfl)) (PV.o (pv_c _)) (op_mod (by decide))) (fun _ => rfl) fun seed5 => ⟨(R_law_draws (some ((encL false D.int) script0)) (some (D.int many0)) (some ((encL true D.int) s3.1)) (some (D.int seed5)) (some (D.int a3)) (some (D.int number4)) j6_3), rfl,
  J_ifN (E := (fun (s13 : (List Int) × Int) r => ∃ j14 : Option D, r = (R_law_draws (some ((encL false D.int) script0)) (some (D.int many0)) (some ((encL true D.int) s13.1)) (some (D.int seed5)) (some (D.int a3)) (some (D.int s13.2)) j14))) (PV.o (pv_op (po_b rfl) (PV.o (pv_op (PV.o (pv_c _)) (PV.o (pv_c _)) (by kernel_rfl))) (op_ge _ _))) (fun _ =>
  J_for (g := D.int) (E := (fun (s6 : (List Int) × Int) r => ∃ j6_6 : Option D, r = (R_law_draws (some ((encL false D.int) script0)) (some (D.int many0)) (some ((encL true D.int) s6.1)) (some (D.int seed5)) (some (D.int a3)) (some (D.int s6.2)) j6_6))) (rng (60 : Int)) (s3.1, number4) (pi_rng (pos_cons (PV.o (pv_c _)) pos_nil) (rangeD_1 (by decide +kernel))) ⟨j6_3, rfl⟩ (fun a6 s6 r hr => (by obtain ⟨j6_6, rfl⟩ := hr; exact (
  ⟨(R_law_draws (some ((encL false D.int) script0)) (some (D.int many0)) (some ((encL true D.int) s6.1)) (some (D.int seed5)) (some (D.int a3)) (some (D.int s6.2)) (some (D.int a6))), rfl,
  J_ifN (E := (fun (s10 : (List Int) × Int) r => r = (R_law_draws (some ((encL false D.int) script0)) (some (D.int many0)) (some ((encL true D.int) s10.1)) (some (D.int seed5)) (some (D.int a3)) (some (D.int s10.2)) (some (D.int a6))))) (PV.o (pv_op (po_b rfl) (PV.o (pv_c _)) (op_gt _ _))) (fun _ =>
  J_gd fun h7 =>
  J_appL (pv_op (PV.o (pv_bi (pos_cons (po_b rfl) pos_nil) rfl)) (PV.o (pv_c _)) (op_mod (by decide))) rfl rfl rfl h7 rfl fun draws8 =>
  J_r (r2 := (R_law_draws (some ((encL false D.int) script0)) (some (D.int many0)) (some ((encL true D.int) draws8)) (some (D.int seed5)) (some (D.int a3)) (some (D.int s6.2)) (some (D.int a6)))) rfl <|
  J_asgL (f := D.int) (f' := D.int) (pv_op (po_b rfl) (PV.o (pv_c _)) (op_fdiv (by decide))) (fun _ => rfl) fun number9 => ⟨(R_law_draws (some ((encL false D.int) script0)) (some (D.int many0)) (some ((encL true D.int) draws8)) (some (D.int seed5)) (some (D.int a3)) (some (D.int number9)) (some (D.int a6))), rfl,
  J_nil ⟨_, rfl, rfl⟩⟩)
  (fun _ =>
  J_nil ⟨_, rfl, rfl⟩)
  fun s10 r hr => (by subst hr; exact (
  J_nil ⟨_, rfl, (some (D.int a6)), rfl⟩))⟩)))
  (fun s6 r hr => (by obtain ⟨j6_6, rfl⟩ := hr; exact (
  J_nil ⟨_, rfl, j6_6, rfl⟩))))
  (fun _ =>
  J_gd fun h11 =>
  J_appL (pv_op (PV.o (pv_op (PV.o (pv_bi (pos_cons (PV.o (pv_op (PV.o (pv_op (po_b rfl) (PV.o (pv_c _)) (op_mul (by simp only [Bool.or_eq_true]; exact .inr (by decide +kernel))))) (PV.o (pv_c _)) (op_add _ _))) pos_nil) rfl)) (PV.o (pv_c _)) (op_fdiv (by decide)))) (PV.o (pv_c _)) (op_mod (by decide))) rfl rfl rfl h11 rfl fun draws12 =>
  J_r (r2 := (R_law_draws (some ((encL false D.int) script0)) (some (D.int many0)) (some ((encL true D.int) draws12)) (some (D.int seed5)) (some (D.int a3)) (some (D.int number4)) j6_3)) rfl <|
  J_nil ⟨_, rfl, j6_3, rfl⟩)
  fun s13 r hr => (by obtain ⟨j14, rfl⟩ := hr; exact (
  J_nil ⟨_, rfl, (some (D.int a3)), (some (D.int s13.2)), j14, rfl⟩))⟩⟩⟩)))
  (fun s3 r hr => (by obtain ⟨j4_3, j5_3, j6_3, rfl⟩ := hr; exact (
  J_gd fun h15 =>
  J_for (g := D.int) (E := (fun (s16 : (List Int) × Int) r => ∃ j6_16 : Option D, r = (R_law_draws (some ((encL false D.int) script0)) (some (D.int many0)) (some ((encL true D.int) s16.1)) (some (D.int s16.2)) j4_3 j5_3 j6_16))) (rng many0) (s3.1, s3.2) (pi_rng (pos_cons (po_b rfl) pos_nil) (rangeD_1 h15)) ⟨j6_3, rfl⟩ (fun a16 s16 r hr => (by obtain ⟨j6_16, rfl⟩ := hr; exact (
  ⟨(R_law_draws (some ((encL false D.int) script0)) (some (D.int many0)) (some ((encL true D.int) s16.1)) (some (D.int s16.2)) j4_3 j5_3 (some (D.int a16))), rfl,
  J_ifN (E := (fun (s20 : (List Int) × Int) r => r = (R_law_draws (some ((encL false D.int) script0)) (some (D.int many0)) (some ((encL true D.int) s20.1)) (some (D.int s20.2)) j4_3 j5_3 (some (D.int a16))))) (PV.o (pv_op (PV.o (pv_bi (pos_cons (po_b rfl) pos_nil) (bi_len_l _))) (po_b rfl) (op_lt _ _))) (fun _ =>
  J_asgL (f := D.int) (f' := D.int) (pv_op (PV.o (pv_bi (pos_cons (PV.o (pv_op (PV.o (pv_op (PV.o (pv_op (po_b rfl) (PV.o (pv_c _)) (op_mul (by simp only [Bool.or_eq_true]; exact .inr (by decide +kernel))))) (po_b rfl) (op_add _ _))) (PV.o (pv_c _)) (op_add _ _))) pos_nil) rfl)) (PV.o (pv_c _)) (op_mod (by decide))) (fun _ => rfl) fun seed17 => ⟨(R_law_draws (some ((encL false D.int) script0)) (some (D.int many0)) (some ((encL true D.int) s16.1)) (some (D.int seed17)) j4_3 j5_3 (some (D.int a16))), rfl,
  J_gd fun h18 =>
  J_appL (pv_op (PV.o (pv_op (PV.o (pv_bi (pos_cons (po_b rfl) pos_nil) rfl)) (PV.o (pv_c _)) (op_fdiv (by decide)))) (PV.o (pv_c _)) (op_mod (by decide))) rfl rfl rfl h18 rfl fun draws19 =>
  J_r (r2 := (R_law_draws (some ((encL false D.int) script0)) (some (D.int many0)) (some ((encL true D.int) draws19)) (some (D.int seed17)) j4_3 j5_3 (some (D.int a16)))) rfl <|
  J_nil ⟨_, rfl, rfl⟩⟩)
  (fun _ =>
  J_nil ⟨_, rfl, rfl⟩)
  fun s20 r hr => (by subst hr; exact (
  J_nil ⟨_, rfl, (some (D.int a16)), rfl⟩))⟩)))
  (fun s16 r hr => (by obtain ⟨j6_16, rfl⟩ := hr; exact (
  J_ex (d := (encL false D.int) s16.1) (r1 := (R_law_draws (some ((encL false D.int) script0)) (some (D.int many0)) (some ((encL false D.int) s16.1)) (some (D.int s16.2)) j4_3 j5_3 j6_16)) (pv_vo rfl rfl rfl) <|
  J_ret (pv_sl (po_b rfl) pb_no (pb_at (po_b rfl)) (sl_l _ _ _)) (.inl rfl)))))))⟩⟩)

abbrev R_law_rules (x0 x1 x2 x3 x4 x5 x6 x7 x8 x9 x10 : Option D) : Rho := [x0, x1, x2, x3, x4, x5, x6, x7, x8, x9, x10]
def F_law_rules (draws0 : (List Int)) (most0 : Int) : M (List (Tx × (List Tx))) :=
  M.ofO (atT draws0 (0 : Int)) fun v1 =>
  let_ ((cutT ([("S").toList, ("T").toList, ("U").toList, ("V").toList] : List Tx) none (some ((1 : Int) + (v1 % (4 : Int)))))) fun names3 =>
  let_ (([] : List (Tx × (List Tx)))) fun found4 =>
  M.ofO (atT draws0 (0 : Int)) fun v5 =>
  let_ (((v5 / (4 : Int)) % (4 : Int))) fun kind7 =>
  M.ofO (atT draws0 (1 : Int)) fun v8 =>
  gd (0 < most0) <|
  gd (small62 ((names3.length : Int) + (v8 % most0)) = true) <|
  (fold (fun (a12 : Int) (s12 : (List (Tx × (List Tx)))) =>
  gd (0 < ((draws0.length : Int) - (2 : Int))) <|
  M.ofO (atT draws0 ((2 : Int) + (a12 % ((draws0.length : Int) - (2 : Int))))) fun v14 =>
  gd (0 < ((draws0.length : Int) - (2 : Int)) ∧ ((draws0.length : Int) - (2 : Int)) < 1073741824) <|
  gd (0 < ((1 : Int) + (a12 / ((draws0.length : Int) - (2 : Int)))) ∧ ((1 : Int) + (a12 / ((draws0.length : Int) - (2 : Int)))) < 1073741824) <|
  let_ ((v14 / ((1 : Int) + (a12 / ((draws0.length : Int) - (2 : Int)))))) fun draw18 =>
  M.ofO (if (decide (a12 < (names3.length : Int))) then (atT names3 a12).bind fun v19 => some v19 else gO (0 < (names3.length : Int)) ((atT names3 (draw18 % (names3.length : Int))).bind fun v22 => some v22)) fun v24 =>
  let_ (([] : List Tx)) fun body26 =>
  M.ofO (atT ([(4 : Int), (3 : Int), (2 : Int), (5 : Int)] : List Int) kind7) fun v27 =>
  gd (0 < v27) <|
  gd (small62 ((draw18 / (5 : Int)) % v27) = true) <|
  (fold (fun (a31 : Int) (s31 : (List Tx)) =>
  gd (0 < ((7 : Int) + ((4 : Int) * a31)) ∧ ((7 : Int) + ((4 : Int) * a31)) < 1073741824) <|
  M.ofO (atT ([(5 : Int), (4 : Int), (3 : Int), (6 : Int)] : List Int) kind7) fun v33 =>
  gd (0 < v33) <|
  let_ (((draw18 / ((7 : Int) + ((4 : Int) * a31))) % v33)) fun pick36 =>
  M.ofO (if (decide ((1 : Int) < pick36)) then gO (0 < ((11 : Int) + a31) ∧ ((11 : Int) + a31) < 1073741824) ((atS (("ab").toList) ((draw18 / ((11 : Int) + a31)) % (2 : Int))).bind fun v38 => some v38) else gO (0 < ((13 : Int) + a31) ∧ ((13 : Int) + a31) < 1073741824) (gO (0 < (names3.length : Int)) ((atT names3 ((draw18 / ((13 : Int) + a31)) % (names3.length : Int))).bind fun v42 => some v42))) fun v44 =>
  gd (s31.length < sizeLine) <|
  let_ (s31 ++ [v44]) fun body47 =>
  .ok body47) (rng ((draw18 / (5 : Int)) % v27)) body26).bind fun s31 =>
  (if (!(memB (v24, s31) s12)) then (gd (s12.length < sizeLine) <|
  let_ (s12 ++ [(v24, s31)]) fun found49 =>
  .ok found49) else (.ok s12)).bind fun s50 =>
  .ok s50) (rng ((names3.length : Int) + (v8 % most0))) found4).bind fun s12 =>
  .ok s12
theorem ok_law_rules (n : Nat) (draws0 : (List Int)) (most0 : Int) : JF ((prg.phi (n + 1)).fn 14 [(encL false D.int) draws0, D.int most0]) (F_law_rules draws0 most0) (encS (enc2 encT (encS encT))) := by
  refine JF_fn (fi := ⟨2, 11, bd14⟩) rfl rfl (JF_run (r := (R_law_rules (some ((encL false D.int) draws0)) (some (D.int most0)) none none none none none none none none none)) rfl ?_)
  unfold F_law_rules
  exact (
  J_ho fun v1 h2 =>
  J_let fun names3 e_names3 => J_let fun found4 e_found4 => J_par (r3 := (R_law_rules (some ((encL false D.int) draws0)) (some (D.int most0)) (some ((encL false encT) names3)) (some ((encL true (enc2 encT (encS encT))) found4)) none none none none none none none)) (a := (encL false encT) names3) (b := (encL true (enc2 encT (encS encT))) found4) (pv_d (pv_sl (PV.o (pv_d (d' := (encL true encT) ([("S").toList, ("T").toList, ("U").toList, ("V").toList] : List Tx)) (pv_lst (pl_cons (d' := encT (("S").toList)) (pv_cc (str_lit _)) rfl (pl_cons (d' := encT (("T").toList)) (pv_cc (str_lit _)) rfl (pl_cons (d' := encT (("U").toList)) (pv_cc (str_lit _)) rfl (pl_cons (d' := encT (("V").toList)) (pv_cc (str_lit _)) rfl pl_nil)))) (len_le (n := 4) rfl (by decide))) rfl)) pb_no (pb_at (PV.o (pv_op (PV.o (pv_c _)) (PV.o (pv_op (PV.o (pv_bi (pos_cons (PV.o (pv_ix (po_b rfl) (PV.o (pv_c _)) (ix_l h2))) pos_nil) rfl)) (PV.o (pv_c _)) (op_mod (by decide)))) (op_add _ _)))) (sl_l _ _ _)) (congrArg (encL true encT) e_names3.symm)) (pv_d (pv_d (d' := (encL true (enc2 encT (encS encT))) ([] : List (Tx × (List Tx)))) (pv_lst pl_nil (len_le (n := 0) rfl (by decide))) rfl) (congrArg (encL true (enc2 encT (encS encT))) e_found4.symm)) (by decide) (of_decide_eq_true rfl) (of_decide_eq_true rfl) (.inr rfl) (.inr rfl) rfl rfl rfl <|
  J_ho fun v5 h6 =>
  J_asgL (f := D.int) (f' := D.int) (pv_op (PV.o (pv_op (PV.o (pv_bi (pos_cons (PV.o (pv_ix (po_b rfl) (PV.o (pv_c _)) (ix_l h6))) pos_nil) rfl)) (PV.o (pv_c _)) (op_fdiv (by decide)))) (PV.o (pv_c _)) (op_mod (by decide))) (fun _ => rfl) fun kind7 => ⟨(R_law_rules (some ((encL false D.int) draws0)) (some (D.int most0)) (some ((encL false encT) names3)) (some ((encL true (enc2 encT (encS encT))) found4)) (some (D.int kind7)) none none none none none none), rfl,
  J_ho fun v8 h9 =>
  J_gd fun h10 =>
  J_gd fun h11 =>
  J_for (g := D.int) (E := (fun (s12 : (List (Tx × (List Tx)))) r => ∃ j5_12 : Option D, ∃ j6_12 : Option D, ∃ j7_12 : Option D, ∃ j8_12 : Option D, ∃ j9_12 : Option D, ∃ j10_12 : Option D, r = (R_law_rules (some ((encL false D.int) draws0)) (some (D.int most0)) (some ((encL false encT) names3)) (some ((encL true (enc2 encT (encS encT))) s12)) (some (D.int kind7)) j5_12 j6_12 j7_12 j8_12 j9_12 j10_12))) (rng ((names3.length : Int) + (v8 % most0))) found4 (pi_rng (pos_cons (PV.o (pv_op (PV.o (pv_bi (pos_cons (po_b rfl) pos_nil) (bi_len_l _))) (PV.o (pv_op (PV.o (pv_bi (pos_cons (PV.o (pv_ix (po_b rfl) (PV.o (pv_c _)) (ix_l h9))) pos_nil) rfl)) (po_b rfl) (op_mod h10))) (op_add _ _))) pos_nil) (rangeD_1 h11)) ⟨none, none, none, none, none, none, rfl⟩ (fun a12 s12 r hr => (by obtain ⟨j5_12, j6_12, j7_12, j8_12, j9_12, j10_12, rfl⟩ := hr; exact (
  ⟨(R_law_rules (some ((encL false D.int) draws0)) (some (D.int most0)) (some ((encL false encT) names3)) (some ((encL true (enc2 encT (encS encT))) s12)) (some (D.int kind7)) (some (D.int a12)) j6_12 j7_12 j8_12 j9_12 j10_12), rfl,
  J_gd fun h13 =>
  J_ho fun v14 h15 =>
  J_gd fun h16 =>
  J_gd fun h17 =>
  J_asgL (f := D.int) (f' := D.int) (pv_op (PV.o (pv_bi (pos_cons (PV.o (pv_ix (po_b rfl) (PV.o (pv_op (PV.o (pv_c _)) (PV.o (pv_op (po_b rfl) (PV.o (pv_op (PV.o (pv_bi (pos_cons (po_b rfl) pos_nil) (bi_len_l _))) (PV.o (pv_c _)) (op_sub _ _))) (op_mod h13))) (op_add _ _))) (ix_l h15))) pos_nil) rfl)) (PV.o (pv_op (PV.o (pv_c _)) (PV.o (pv_op (po_b rfl) (PV.o (pv_op (PV.o (pv_bi (pos_cons (po_b rfl) pos_nil) (bi_len_l _))) (PV.o (pv_c _)) (op_sub _ _))) (op_fdiv h16))) (op_add _ _))) (op_fdiv h17)) (fun _ => rfl) fun draw18 => ⟨(R_law_rules (some ((encL false D.int) draws0)) (some (D.int most0)) (some ((encL false encT) names3)) (some ((encL true (enc2 encT (encS encT))) s12)) (some (D.int kind7)) (some (D.int a12)) (some (D.int draw18)) j7_12 j8_12 j9_12 j10_12), rfl,
  J_ho fun v24 h25 =>
  J_asg (d' := encT v24) (r2 := (R_law_rules (some ((encL false D.int) draws0)) (some (D.int most0)) (some ((encL false encT) names3)) (some ((encL true (enc2 encT (encS encT))) s12)) (some (D.int kind7)) (some (D.int a12)) (some (D.int draw18)) (some (encT v24)) j8_12 j9_12 j10_12)) ((evV_ite (f := encT) (PV.o (pv_op (po_b rfl) (PV.o (pv_bi (pos_cons (po_b rfl) pos_nil) (bi_len_l _))) (op_lt _ _))) (fun _ => (evV_bind fun v19 h20 => (evV (pv_ix (po_b rfl) (po_b rfl) (ix_l h20)) rfl))) (fun _ => (evV_gO fun h21 => (evV_bind fun v22 h23 => (evV (pv_ix (po_b rfl) (PV.o (pv_op (po_b rfl) (PV.o (pv_bi (pos_cons (po_b rfl) pos_nil) (bi_len_l _))) (op_mod h21))) (ix_l h23)) rfl))))).q h25) rfl rfl <|
  J_asgL (f := (encL true encT)) (f' := (encL true encT)) (pv_d (d' := (encL true encT) ([] : List Tx)) (pv_lst pl_nil (len_le (n := 0) rfl (by decide))) rfl) (fun _ => rfl) fun body26 => ⟨(R_law_rules (some ((encL false D.int) draws0)) (some (D.int most0)) (some ((encL false encT) names3)) (some ((encL true (enc2 encT (encS encT))) s12)) (some (D.int kind7)) (some (D.int a12)) (some (D.int draw18)) (some (encT v24)) (some ((encL true encT) body26)) j9_12 j10_12), rfl,
  J_ho fun v27 h28 =>
  J_gd fun h29 =>
  J_gd fun h30 =>
  J_for (g := D.int) (E := (fun (s31 : (List Tx)) r => ∃ j9_31 : Option D, ∃ j10_31 : Option D, r = (R_law_rules (some ((encL false D.int) draws0)) (some (D.int most0)) (some ((encL false encT) names3)) (some ((encL true (enc2 encT (encS encT))) s12)) (some (D.int kind7)) (some (D.int a12)) (some (D.int draw18)) (some (encT v24)) (some ((encL true encT) s31)) j9_31 j10_31))) (rng ((draw18 / (5 : Int)) % v27)) body26 (pi_rng (pos_cons (PV.o (pv_op (PV.o (pv_op (po_b rfl) (PV.o (pv_c _)) (op_fdiv (by decide)))) (PV.o (pv_ix (PV.o (pv_d (d' := (encL true D.int) ([(4 : Int), (3 : Int), (2 : Int), (5 : Int)] : List Int)) (pv_lst (pl_cons (d' := D.int (4 : Int)) (pv_c _) rfl (pl_cons (d' := D.int (3 : Int)) (pv_c _) rfl (pl_cons (d' := D.int (2 : Int)) (pv_c _) rfl (pl_cons (d' := D.int (5 : Int)) (pv_c _) rfl pl_nil)))) (len_le (n := 4) rfl (by decide))) rfl)) (po_b rfl) (ix_l h28))) (op_mod h29))) pos_nil) (rangeD_1 h30)) ⟨j9_12, j10_12, rfl⟩ (fun a31 s31 r hr => (by obtain ⟨j9_31, j10_31, rfl⟩ := hr; exact (
  ⟨(R_law_rules (some ((encL false D.int) draws0)) (some (D.int most0)) (some ((encL false encT) names3)) (some ((encL true (enc2 encT (encS encT))) s12)) (some (D.int kind7)) (some (D.int a12)) (some (D.int draw18)) (some (encT v24)) (some ((encL true encT) s31)) (some (D.int a31)) j10_31), rfl,
  J_gd fun h32 =>
  J_ho fun v33 h34 =>
  J_gd fun h35 =>
  J_asgL (f := D.int) (f' := D.int) (pv_op (PV.o (pv_op (po_b rfl) (PV.o (pv_op (PV.o (pv_c _)) (PV.o (pv_op (PV.o (pv_c _)) (po_b rfl) (op_mul (by simp only [Bool.or_eq_true]; exact .inl (by decide +kernel))))) (op_add _ _))) (op_fdiv h32))) (PV.o (pv_ix (PV.o (pv_d (d' := (encL true D.int) ([(5 : Int), (4 : Int), (3 : Int), (6 : Int)] : List Int)) (pv_lst (pl_cons (d' := D.int (5 : Int)) (pv_c _) rfl (pl_cons (d' := D.int (4 : Int)) (pv_c _) rfl (pl_cons (d' := D.int (3 : Int)) (pv_c _) rfl (pl_cons (d' := D.int (6 : Int)) (pv_c _) rfl pl_nil)))) (len_le (n := 4) rfl (by decide))) rfl)) (po_b rfl) (ix_l h34))) (op_mod h35)) (fun _ => rfl) fun pick36 => ⟨(R_law_rules (some ((encL false D.int) draws0)) (some (D.int most0)) (some ((encL false encT) names3)) (some ((encL true (enc2 encT (encS encT))) s12)) (some (D.int kind7)) (some (D.int a12)) (some (D.int draw18)) (some (encT v24)) (some ((encL true encT) s31)) (some (D.int a31)) (some (D.int pick36))), rfl,
  J_ho fun v44 h45 =>
  J_gd fun h46 =>
  J_appL ((evV_ite (f := encT) (PV.o (pv_op (po_b rfl) (PV.o (pv_c _)) (op_gt _ _))) (fun _ => (evV_gO fun h37 => (evV_bind fun v38 h39 => (evV (pv_ix (PV.o (pv_cc (str_lit _))) (PV.o (pv_op (PV.o (pv_op (po_b rfl) (PV.o (pv_op (PV.o (pv_c _)) (po_b rfl) (op_add _ _))) (op_fdiv h37))) (PV.o (pv_c _)) (op_mod (by decide)))) (ix_t h39)) rfl)))) (fun _ => (evV_gO fun h40 => (evV_gO fun h41 => (evV_bind fun v42 h43 => (evV (pv_ix (po_b rfl) (PV.o (pv_op (PV.o (pv_op (po_b rfl) (PV.o (pv_op (PV.o (pv_c _)) (po_b rfl) (op_add _ _))) (op_fdiv h40))) (PV.o (pv_bi (pos_cons (po_b rfl) pos_nil) (bi_len_l _))) (op_mod h41))) (ix_l h43)) rfl)))))).q h45) rfl rfl rfl h46 rfl fun body47 =>
  J_r (r2 := (R_law_rules (some ((encL false D.int) draws0)) (some (D.int most0)) (some ((encL false encT) names3)) (some ((encL true (enc2 encT (encS encT))) s12)) (some (D.int kind7)) (some (D.int a12)) (some (D.int draw18)) (some (encT v24)) (some ((encL true encT) body47)) (some (D.int a31)) (some (D.int pick36)))) rfl <|
  J_nil ⟨_, rfl, (some (D.int a31)), (some (D.int pick36)), rfl⟩⟩⟩)))
  (fun s31 r hr => (by obtain ⟨j9_31, j10_31, rfl⟩ := hr; exact (
  J_ex (d := (encL false encT) s31) (r1 := (R_law_rules (some ((encL false D.int) draws0)) (some (D.int most0)) (some ((encL false encT) names3)) (some ((encL true (enc2 encT (encS encT))) s12)) (some (D.int kind7)) (some (D.int a12)) (some (D.int draw18)) (some (encT v24)) (some ((encL false encT) s31)) j9_31 j10_31)) (pv_vo rfl rfl rfl) <|
  J_ifN (E := (fun (s50 : (List (Tx × (List Tx)))) r => r = (R_law_rules (some ((encL false D.int) draws0)) (some (D.int most0)) (some ((encL false encT) names3)) (some ((encL true (enc2 encT (encS encT))) s50)) (some (D.int kind7)) (some (D.int a12)) (some (D.int draw18)) (some (encT v24)) (some ((encL false encT) s31)) j9_31 j10_31))) (PV.o (pv_op (PV.o (pv_d (d' := (enc2 encT (encS encT)) (v24, s31)) (pv_tup (pl_cons (d' := encT v24) (pv_v rfl rfl) rfl (pl_cons (d' := (encS encT) s31) (pv_bi (pos_cons (po_b rfl) pos_nil) (bi_tuple_l _)) rfl pl_nil)) (len_le (n := 2) rfl (by decide))) rfl)) (po_b rfl) (op_notin (op_in_l (PlT.t2 ((PlT.str (k := 0)).mono (k := 1) (by decide)) ((PlT.tups (PlT.str (k := 0))).mono (k := 1) (by decide))) (by decide) _ _)))) (fun _ =>
  J_gd fun h48 =>
  J_appL (pv_d (d' := (enc2 encT (encS encT)) (v24, s31)) (pv_tup (pl_cons (d' := encT v24) (pv_v rfl rfl) rfl (pl_cons (d' := (encS encT) s31) (pv_bi (pos_cons (po_b rfl) pos_nil) (bi_tuple_l _)) rfl pl_nil)) (len_le (n := 2) rfl (by decide))) rfl) rfl rfl rfl h48 rfl fun found49 =>
  J_r (r2 := (R_law_rules (some ((encL false D.int) draws0)) (some (D.int most0)) (some ((encL false encT) names3)) (some ((encL true (enc2 encT (encS encT))) found49)) (some (D.int kind7)) (some (D.int a12)) (some (D.int draw18)) (some (encT v24)) (some ((encL false encT) s31)) j9_31 j10_31)) rfl <|
  J_nil ⟨_, rfl, rfl⟩)
  (fun _ =>
  J_nil ⟨_, rfl, rfl⟩)
  fun s50 r hr => (by subst hr; exact (
  J_nil ⟨_, rfl, (some (D.int a12)), (some (D.int draw18)), (some (encT v24)), (some ((encL false encT) s31)), j9_31, j10_31, rfl⟩)))))⟩⟩⟩)))
  (fun s12 r hr => (by obtain ⟨j5_12, j6_12, j7_12, j8_12, j9_12, j10_12, rfl⟩ := hr; exact (
  J_ex (d := (encL false (enc2 encT (encS encT))) s12) (r1 := (R_law_rules (some ((encL false D.int) draws0)) (some (D.int most0)) (some ((encL false encT) names3)) (some ((encL false (enc2 encT (encS encT))) s12)) (some (D.int kind7)) j5_12 j6_12 j7_12 j8_12 j9_12 j10_12)) (pv_vo rfl rfl rfl) <|
  J_ret (pv_bi (pos_cons (po_b rfl) pos_nil) (bi_tuple_l _)) (.inl rfl))))⟩)

abbrev R_law_prices (x0 x1 x2 x3 : Option D) : Rho := [x0, x1, x2, x3]
def F_law_prices (draws0 : (List Int)) (many0 : Int) : M (List Int) :=
  M.ofO (atT draws0 (0 : Int)) fun v1 =>
  let_ ((v1 % (4 : Int))) fun kind3 =>
  gd (small62 many0 = true) <|
  M.ofO (gO ((rng many0).length ≤ sizeLine) (lcO (fun _ => some true) (fun (a5 : Int) => gO (0 < ((draws0.length : Int) - (1 : Int))) ((atT draws0 ((1 : Int) + (a5 % ((draws0.length : Int) - (1 : Int))))).bind fun v7 => gO (0 < ((draws0.length : Int) - (1 : Int)) ∧ ((draws0.length : Int) - (1 : Int)) < 1073741824) (gO (0 < ((1 : Int) + (a5 / ((draws0.length : Int) - (1 : Int)))) ∧ ((1 : Int) + (a5 / ((draws0.length : Int) - (1 : Int)))) < 1073741824) ((atT ([(2 : Int), (5 : Int), (100 : Int), (1 : Int)] : List Int) kind3).bind fun v11 => gO (0 < v11) (some ((v7 / ((1 : Int) + (a5 / ((draws0.length : Int) - (1 : Int))))) % v11)))))) (rng many0))) fun v14 =>
  .ok v14
theorem ok_law_prices (n : Nat) (draws0 : (List Int)) (many0 : Int) : JF ((prg.phi (n + 1)).fn 15 [(encL false D.int) draws0, D.int many0]) (F_law_prices draws0 many0) (encS D.int) := by
  refine JF_fn (fi := ⟨2, 4, bd15⟩) rfl rfl (JF_run (r := (R_law_prices (some ((encL false D.int) draws0)) (some (D.int many0)) none none)) rfl ?_)
  unfold F_law_prices
  exact (
  J_ho fun v1 h2 =>
  J_asgL (f := D.int) (f' := D.int) (pv_op (PV.o (pv_bi (pos_cons (PV.o (pv_ix (po_b rfl) (PV.o (pv_c _)) (ix_l h2))) pos_nil) rfl)) (PV.o (pv_c _)) (op_mod (by decide))) (fun _ => rfl) fun kind3 => ⟨(R_law_prices (some ((encL false D.int) draws0)) (some (D.int many0)) (some (D.int kind3)) none), rfl,
  J_gd fun h4 =>
  J_ho fun v14 h15 =>
  J_ret (pv_bi (pos_cons (PV.o ((evV_lc (f := D.int) (rng many0) D.int (pi_rng (pos_cons (po_b rfl) pos_nil) (rangeD_1 h4)) (free_c (x := none) rfl nj_none free_n) rfl (fun a5 => ⟨(R_law_prices (some ((encL false D.int) draws0)) (some (D.int many0)) (some (D.int kind3)) (some (D.int a5))), rfl, rfl, D.int, fun _ => ⟨rfl, rfl⟩, (evV_gO fun h6 => (evV_bind fun v7 h8 => (evV_gO fun h9 => (evV_gO fun h10 => (evV_bind fun v11 h12 => (evV_gO fun h13 => (evV (pv_op (PV.o (pv_op (PV.o (pv_bi (pos_cons (PV.o (pv_ix (po_b rfl) (PV.o (pv_op (PV.o (pv_c _)) (PV.o (pv_op (po_b rfl) (PV.o (pv_op (PV.o (pv_bi (pos_cons (po_b rfl) pos_nil) (bi_len_l _))) (PV.o (pv_c _)) (op_sub _ _))) (op_mod h6))) (op_add _ _))) (ix_l h8))) pos_nil) rfl)) (PV.o (pv_op (PV.o (pv_c _)) (PV.o (pv_op (po_b rfl) (PV.o (pv_op (PV.o (pv_bi (pos_cons (po_b rfl) pos_nil) (bi_len_l _))) (PV.o (pv_c _)) (op_sub _ _))) (op_fdiv h9))) (op_add _ _))) (op_fdiv h10))) (PV.o (pv_ix (PV.o (pv_d (d' := (encL true D.int) ([(2 : Int), (5 : Int), (100 : Int), (1 : Int)] : List Int)) (pv_lst (pl_cons (d' := D.int (2 : Int)) (pv_c _) rfl (pl_cons (d' := D.int (5 : Int)) (pv_c _) rfl (pl_cons (d' := D.int (100 : Int)) (pv_c _) rfl (pl_cons (d' := D.int (1 : Int)) (pv_c _) rfl pl_nil)))) (len_le (n := 4) rfl (by decide))) rfl)) (po_b rfl) (ix_l h12))) (op_mod h13)) rfl)))))))⟩)).q h15)) pos_nil) (bi_tuple_l _)) (.inl rfl)⟩)

abbrev R_law_count (x0 : Option D) : Rho := [x0]
def F_law_count (value0 : FD) : M Bool :=
  M.ofO (isTy (encF value0) .int) fun v1 =>
  M.ofO (if v1 then (isTy (encF value0) .bool).bind fun v3 => (if (!v3) then (oB (opD .ge (encF value0) (D.int (0 : Int)))).bind fun v5 => some v5 else some false).bind fun v7 => some v7 else some false) fun v9 =>
  .ok v9
theorem ok_law_count (n : Nat) (value0 : FD) : JF ((prg.phi (n + 1)).fn 16 [encF value0]) (F_law_count value0) D.bl := by
  refine JF_fn (fi := ⟨1, 1, bd16⟩) rfl rfl (JF_run (r := (R_law_count (some (encF value0)))) rfl ?_)
  unfold F_law_count
  exact (
  J_ho fun v1 h2 =>
  J_ho fun v9 h10 =>
  J_ret ((evV_and (PV.o (pv_isi (po_b rfl) h2)) (fun _ => (evV_bind fun v3 h4 => (evV_bind fun v7 h8 => (evV ((evV_and (PV.o (pv_not (PV.o (pv_isi (po_b rfl) h4)))) (fun _ => (evV_bind fun v5 h6 => (evV (pv_op (po_b rfl) (PV.o (pv_c _)) (oB_q h6)) rfl)))).q h8) rfl))))).q h10) (.inl rfl))

abbrev R_law_costs (x0 x1 x2 x3 x4 x5 x6 x7 x8 x9 : Option D) : Rho := [x0, x1, x2, x3, x4, x5, x6, x7, x8, x9]
def F_law_costs (rules0 : (List (Tx × (List Tx)))) (prices0 : (List Int)) : M (List (Tx × Int)) :=
  let_ (([] : (List (Tx × Int)))) fun found1 =>
  (loop (ρ := (List (Tx × Int))) (fun (a2 : Int) (s2 : (List (Tx × Int))) =>
  gd (small62 (rules0.length : Int) = true) <|
  (fold (fun (a4 : Int) (s4 : (List (Tx × Int)) × Bool) =>
  M.ofO (atT rules0 a4) fun v5 =>
  M.ofO (gO (v5.2.length ≤ sizeLine) (lcO (fun _ => some true) (fun (a7 : Tx) => some ((inTx a7 (("ab").toList)) || (dget s4.1 a7).isSome)) v5.2)) fun v8 =>
  (if (v8.all id) then (M.ofO (atT prices0 a4) fun v10 =>
  M.ofO (gO (v5.2.length ≤ sizeLine) (lcO (fun (a12 : Tx) => some (!(inTx a12 (("ab").toList)))) (fun (a12 : Tx) => (dget s4.1 a12).bind fun v13 => some v13) v5.2)) fun v15 =>
  let_ ((v10 + v15.sum)) fun cost17 =>
  M.ofO (if (!((dget s4.1 v5.1).isSome)) then some true else (dget s4.1 v5.1).bind fun v18 => some (decide (cost17 < v18))) fun v20 =>
  (if v20 then (gd (s4.1.length < sizeLine) <|
  let_ (dput s4.1 v5.1 cost17) fun found23 =>
  .ok (found23, true)) else (.ok (s4.1, s4.2))).bind fun s24 =>
  .ok (s24.1, s24.2)) else (.ok (s4.1, s4.2))).bind fun s25 =>
  .ok (s25.1, s25.2)) (rng (rules0.length : Int)) (s2, false)).bind fun s4 =>
  (if (!s4.2) then (.ok (.rt s4.1)) else (.ok (.nx s4.1)))) (rng (400 : Int)) found1).bind fun
  | .rt v27 => .ok v27
  | .nx s2 =>
  .ok s2
theorem ok_law_costs (n : Nat) (rules0 : (List (Tx × (List Tx)))) (prices0 : (List Int)) : JF ((prg.phi (n + 1)).fn 17 [(encS (enc2 encT (encS encT))) rules0, (encS D.int) prices0]) (F_law_costs rules0 prices0) (encDc true encT D.int) := by
  refine JF_fn (fi := ⟨2, 10, bd17⟩) rfl rfl (JF_run (r := (R_law_costs (some ((encS (enc2 encT (encS encT))) rules0)) (some ((encS D.int) prices0)) none none none none none none none none)) rfl ?_)
  unfold F_law_costs
  exact (
  J_asgL (f := (encDc true encT D.int)) (f' := (encDc true encT D.int)) (pv_d (d' := (encDc true encT D.int) ([] : (List (Tx × Int)))) pv_dnew rfl) (fun _ => rfl) fun found1 => ⟨(R_law_costs (some ((encS (enc2 encT (encS encT))) rules0)) (some ((encS D.int) prices0)) (some ((encDc true encT D.int) found1)) none none none none none none none), rfl,
  J_forO (g := D.int) (E := (fun (s2 : (List (Tx × Int))) r => ∃ j3_2 : Option D, ∃ j4_2 : Option D, ∃ j5_2 : Option D, ∃ j6_2 : Option D, ∃ j7_2 : Option D, ∃ j9_2 : Option D, r = (R_law_costs (some ((encS (enc2 encT (encS encT))) rules0)) (some ((encS D.int) prices0)) (some ((encDc true encT D.int) s2)) j3_2 j4_2 j5_2 j6_2 j7_2 none j9_2))) (f := (encDc true encT D.int)) (rng (400 : Int)) found1 (pi_rng (pos_cons (PV.o (pv_c _)) pos_nil) (rangeD_1 (by decide +kernel))) ⟨none, none, none, none, none, none, rfl⟩ (fun a2 s2 r hr => (by obtain ⟨j3_2, j4_2, j5_2, j6_2, j7_2, j9_2, rfl⟩ := hr; exact (
  ⟨(R_law_costs (some ((encS (enc2 encT (encS encT))) rules0)) (some ((encS D.int) prices0)) (some ((encDc true encT D.int) s2)) (some (D.int a2)) j4_2 j5_2 j6_2 j7_2 none j9_2), rfl,
  J_asg (d' := D.bl false) (r2 := (R_law_costs (some ((encS (enc2 encT (encS encT))) rules0)) (some ((encS D.int) prices0)) (some ((encDc true encT D.int) s2)) (some (D.int a2)) (some (D.bl false)) j5_2 j6_2 j7_2 none j9_2)) (pv_c _) rfl rfl <|
  J_gd fun h3 =>
  J_for (g := D.int) (E := (fun (s4 : (List (Tx × Int)) × Bool) r => ∃ j5_4 : Option D, ∃ j6_4 : Option D, ∃ j7_4 : Option D, ∃ j9_4 : Option D, r = (R_law_costs (some ((encS (enc2 encT (encS encT))) rules0)) (some ((encS D.int) prices0)) (some ((encDc true encT D.int) s4.1)) (some (D.int a2)) (some (D.bl s4.2)) j5_4 j6_4 j7_4 none j9_4))) (rng (rules0.length : Int)) (s2, false) (pi_rng (pos_cons (PV.o (pv_bi (pos_cons (po_b rfl) pos_nil) (bi_len_s _))) pos_nil) (rangeD_1 h3)) ⟨j5_2, j6_2, j7_2, j9_2, rfl⟩ (fun a4 s4 r hr => (by obtain ⟨j5_4, j6_4, j7_4, j9_4, rfl⟩ := hr; exact (
  ⟨(R_law_costs (some ((encS (enc2 encT (encS encT))) rules0)) (some ((encS D.int) prices0)) (some ((encDc true encT D.int) s4.1)) (some (D.int a2)) (some (D.bl s4.2)) (some (D.int a4)) j6_4 j7_4 none j9_4), rfl,
  J_ho fun v5 h6 =>
  J_asg (d' := (enc2 encT (encS encT)) v5) (r2 := (R_law_costs (some ((encS (enc2 encT (encS encT))) rules0)) (some ((encS D.int) prices0)) (some ((encDc true encT D.int) s4.1)) (some (D.int a2)) (some (D.bl s4.2)) (some (D.int a4)) (some (encT v5.1)) (some ((encS encT) v5.2)) none j9_4)) (pv_ix (po_b rfl) (po_b rfl) (ix_s h6)) rfl rfl <|
  J_ho fun v8 h9 =>
  J_ifN (E := (fun (s25 : (List (Tx × Int)) × Bool) r => ∃ j26 : Option D, r = (R_law_costs (some ((encS (enc2 encT (encS encT))) rules0)) (some ((encS D.int) prices0)) (some ((encDc true encT D.int) s25.1)) (some (D.int a2)) (some (D.bl s25.2)) (some (D.int a4)) (some (encT v5.1)) (some ((encS encT) v5.2)) none j26))) (PV.o (pv_bi (pos_cons (PV.o ((evV_lc (f := D.bl) v5.2 encT (pi_seq (pv_v rfl rfl) (it_s _)) (free_c (x := none) rfl nj_none free_n) rfl (fun a7 => ⟨(R_law_costs (some ((encS (enc2 encT (encS encT))) rules0)) (some ((encS D.int) prices0)) (some ((encDc true encT D.int) s4.1)) (some (D.int a2)) (some (D.bl s4.2)) (some (D.int a4)) (some (encT v5.1)) (some ((encS encT) v5.2)) (some (encT a7)) j9_4), rfl, rfl, D.bl, fun _ => ⟨rfl, rfl⟩, (evV (pv_or (PV.o (pv_op (po_b rfl) (PV.o (pv_cc (str_lit _))) (op_in_t _ _))) (pv_op (po_b rfl) (po_b rfl) (op_in_d KeyT.str _ _))) rfl)⟩)).q h9)) pos_nil) (tb_all _))) (fun _ =>
  J_ho fun v10 h11 =>
  J_ho fun v15 h16 =>
  J_asgL (f := D.int) (f' := D.int) (pv_op (PV.o (pv_ix (po_b rfl) (po_b rfl) (ix_s h11))) (PV.o (pv_bi (pos_cons (PV.o ((evV_lcif (f := D.int) v5.2 encT (pi_seq (pv_v rfl rfl) (it_s _)) (free_c (x := none) rfl nj_none free_n) rfl (fun a12 => ⟨(R_law_costs (some ((encS (enc2 encT (encS encT))) rules0)) (some ((encS D.int) prices0)) (some ((encDc true encT D.int) s4.1)) (some (D.int a2)) (some (D.bl s4.2)) (some (D.int a4)) (some (encT v5.1)) (some ((encS encT) v5.2)) (some (encT a12)) j9_4), rfl, rfl, (evO (PV.o (pv_op (po_b rfl) (PV.o (pv_cc (str_lit _))) (op_notin (op_in_t _ _)))) rfl), D.int, fun _ => ⟨rfl, rfl⟩, (evV_bind fun v13 h14 => (evV (pv_ix (po_b rfl) (po_b rfl) (ix_d KeyT.str h14)) rfl))⟩)).q h16)) pos_nil) (tb_sum _))) (op_add _ _)) (fun _ => rfl) fun cost17 => ⟨(R_law_costs (some ((encS (enc2 encT (encS encT))) rules0)) (some ((encS D.int) prices0)) (some ((encDc true encT D.int) s4.1)) (some (D.int a2)) (some (D.bl s4.2)) (some (D.int a4)) (some (encT v5.1)) (some ((encS encT) v5.2)) none (some (D.int cost17))), rfl,
  J_ho fun v20 h21 =>
  J_ifN (E := (fun (s24 : (List (Tx × Int)) × Bool) r => r = (R_law_costs (some ((encS (enc2 encT (encS encT))) rules0)) (some ((encS D.int) prices0)) (some ((encDc true encT D.int) s24.1)) (some (D.int a2)) (some (D.bl s24.2)) (some (D.int a4)) (some (encT v5.1)) (some ((encS encT) v5.2)) none (some (D.int cost17))))) ((evO_or (PV.o (pv_op (po_b rfl) (po_b rfl) (op_notin (op_in_d KeyT.str _ _)))) (fun _ => (evO_bind fun v18 h19 => (evO (PV.o (pv_op (po_b rfl) (PV.o (pv_ix (po_b rfl) (po_b rfl) (ix_d KeyT.str h19))) (op_lt _ _))) rfl)))).q h21) (fun _ =>
  J_gd fun h22 =>
  J_putL (f := (encDc true encT D.int)) (pv_v rfl rfl) rfl (po_b rfl) rfl rfl (put_d KeyT.str h22) fun found23 =>
  J_r (r2 := (R_law_costs (some ((encS (enc2 encT (encS encT))) rules0)) (some ((encS D.int) prices0)) (some ((encDc true encT D.int) found23)) (some (D.int a2)) (some (D.bl s4.2)) (some (D.int a4)) (some (encT v5.1)) (some ((encS encT) v5.2)) none (some (D.int cost17)))) rfl <|
  J_asg (d' := D.bl true) (r2 := (R_law_costs (some ((encS (enc2 encT (encS encT))) rules0)) (some ((encS D.int) prices0)) (some ((encDc true encT D.int) found23)) (some (D.int a2)) (some (D.bl true)) (some (D.int a4)) (some (encT v5.1)) (some ((encS encT) v5.2)) none (some (D.int cost17)))) (pv_c _) rfl rfl <|
  J_nil ⟨_, rfl, rfl⟩)
  (fun _ =>
  J_nil ⟨_, rfl, rfl⟩)
  fun s24 r hr => (by subst hr; exact (
  J_nil ⟨_, rfl, (some (D.int cost17)), rfl⟩))⟩)
  (fun _ =>
  J_nil ⟨_, rfl, j9_4, rfl⟩)
  fun s25 r hr => (by obtain ⟨j26, rfl⟩ := hr; exact (
  J_nil ⟨_, rfl, (some (D.int a4)), (some (encT v5.1)), (some ((encS encT) v5.2)), j26, rfl⟩))⟩)))
  (fun s4 r hr => (by obtain ⟨j5_4, j6_4, j7_4, j9_4, rfl⟩ := hr; exact (
  J_ifX (PV.o (pv_not (po_b rfl))) (fun _ =>
  J_ret (pv_mv rfl) pO_rt)
  (fun _ =>
  J_on <|
  J_nil ⟨_, rfl, (some (D.int a2)), (some (D.bl s4.2)), j5_4, j6_4, j7_4, j9_4, rfl⟩))))⟩)))
  (fun s2 r hr => (by obtain ⟨j3_2, j4_2, j5_2, j6_2, j7_2, j9_2, rfl⟩ := hr; exact (
  J_ret (pv_mv rfl) (.inl rfl))))
  (fun _ => J_rtF)⟩)

abbrev R_law_due (x0 x1 x2 x3 x4 x5 : Option D) : Rho := [x0, x1, x2, x3, x4, x5]
def F_law_due (rules0 : (List (Tx × (List Tx)))) (value0 : FD) : M (FD × FD) :=
  M.ofO (isTy (encF value0) .tuple) fun v1 =>
  M.ofO (if (!v1) then some true else (oL (itemsD (encF value0))).bind fun v3 => (gO (v3.length ≤ sizeLine) (lcO (fun _ => some true) (fun (a5 : FD) => ((F_law_count a5).get).bind fun v6 => (if v6 then (oB (opD .lt (encF a5) (D.int (rules0.length : Int)))).bind fun v8 => some v8 else some false).bind fun v10 => some v10) v3)).bind fun v12 => some (!(v12.all id))) fun v14 =>
  (if v14 then (.ok ((⟨encT (("form").toList), rfl⟩ : FD), (⟨(encDc false D.int D.int) ([] : (List (Int × Int))), rfl⟩ : FD))) else (M.ofO (oL (itemsD (encF value0))) fun v16 =>
  M.ofO (gO (v16.length ≤ sizeLine) (lcO (fun _ => some true) (fun (a18 : FD) => (oI (some (encF a18))).bind fun v19 => (atT rules0 v19).bind fun v21 => some v21.1) v16)) fun v23 =>
  gd (v23.length < 4000) <|
  (if (decide (((nubK v23).length : Int) < (v23.length : Int))) then (.ok ((⟨encT (("form").toList), rfl⟩ : FD), (⟨(encDc false D.int D.int) ([] : (List (Int × Int))), rfl⟩ : FD))) else (M.ofO (oI (biD .len [(encF value0)])) fun v26 =>
  gd (small62 v26 = true) <|
  (loop (ρ := (FD × FD)) (fun (a29 : Int) (s29 : Unit) =>
  M.ofO (oF (ixD (encF value0) (D.int a29))) fun v30 =>
  M.ofO (oI (some (encF v30))) fun v32 =>
  M.ofO (atT rules0 v32) fun v34 =>
  M.ofO (gO (v34.2.length ≤ sizeLine) (lcO (fun _ => some true) (fun (a36 : Tx) => some ((inTx a36 (("ab").toList)) || (memB a36 (cutT v23 none (some a29))))) v34.2)) fun v37 =>
  (if (!(v37.all id)) then (.ok (.rt ((⟨D.int a29, rfl⟩ : FD), (⟨(encDc false D.int D.int) ([] : (List (Int × Int))), rfl⟩ : FD)))) else (.ok (.nx ())))) (rng v26) ()).bind fun
  | .rt v39 => .ok v39
  | .nx s29 =>
  .ok ((⟨encU (), rfl⟩ : FD), (⟨(encL false encT) v23, rfl⟩ : FD))))))
theorem ok_law_due (n : Nat) (rules0 : (List (Tx × (List Tx)))) (value0 : FD) : JF ((prg.phi (n + 2)).fn 18 [(encS (enc2 encT (encS encT))) rules0, encF value0]) (F_law_due rules0 value0) (enc2 encF encF) := by
  refine JF_fn (fi := ⟨2, 6, bd18⟩) rfl rfl (JF_run (r := (R_law_due (some ((encS (enc2 encT (encS encT))) rules0)) (some (encF value0)) none none none none)) rfl ?_)
  unfold F_law_due
  exact (
  J_ho fun v1 h2 =>
  J_ho fun v14 h15 =>
  J_ifX ((evO_or (PV.o (pv_not (PV.o (pv_isi (po_b rfl) h2)))) (fun _ => (evO_bind fun v3 h4 => (evO_bind fun v12 h13 => (evO (PV.o (pv_not (PV.o (pv_bi (pos_cons (PV.o ((evV_lc (f := D.bl) v3 encF (pi_seq (pv_v rfl (own_F _)) (oL_q h4)) (free_c (x := none) rfl nj_none free_n) rfl (fun a5 => ⟨(R_law_due (some ((encS (enc2 encT (encS encT))) rules0)) (some (encF value0)) (some (encF a5)) none none none), rfl, rfl, D.bl, fun _ => ⟨rfl, rfl⟩, (evV_bind fun v6 h7 => (evV_bind fun v10 h11 => (evV ((evV_and (PV.o (pv_call (pl_cons (d' := encF a5) (pv_v rfl (own_F _)) (frz_F _) pl_nil) ((ok_law_count (n + 0) a5).get h7))) (fun _ => (evV_bind fun v8 h9 => (evV (pv_op (po_b rfl) (PV.o (pv_bi (pos_cons (po_b rfl) pos_nil) (bi_len_s _))) (oB_q h9)) rfl)))).q h11) rfl)))⟩)).q h13)) pos_nil) (tb_all _))))) rfl))))).q h15) (fun _ =>
  J_ret (pv_d (d' := (enc2 encF encF) ((⟨encT (("form").toList), rfl⟩ : FD), (⟨(encDc false D.int D.int) ([] : (List (Int × Int))), rfl⟩ : FD))) (pv_tup (pl_cons (d' := encF (⟨encT (("form").toList), rfl⟩ : FD)) (pv_cc (str_lit _)) rfl (pl_cons (d' := encF (⟨(encDc false D.int D.int) ([] : (List (Int × Int))), rfl⟩ : FD)) (pv_d (d' := (encDc true D.int D.int) ([] : (List (Int × Int)))) pv_dnew rfl) rfl pl_nil)) (len_le (n := 2) rfl (by decide))) rfl) (.inl rfl))
  (fun _ =>
  J_on <|
  J_ho fun v16 h17 =>
  J_ho fun v23 h24 =>
  J_asg (d' := (encL false encT) v23) (r2 := (R_law_due (some ((encS (enc2 encT (encS encT))) rules0)) (some (encF value0)) none (some ((encL false encT) v23)) none none)) ((evV_lc (f := encT) v16 encF (pi_seq (pv_v rfl (own_F _)) (oL_q h17)) (free_c (x := none) rfl nj_none free_n) rfl (fun a18 => ⟨(R_law_due (some ((encS (enc2 encT (encS encT))) rules0)) (some (encF value0)) (some (encF a18)) none none none), rfl, rfl, encT, fun _ => ⟨rfl, rfl⟩, (evV_bind fun v19 h20 => (evV_bind fun v21 h22 => (evV (pv_ix (PV.o (pv_ix (po_b rfl) (po_d (po_b rfl) (some_i (oI_q h20))) (ix_s h22))) (PV.o (pv_c _)) rfl) rfl)))⟩)).q h24) rfl rfl <|
  J_gd fun h25 =>
  J_ifX (PV.o (pv_op (PV.o (pv_un (po_b rfl) (un_lset_l KeyT.str h25))) (PV.o (pv_bi (pos_cons (po_b rfl) pos_nil) (bi_len_l _))) (op_lt _ _))) (fun _ =>
  J_ret (pv_d (d' := (enc2 encF encF) ((⟨encT (("form").toList), rfl⟩ : FD), (⟨(encDc false D.int D.int) ([] : (List (Int × Int))), rfl⟩ : FD))) (pv_tup (pl_cons (d' := encF (⟨encT (("form").toList), rfl⟩ : FD)) (pv_cc (str_lit _)) rfl (pl_cons (d' := encF (⟨(encDc false D.int D.int) ([] : (List (Int × Int))), rfl⟩ : FD)) (pv_d (d' := (encDc true D.int D.int) ([] : (List (Int × Int)))) pv_dnew rfl) rfl pl_nil)) (len_le (n := 2) rfl (by decide))) rfl) (.inl rfl))
  (fun _ =>
  J_on <|
  J_ho fun v26 h27 =>
  J_gd fun h28 =>
  J_forO (g := D.int) (E := (fun (s29 : Unit) r => ∃ j4_29 : Option D, r = (R_law_due (some ((encS (enc2 encT (encS encT))) rules0)) (some (encF value0)) none (some ((encL false encT) v23)) j4_29 none))) (f := (enc2 encF encF)) (rng v26) () (pi_rng (pos_cons (PV.o (pv_bi (pos_cons (po_b rfl) pos_nil) (oI_q h27))) pos_nil) (rangeD_1 h28)) ⟨none, rfl⟩ (fun a29 s29 r hr => (by obtain ⟨j4_29, rfl⟩ := hr; exact (
  ⟨(R_law_due (some ((encS (enc2 encT (encS encT))) rules0)) (some (encF value0)) none (some ((encL false encT) v23)) (some (D.int a29)) none), rfl,
  J_ho fun v30 h31 =>
  J_ho fun v32 h33 =>
  J_ho fun v34 h35 =>
  J_ho fun v37 h38 =>
  J_ifX (PV.o (pv_not (PV.o (pv_bi (pos_cons (PV.o ((evV_lc (f := D.bl) v34.2 encT (pi_seq (pv_ix (PV.o (pv_ix (po_b rfl) (PV.o (pv_d (pv_ix (po_b rfl) (po_b rfl) (oF_q h31)) (some_i (oI_q h33)))) (ix_s h35))) (PV.o (pv_c _)) rfl) (it_s _)) (free_c (x := none) rfl nj_none free_n) rfl (fun a36 => ⟨(R_law_due (some ((encS (enc2 encT (encS encT))) rules0)) (some (encF value0)) none (some ((encL false encT) v23)) (some (D.int a29)) (some (encT a36))), rfl, rfl, D.bl, fun _ => ⟨rfl, rfl⟩, (evV (pv_or (PV.o (pv_op (po_b rfl) (PV.o (pv_cc (str_lit _))) (op_in_t _ _))) (pv_op (po_b rfl) (PV.o (pv_sl (po_b rfl) pb_no (pb_at (po_b rfl)) (sl_l _ _ _))) (op_in_l (PlT.str (k := 0)) (by decide) _ _))) rfl)⟩)).q h38)) pos_nil) (tb_all _))))) (fun _ =>
  J_ret (pv_d (d' := (enc2 encF encF) ((⟨D.int a29, rfl⟩ : FD), (⟨(encDc false D.int D.int) ([] : (List (Int × Int))), rfl⟩ : FD))) (pv_tup (pl_cons (d' := encF (⟨D.int a29, rfl⟩ : FD)) (pv_v rfl rfl) rfl (pl_cons (d' := encF (⟨(encDc false D.int D.int) ([] : (List (Int × Int))), rfl⟩ : FD)) (pv_d (d' := (encDc true D.int D.int) ([] : (List (Int × Int)))) pv_dnew rfl) rfl pl_nil)) (len_le (n := 2) rfl (by decide))) rfl) pO_rt)
  (fun _ =>
  J_on <|
  J_nil ⟨_, rfl, (some (D.int a29)), rfl⟩)⟩)))
  (fun s29 r hr => (by obtain ⟨j4_29, rfl⟩ := hr; exact (
  J_ret (pv_d (d' := (enc2 encF encF) ((⟨encU (), rfl⟩ : FD), (⟨(encL false encT) v23, rfl⟩ : FD))) (pv_tup (pl_cons (d' := encF (⟨encU (), rfl⟩ : FD)) (pv_cc rfl) rfl (pl_cons (d' := encF (⟨(encL false encT) v23, rfl⟩ : FD)) (pv_v rfl rfl) rfl pl_nil)) (len_le (n := 2) rfl (by decide))) rfl) (.inl rfl))))
  (fun _ => J_rtF))))

abbrev R_law_bent (x0 x1 x2 x3 x4 x5 x6 x7 x8 x9 x10 x11 : Option D) : Rho := [x0, x1, x2, x3, x4, x5, x6, x7, x8, x9, x10, x11]
def F_law_bent (draws0 : (List Int)) (rules0 : (List (Tx × (List Tx)))) (plan0 : (List Int)) : M (List FD) :=
  gd (small62 (rules0.length : Int) = true) <|
  gd ((rng (rules0.length : Int)).length ≤ sizeLine) <|
  let_ (([] : List Int)) fun drawn3 =>
  let_ ((rng (rules0.length : Int))) fun left4 =>
  gd (small62 (rules0.length : Int) = true) <|
  (loop (ρ := (List FD)) (fun (a6 : Int) (s6 : (List Int) × (List Int)) =>
  gd (0 < (draws0.length : Int)) <|
  M.ofO (atT draws0 (a6 % (draws0.length : Int))) fun v8 =>
  gd (0 < (s6.2.length : Int)) <|
  M.ofO (atT s6.2 (v8 % (s6.2.length : Int))) fun v11 =>
  M.ofO (gO (s6.2.length ≤ sizeLine) (lcO (fun (a13 : Int) => (atT rules0 a13).bind fun v14 => (atT rules0 v11).bind fun v16 => some (!decide (v14.1 = v16.1))) (fun (a13 : Int) => some a13) s6.2)) fun v18 =>
  gd (s6.1.length < sizeLine) <|
  let_ (s6.1 ++ [v11]) fun drawn21 =>
  (if (decide ((v18.length : Int) = (0 : Int))) then (.ok (.bk (drawn21, v18))) else (.ok (.nx (drawn21, v18))))) (rng (rules0.length : Int)) (drawn3, left4)).bind fun
  | .rt v72 => .ok v72
  | .nx s6 =>
  gd (plan0.length + (cutT plan0 (some (-1 : Int)) none).length ≤ sizeLine) <|
  gd (small62 (rules0.length : Int) = true) <|
  gd ((rng (rules0.length : Int)).length ≤ sizeLine) <|
  let_ (([(⟨(encS D.int) plan0, rfl⟩ : FD), (⟨(encL false D.int) plan0, rfl⟩ : FD), (⟨encU (), rfl⟩ : FD), (⟨D.int (7 : Int), rfl⟩ : FD), (⟨(encS D.int) [], rfl⟩ : FD), (⟨(encS D.int) (cutT plan0 (some (1 : Int)) none), rfl⟩ : FD), (⟨(encS D.int) (cutT plan0 none (some (-1 : Int))), rfl⟩ : FD), (⟨(encS D.int) plan0.reverse, rfl⟩ : FD), (⟨(encS D.int) (plan0 ++ (cutT plan0 (some (-1 : Int)) none)), rfl⟩ : FD), (⟨(encS D.int) s6.1, rfl⟩ : FD), (⟨(encS D.int) (rng (rules0.length : Int)), rfl⟩ : FD)] : List FD)) fun found25 =>
  M.ofO (gO (([(⟨D.int (rules0.length : Int), rfl⟩ : FD), (⟨D.int (-1 : Int), rfl⟩ : FD), (⟨D.bl true, rfl⟩ : FD), (⟨encU (), rfl⟩ : FD), (⟨encT (("0").toList), rfl⟩ : FD)] : List FD).length ≤ sizeLine) (lcO (fun _ => some true) (fun (a26 : FD) => gO ((plan0.map (mkF D.int (fun _ => rfl))).length + [a26].length ≤ sizeLine) (some ((plan0.map (mkF D.int (fun _ => rfl))) ++ [a26]))) ([(⟨D.int (rules0.length : Int), rfl⟩ : FD), (⟨D.int (-1 : Int), rfl⟩ : FD), (⟨D.bl true, rfl⟩ : FD), (⟨encU (), rfl⟩ : FD), (⟨encT (("0").toList), rfl⟩ : FD)] : List FD))) fun v28 =>
  gd (found25.length + (v28.map (mkF (encS encF) (fun _ => rfl))).length ≤ sizeLine) <|
  let_ ((found25 ++ (v28.map (mkF (encS encF) (fun _ => rfl))))) fun found31 =>
  (if (decide ((0 : Int) < (plan0.length : Int))) then (M.ofO (atT draws0 (0 : Int)) fun v32 =>
  gd (0 < (plan0.length : Int)) <|
  M.ofO (atT draws0 (1 : Int)) fun v35 =>
  gd (0 < (plan0.length : Int)) <|
  let_ ((v32 % (plan0.length : Int))) fun at38 =>
  let_ ((v35 % (plan0.length : Int))) fun other39 =>
  M.ofO (atT plan0 other39) fun v40 =>
  M.ofO (atT plan0 at38) fun v42 =>
  M.ofO (setT plan0 at38 v40) fun rows44 =>
  M.ofO (setT rows44 other39 v42) fun rows46 =>
  gd ((cutT plan0 none (some at38)).length + (cutT plan0 (some (at38 + (1 : Int))) none).length ≤ sizeLine) <|
  M.ofO (atT draws0 (2 : Int)) fun v61 =>
  gd (0 < (rules0.length : Int)) <|
  gd ((cutT plan0 none (some at38)).length + [(v61 % (rules0.length : Int))].length ≤ sizeLine) <|
  gd (((cutT plan0 none (some at38)) ++ [(v61 % (rules0.length : Int))]).length + (cutT plan0 (some (at38 + (1 : Int))) none).length ≤ sizeLine) <|
  gd (found31.length + ([(⟨(encS D.int) rows46, rfl⟩ : FD), (⟨(encS D.int) ((cutT plan0 none (some at38)) ++ (cutT plan0 (some (at38 + (1 : Int))) none)), rfl⟩ : FD), (⟨(encS D.int) (((cutT plan0 none (some at38)) ++ [(v61 % (rules0.length : Int))]) ++ (cutT plan0 (some (at38 + (1 : Int))) none)), rfl⟩ : FD)] : List FD).length ≤ sizeLine) <|
  let_ ((found31 ++ ([(⟨(encS D.int) rows46, rfl⟩ : FD), (⟨(encS D.int) ((cutT plan0 none (some at38)) ++ (cutT plan0 (some (at38 + (1 : Int))) none)), rfl⟩ : FD), (⟨(encS D.int) (((cutT plan0 none (some at38)) ++ [(v61 % (rules0.length : Int))]) ++ (cutT plan0 (some (at38 + (1 : Int))) none)), rfl⟩ : FD)] : List FD))) fun found67 =>
  .ok found67) else (.ok found31)).bind fun s68 =>
  .ok s68
theorem ok_law_bent (n : Nat) (draws0 : (List Int)) (rules0 : (List (Tx × (List Tx)))) (plan0 : (List Int)) : JF ((prg.phi (n + 1)).fn 19 [(encL false D.int) draws0, (encS (enc2 encT (encS encT))) rules0, (encS D.int) plan0]) (F_law_bent draws0 rules0 plan0) (encL false encF) := by
  refine JF_fn (fi := ⟨3, 12, bd19⟩) rfl rfl (JF_run (r := (R_law_bent (some ((encL false D.int) draws0)) (some ((encS (enc2 encT (encS encT))) rules0)) (some ((encS D.int) plan0)) none none none none none none none none none)) rfl ?_)
  unfold F_law_bent
  exact (
  J_gd fun h1 =>
  J_gd fun h2 =>
  J_let fun drawn3 e_drawn3 => J_let fun left4 e_left4 => J_par (r3 := (R_law_bent (some ((encL false D.int) draws0)) (some ((encS (enc2 encT (encS encT))) rules0)) (some ((encS D.int) plan0)) (some ((encL true D.int) drawn3)) (some ((encL false D.int) left4)) none none none none none none none)) (a := (encL true D.int) drawn3) (b := (encL false D.int) left4) (pv_d (pv_d (d' := (encL true D.int) ([] : List Int)) (pv_lst pl_nil (len_le (n := 0) rfl (by decide))) rfl) (congrArg (encL true D.int) e_drawn3.symm)) (pv_d (pv_rgl (tup := false) (pos_cons (PV.o (pv_bi (pos_cons (po_b rfl) pos_nil) (bi_len_s _))) pos_nil) (rangeD_1 h1) h2) (congrArg (encL true D.int) e_left4.symm)) (by decide) (of_decide_eq_true rfl) (of_decide_eq_true rfl) (.inr rfl) (.inr rfl) rfl rfl rfl <|
  J_gd fun h5 =>
  J_forO (g := D.int) (E := (fun (s6 : (List Int) × (List Int)) r => ∃ j5_6 : Option D, ∃ j6_6 : Option D, r = (R_law_bent (some ((encL false D.int) draws0)) (some ((encS (enc2 encT (encS encT))) rules0)) (some ((encS D.int) plan0)) (some ((encL true D.int) s6.1)) (some ((encL false D.int) s6.2)) j5_6 j6_6 none none none none none))) (f := (encL false encF)) (rng (rules0.length : Int)) (drawn3, left4) (pi_rng (pos_cons (PV.o (pv_bi (pos_cons (po_b rfl) pos_nil) (bi_len_s _))) pos_nil) (rangeD_1 h5)) ⟨none, none, rfl⟩ (fun a6 s6 r hr => (by obtain ⟨j5_6, j6_6, rfl⟩ := hr; exact (
  ⟨(R_law_bent (some ((encL false D.int) draws0)) (some ((encS (enc2 encT (encS encT))) rules0)) (some ((encS D.int) plan0)) (some ((encL true D.int) s6.1)) (some ((encL false D.int) s6.2)) (some (D.int a6)) j6_6 none none none none none), rfl,
  J_gd fun h7 =>
  J_ho fun v8 h9 =>
  J_gd fun h10 =>
  J_ho fun v11 h12 =>
  J_asg (d' := D.int v11) (r2 := (R_law_bent (some ((encL false D.int) draws0)) (some ((encS (enc2 encT (encS encT))) rules0)) (some ((encS D.int) plan0)) (some ((encL true D.int) s6.1)) (some ((encL false D.int) s6.2)) (some (D.int a6)) (some (D.int v11)) none none none none none)) (pv_ix (po_b rfl) (PV.o (pv_op (PV.o (pv_bi (pos_cons (PV.o (pv_ix (po_b rfl) (PV.o (pv_op (po_b rfl) (PV.o (pv_bi (pos_cons (po_b rfl) pos_nil) (bi_len_l _))) (op_mod h7))) (ix_l h9))) pos_nil) rfl)) (PV.o (pv_bi (pos_cons (po_b rfl) pos_nil) (bi_len_l _))) (op_mod h10))) (ix_l h12)) rfl rfl <|
  J_ho fun v18 h19 =>
  J_asg (d' := (encL false D.int) v18) (r2 := (R_law_bent (some ((encL false D.int) draws0)) (some ((encS (enc2 encT (encS encT))) rules0)) (some ((encS D.int) plan0)) (some ((encL true D.int) s6.1)) (some ((encL false D.int) v18)) (some (D.int a6)) (some (D.int v11)) none none none none none)) ((evV_lcif (f := D.int) s6.2 D.int (pi_seq (pv_v rfl rfl) (it_l _)) (free_c (x := none) rfl nj_none free_n) rfl (fun a13 => ⟨(R_law_bent (some ((encL false D.int) draws0)) (some ((encS (enc2 encT (encS encT))) rules0)) (some ((encS D.int) plan0)) (some ((encL true D.int) s6.1)) (some ((encL false D.int) s6.2)) (some (D.int a6)) (some (D.int v11)) (some (D.int a13)) none none none none), rfl, rfl, (evO_bind fun v14 h15 => (evO_bind fun v16 h17 => (evO (PV.o (pv_op (PV.o (pv_ix (PV.o (pv_ix (po_b rfl) (po_b rfl) (ix_s h15))) (PV.o (pv_c _)) rfl)) (PV.o (pv_ix (PV.o (pv_ix (po_b rfl) (po_b rfl) (ix_s h17))) (PV.o (pv_c _)) rfl)) (op_ne (PlT.str (k := 0)) (by decide) _ _))) rfl))), D.int, fun _ => ⟨rfl, rfl⟩, (evV (pv_v rfl rfl) rfl)⟩)).q h19) rfl rfl <|
  J_gd fun h20 =>
  J_appL (pv_v rfl rfl) rfl rfl rfl h20 rfl fun drawn21 =>
  J_r (r2 := (R_law_bent (some ((encL false D.int) draws0)) (some ((encS (enc2 encT (encS encT))) rules0)) (some ((encS D.int) plan0)) (some ((encL true D.int) drawn21)) (some ((encL false D.int) v18)) (some (D.int a6)) (some (D.int v11)) none none none none none)) rfl <|
  J_ifX (PV.o (pv_op (PV.o (pv_bi (pos_cons (po_b rfl) pos_nil) (bi_len_l _))) (PV.o (pv_c _)) (op_eq (PlT.int (k := 0)) (by decide) _ _))) (fun _ =>
  J_brk ⟨_, rfl, (some (D.int a6)), (some (D.int v11)), rfl⟩)
  (fun _ =>
  J_on <|
  J_nil ⟨_, rfl, (some (D.int a6)), (some (D.int v11)), rfl⟩)⟩)))
  (fun s6 r hr => (by obtain ⟨j5_6, j6_6, rfl⟩ := hr; exact (
  J_ex (d := (encL false D.int) s6.1) (r1 := (R_law_bent (some ((encL false D.int) draws0)) (some ((encS (enc2 encT (encS encT))) rules0)) (some ((encS D.int) plan0)) (some ((encL false D.int) s6.1)) (some ((encL false D.int) s6.2)) j5_6 j6_6 none none none none none)) (pv_vo rfl rfl rfl) <|
  J_gd fun h22 =>
  J_gd fun h23 =>
  J_gd fun h24 =>
  J_asgL (f := (encL true encF)) (f' := (encL false encF)) (pv_d (d' := (encL true encF) ([(⟨(encS D.int) plan0, rfl⟩ : FD), (⟨(encL false D.int) plan0, rfl⟩ : FD), (⟨encU (), rfl⟩ : FD), (⟨D.int (7 : Int), rfl⟩ : FD), (⟨(encS D.int) [], rfl⟩ : FD), (⟨(encS D.int) (cutT plan0 (some (1 : Int)) none), rfl⟩ : FD), (⟨(encS D.int) (cutT plan0 none (some (-1 : Int))), rfl⟩ : FD), (⟨(encS D.int) plan0.reverse, rfl⟩ : FD), (⟨(encS D.int) (plan0 ++ (cutT plan0 (some (-1 : Int)) none)), rfl⟩ : FD), (⟨(encS D.int) s6.1, rfl⟩ : FD), (⟨(encS D.int) (rng (rules0.length : Int)), rfl⟩ : FD)] : List FD)) (pv_lst (pl_cons (d' := encF (⟨(encS D.int) plan0, rfl⟩ : FD)) (pv_v rfl rfl) rfl (pl_cons (d' := encF (⟨(encL false D.int) plan0, rfl⟩ : FD)) (pv_bi (pos_cons (po_b rfl) pos_nil) (bi_list_s _)) rfl (pl_cons (d' := encF (⟨encU (), rfl⟩ : FD)) (pv_cc rfl) rfl (pl_cons (d' := encF (⟨D.int (7 : Int), rfl⟩ : FD)) (pv_c _) rfl (pl_cons (d' := encF (⟨(encS D.int) [], rfl⟩ : FD)) (pv_d (d' := (encS D.int) []) (pv_tup pl_nil (len_le (n := 0) rfl (by decide))) rfl) rfl (pl_cons (d' := encF (⟨(encS D.int) (cutT plan0 (some (1 : Int)) none), rfl⟩ : FD)) (pv_sl (po_b rfl) (pb_at (PV.o (pv_c _))) pb_no (sl_s _ _ _)) rfl (pl_cons (d' := encF (⟨(encS D.int) (cutT plan0 none (some (-1 : Int))), rfl⟩ : FD)) (pv_sl (po_b rfl) pb_no (pb_at (PV.o (pv_neg (PV.o (pv_c _))))) (sl_s _ _ _)) rfl (pl_cons (d' := encF (⟨(encS D.int) plan0.reverse, rfl⟩ : FD)) (pv_un (po_b rfl) (un_rev_s _)) rfl (pl_cons (d' := encF (⟨(encS D.int) (plan0 ++ (cutT plan0 (some (-1 : Int)) none)), rfl⟩ : FD)) (pv_op (po_b rfl) (PV.o (pv_sl (po_b rfl) (pb_at (PV.o (pv_neg (PV.o (pv_c _))))) pb_no (sl_s _ _ _))) (op_add_s h22)) rfl (pl_cons (d' := encF (⟨(encS D.int) s6.1, rfl⟩ : FD)) (pv_bi (pos_cons (po_b rfl) pos_nil) (bi_tuple_l _)) rfl (pl_cons (d' := encF (⟨(encS D.int) (rng (rules0.length : Int)), rfl⟩ : FD)) (pv_rgl (tup := true) (pos_cons (PV.o (pv_bi (pos_cons (po_b rfl) pos_nil) (bi_len_s _))) pos_nil) (rangeD_1 h23) h24) rfl pl_nil))))))))))) (len_le (n := 11) rfl (by decide))) rfl) (fun _ => rfl) fun found25 => ⟨(R_law_bent (some ((encL false D.int) draws0)) (some ((encS (enc2 encT (encS encT))) rules0)) (some ((encS D.int) plan0)) (some ((encL false D.int) s6.1)) (some ((encL false D.int) s6.2)) j5_6 j6_6 none (some ((encL false encF) found25)) none none none), rfl,
  J_ho fun v28 h29 =>
  J_gd fun h30 =>
  J_asgL (f := (encL true encF)) (f' := (encL false encF)) (pv_op (po_b rfl) (PV.o (pv_d ((evV_lc (f := (encS encF)) ([(⟨D.int (rules0.length : Int), rfl⟩ : FD), (⟨D.int (-1 : Int), rfl⟩ : FD), (⟨D.bl true, rfl⟩ : FD), (⟨encU (), rfl⟩ : FD), (⟨encT (("0").toList), rfl⟩ : FD)] : List FD) encF (pi_seq (pv_d (d' := (encL true encF) ([(⟨D.int (rules0.length : Int), rfl⟩ : FD), (⟨D.int (-1 : Int), rfl⟩ : FD), (⟨D.bl true, rfl⟩ : FD), (⟨encU (), rfl⟩ : FD), (⟨encT (("0").toList), rfl⟩ : FD)] : List FD)) (pv_lst (pl_cons (d' := encF (⟨D.int (rules0.length : Int), rfl⟩ : FD)) (pv_bi (pos_cons (po_b rfl) pos_nil) (bi_len_s _)) rfl (pl_cons (d' := encF (⟨D.int (-1 : Int), rfl⟩ : FD)) (pv_neg (PV.o (pv_c _))) rfl (pl_cons (d' := encF (⟨D.bl true, rfl⟩ : FD)) (pv_c _) rfl (pl_cons (d' := encF (⟨encU (), rfl⟩ : FD)) (pv_cc rfl) rfl (pl_cons (d' := encF (⟨encT (("0").toList), rfl⟩ : FD)) (pv_cc (str_lit _)) rfl pl_nil))))) (len_le (n := 5) rfl (by decide))) rfl) (it_l _)) (free_c (x := none) rfl nj_none free_n) rfl (fun a26 => ⟨(R_law_bent (some ((encL false D.int) draws0)) (some ((encS (enc2 encT (encS encT))) rules0)) (some ((encS D.int) plan0)) (some ((encL false D.int) s6.1)) (some ((encL false D.int) s6.2)) j5_6 j6_6 none (some ((encL false encF) found25)) (some (encF a26)) none none), rfl, rfl, (encS encF), fun _ => ⟨rfl, rfl⟩, (evV_gO fun h27 => (evV (pv_op (po_d (po_b rfl) (encS_F (fun _ => rfl) _)) (PV.o (pv_d (d' := (encS encF) [a26]) (pv_tup (pl_cons (d' := encF a26) (pv_v rfl (own_F _)) (frz_F _) pl_nil) (len_le (n := 1) rfl (by decide))) rfl)) (op_add_s h27)) rfl))⟩)).q h29) (encL_F (fun _ => rfl) _))) (op_add_l h30)) (fun _ => rfl) fun found31 => ⟨(R_law_bent (some ((encL false D.int) draws0)) (some ((encS (enc2 encT (encS encT))) rules0)) (some ((encS D.int) plan0)) (some ((encL false D.int) s6.1)) (some ((encL false D.int) s6.2)) j5_6 j6_6 none (some ((encL false encF) found31)) none none none), rfl,
  J_ifN (E := (fun (s68 : (List FD)) r => ∃ j69 : Option D, ∃ j70 : Option D, ∃ j71 : Option D, NJ j69 ∧ r = (R_law_bent (some ((encL false D.int) draws0)) (some ((encS (enc2 encT (encS encT))) rules0)) (some ((encS D.int) plan0)) (some ((encL false D.int) s6.1)) (some ((encL false D.int) s6.2)) j5_6 j6_6 j69 (some ((encL false encF) s68)) none j70 j71))) (PV.o (pv_op (PV.o (pv_bi (pos_cons (po_b rfl) pos_nil) (bi_len_s _))) (PV.o (pv_c _)) (op_gt _ _))) (fun _ =>
  J_ho fun v32 h33 =>
  J_gd fun h34 =>
  J_ho fun v35 h36 =>
  J_gd fun h37 =>
  J_let fun at38 e_at38 => J_let fun other39 e_other39 => J_par (r3 := (R_law_bent (some ((encL false D.int) draws0)) (some ((encS (enc2 encT (encS encT))) rules0)) (some ((encS D.int) plan0)) (some ((encL false D.int) s6.1)) (some ((encL false D.int) s6.2)) j5_6 j6_6 (some (D.int other39)) (some ((encL false encF) found31)) none (some (D.int at38)) none)) (a := D.int at38) (b := D.int other39) (pv_d (pv_op (PV.o (pv_bi (pos_cons (PV.o (pv_ix (po_b rfl) (PV.o (pv_c _)) (ix_l h33))) pos_nil) rfl)) (PV.o (pv_bi (pos_cons (po_b rfl) pos_nil) (bi_len_s _))) (op_mod h34)) (congrArg D.int e_at38.symm)) (pv_d (pv_op (PV.o (pv_bi (pos_cons (PV.o (pv_ix (po_b rfl) (PV.o (pv_c _)) (ix_l h36))) pos_nil) rfl)) (PV.o (pv_bi (pos_cons (po_b rfl) pos_nil) (bi_len_s _))) (op_mod h37)) (congrArg D.int e_other39.symm)) (by decide) (of_decide_eq_true rfl) (of_decide_eq_true rfl) (.inr rfl) (.inr rfl) rfl rfl rfl <|
  J_asg (d' := (encL true D.int) plan0) (r2 := (R_law_bent (some ((encL false D.int) draws0)) (some ((encS (enc2 encT (encS encT))) rules0)) (some ((encS D.int) plan0)) (some ((encL false D.int) s6.1)) (some ((encL false D.int) s6.2)) j5_6 j6_6 (some (D.int other39)) (some ((encL false encF) found31)) none (some (D.int at38)) (some ((encL true D.int) plan0)))) (pv_bi (pos_cons (po_b rfl) pos_nil) (bi_list_s _)) rfl rfl <|
  J_ho fun v40 h41 =>
  J_ho fun v42 h43 =>
  J_ho fun rows44 h45 =>
  J_ho fun rows46 h47 =>
  J_put2 (d1 := D.int v40) (d2 := D.int v42) (r2 := (R_law_bent (some ((encL false D.int) draws0)) (some ((encS (enc2 encT (encS encT))) rules0)) (some ((encS D.int) plan0)) (some ((encL false D.int) s6.1)) (some ((encL false D.int) s6.2)) j5_6 j6_6 (some (D.int other39)) (some ((encL false encF) found31)) none (some (D.int at38)) (some ((encL true D.int) rows44)))) (r3 := (R_law_bent (some ((encL false D.int) draws0)) (some ((encS (enc2 encT (encS encT))) rules0)) (some ((encS D.int) plan0)) (some ((encL false D.int) s6.1)) (some ((encL false D.int) s6.2)) j5_6 j6_6 (some (D.int other39)) (some ((encL false encF) found31)) none (some (D.int at38)) (some ((encL true D.int) rows46)))) (pv_tup (pl_cons (d' := D.int v40) (pv_ix (po_b rfl) (po_b rfl) (ix_l h41)) rfl (pl_cons (d' := D.int v42) (pv_ix (po_b rfl) (po_b rfl) (ix_l h43)) rfl pl_nil)) (len_le (n := 2) rfl (by decide))) rfl (po_b rfl) (put_l h45) rfl rfl (po_b rfl) (put_l h47) rfl <|
  J_ex (d := (encL false D.int) rows46) (r1 := (R_law_bent (some ((encL false D.int) draws0)) (some ((encS (enc2 encT (encS encT))) rules0)) (some ((encS D.int) plan0)) (some ((encL false D.int) s6.1)) (some ((encL false D.int) s6.2)) j5_6 j6_6 (some (D.int other39)) (some ((encL false encF) found31)) none (some (D.int at38)) (some ((encL false D.int) rows46)))) (pv_vo rfl rfl rfl) <|
  J_gd fun h57 =>
  J_ho fun v61 h62 =>
  J_gd fun h63 =>
  J_gd fun h64 =>
  J_gd fun h65 =>
  J_gd fun h66 =>
  J_asgL (f := (encL true encF)) (f' := (encL false encF)) (pv_op (po_b rfl) (PV.o (pv_d (d' := (encL true encF) ([(⟨(encS D.int) rows46, rfl⟩ : FD), (⟨(encS D.int) ((cutT plan0 none (some at38)) ++ (cutT plan0 (some (at38 + (1 : Int))) none)), rfl⟩ : FD), (⟨(encS D.int) (((cutT plan0 none (some at38)) ++ [(v61 % (rules0.length : Int))]) ++ (cutT plan0 (some (at38 + (1 : Int))) none)), rfl⟩ : FD)] : List FD)) (pv_lst (pl_cons (d' := encF (⟨(encS D.int) rows46, rfl⟩ : FD)) (pv_bi (pos_cons (po_b rfl) pos_nil) (bi_tuple_l _)) rfl (pl_cons (d' := encF (⟨(encS D.int) ((cutT plan0 none (some at38)) ++ (cutT plan0 (some (at38 + (1 : Int))) none)), rfl⟩ : FD)) (pv_op (PV.o (pv_sl (po_b rfl) pb_no (pb_at (po_b rfl)) (sl_s _ _ _))) (PV.o (pv_sl (po_b rfl) (pb_at (PV.o (pv_op (po_b rfl) (PV.o (pv_c _)) (op_add _ _)))) pb_no (sl_s _ _ _))) (op_add_s h57)) rfl (pl_cons (d' := encF (⟨(encS D.int) (((cutT plan0 none (some at38)) ++ [(v61 % (rules0.length : Int))]) ++ (cutT plan0 (some (at38 + (1 : Int))) none)), rfl⟩ : FD)) (pv_op (PV.o (pv_op (PV.o (pv_sl (po_b rfl) pb_no (pb_at (po_b rfl)) (sl_s _ _ _))) (PV.o (pv_d (d' := (encS D.int) [(v61 % (rules0.length : Int))]) (pv_tup (pl_cons (d' := D.int (v61 % (rules0.length : Int))) (pv_op (PV.o (pv_bi (pos_cons (PV.o (pv_ix (po_b rfl) (PV.o (pv_c _)) (ix_l h62))) pos_nil) rfl)) (PV.o (pv_bi (pos_cons (po_b rfl) pos_nil) (bi_len_s _))) (op_mod h63)) rfl pl_nil) (len_le (n := 1) rfl (by decide))) rfl)) (op_add_s h64))) (PV.o (pv_sl (po_b rfl) (pb_at (PV.o (pv_op (po_b rfl) (PV.o (pv_c _)) (op_add _ _)))) pb_no (sl_s _ _ _))) (op_add_s h65)) rfl pl_nil))) (len_le (n := 3) rfl (by decide))) rfl)) (op_add_l h66)) (fun _ => rfl) fun found67 => ⟨(R_law_bent (some ((encL false D.int) draws0)) (some ((encS (enc2 encT (encS encT))) rules0)) (some ((encS D.int) plan0)) (some ((encL false D.int) s6.1)) (some ((encL false D.int) s6.2)) j5_6 j6_6 (some (D.int other39)) (some ((encL false encF) found67)) none (some (D.int at38)) (some ((encL false D.int) rows46))), rfl,
  J_nil ⟨_, rfl, (some (D.int other39)), (some (D.int at38)), (some ((encL false D.int) rows46)), (nj_some rfl), rfl⟩⟩)
  (fun _ =>
  J_nil ⟨_, rfl, none, none, none, nj_none, rfl⟩)
  fun s68 r hr => (by obtain ⟨j69, j70, j71, hn_j69, rfl⟩ := hr; exact (
  J_ret (pv_mv rfl) (.inl rfl)))⟩⟩)))
  (fun _ => J_rtF))

abbrev R_law_refused (x0 x1 x2 x3 : Option D) : Rho := [x0, x1, x2, x3]
def F_law_refused (grammar0 : Gram) (prices0 : (List Int)) (value0 : FD) : M Bool :=
  M.tri (α := Unit) ((F_plan_costs grammar0 prices0 value0).bind fun _ =>
  .ok ()) (fun s1 =>
  .ok false) (fun n2 => (if prg.sub n2 0 then (if prg.sub n2 3 then .ok true else .ok false) else .er n2))
theorem ok_law_refused (n : Nat) (grammar0 : Gram) (prices0 : (List Int)) (value0 : FD) : JF ((prg.phi (n + 5)).fn 20 [(encGram false) grammar0, (encS D.int) prices0, encF value0]) (F_law_refused grammar0 prices0 value0) D.bl := by
  refine JF_fn (fi := ⟨3, 4, bd20⟩) rfl rfl (JF_run (r := (R_law_refused (some ((encGram false) grammar0)) (some ((encS D.int) prices0)) (some (encF value0)) none)) rfl ?_)
  unfold F_law_refused
  exact (
  J_tryA (E1 := (fun r => r = (R_law_refused (some ((encGram false) grammar0)) (some ((encS D.int) prices0)) (some (encF value0)) none))) (Q1 := pN (fun (s1 : Unit) r => r = (R_law_refused (some ((encGram false) grammar0)) (some ((encS D.int) prices0)) (some (encF value0)) none))) (phi_ia _ _) (
  J_exX (evX_fn (pl_cons (d' := (encGram false) grammar0) (pv_v rfl rfl) rfl (pl_cons (d' := (encS D.int) prices0) (pv_v rfl rfl) rfl (pl_cons (d' := encF value0) (pv_v rfl (own_F _)) (frz_F _) pl_nil))) (ok_plan_costs (n + 0) grammar0 prices0 value0)) rfl fun _ _ =>
  J_nil ⟨_, rfl, rfl⟩) pN_er (J_trN fun s1 r hr => (by subst hr; exact (
  J_ret (pv_c _) (.inl rfl))))
  (fun r hr => (by subst hr; exact of_decide_eq_true rfl)) (fun n2 r hr => (by subst hr; exact (J_hA (phi_sub _ _) (.inl rfl) (.inl rfl) trivial))))

abbrev R_law (x0 x1 x2 x3 x4 x5 x6 x7 x8 x9 x10 x11 x12 x13 : Option D) : Rho := [x0, x1, x2, x3, x4, x5, x6, x7, x8, x9, x10, x11, x12, x13]
def F_law (script0 : (List Int)) : M Bool :=
  (F_law_draws script0 (60 : Int)).bind fun draws1 =>
  (loop (ρ := Bool) (fun (a2 : Int) (s2 : Unit) =>
  (F_law_rules (cutT draws1 (some ((4 : Int) + ((9 : Int) * a2))) (some ((18 : Int) + ((9 : Int) * a2)))) (6 : Int)).bind fun rules3 =>
  M.ofO ((F_Grammar___init (("S").toList) rules3).get) fun v4 =>
  M.ofO ((F_law_prices (cutT draws1 (some ((38 : Int) + ((4 : Int) * a2))) (some ((48 : Int) + ((4 : Int) * a2)))) (rules3.length : Int)).get) fun v6 =>
  let_ (v4) fun grammar8 =>
  let_ (v6) fun prices9 =>
  (F_law_costs rules3 prices9).bind fun least10 =>
  M.ofO ((F_cheapest grammar8 prices9).get) fun v11 =>
  M.ofO ((F_law_bent (cutT draws1 (some ((44 : Int) + ((3 : Int) * a2))) none) rules3 v11.1).get) fun v13 =>
  (loop (ρ := Bool) (fun (a15 : FD) (s15 : Unit) =>
  (F_law_due rules3 a15).bind fun p16 =>
  M.ofO ((F_plan_fault grammar8 a15).get) fun v17 =>
  M.ofO (oB (opD .ne (encF v17) (encF p16.1))) fun v19 =>
  M.ofO (if v19 then some true else ((F_law_refused grammar8 prices9 a15).get).bind fun v21 => (oB (opD .is_ (encF p16.1) (encU ()))).bind fun v23 => some (decide (v21 = v23))) fun v25 =>
  (if v25 then (.ok (.rt false)) else (M.ofO (oB (opD .is_ (encF p16.1) (encU ()))) fun v27 =>
  (if v27 then (let_ (([] : (List (Tx × Int)))) fun costs29 =>
  M.ofO (oL (itemsD (encF a15))) fun v30 =>
  (fold (fun (a32 : FD) (s32 : (List (Tx × Int))) =>
  M.ofO (oI (some (encF a32))) fun v33 =>
  M.ofO (atT prices9 v33) fun v35 =>
  M.ofO (oI (some (encF a32))) fun v37 =>
  M.ofO (atT rules3 v37) fun v39 =>
  M.ofO (gO (v39.2.length ≤ sizeLine) (lcO (fun (a41 : Tx) => some (!(inTx a41 (("ab").toList)))) (fun (a41 : Tx) => (dget s32 a41).bind fun v42 => some v42) v39.2)) fun v44 =>
  M.ofO (oI (some (encF a32))) fun v46 =>
  M.ofO (atT rules3 v46) fun v48 =>
  gd (s32.length < sizeLine) <|
  let_ (dput s32 v48.1 (v35 + v44.sum)) fun costs51 =>
  .ok costs51) v30 costs29).bind fun s32 =>
  M.ofO ((F_plan_costs grammar8 prices9 a15).get) fun v52 =>
  gd (sortOk ((s32.map (·.1)).map encT) = true) <|
  M.ofO (gO ((srtT encT (s32.map (·.1))).length ≤ sizeLine) (lcO (fun _ => some true) (fun (a55 : Tx) => (dget s32 a55).bind fun v56 => some (a55, v56)) (srtT encT (s32.map (·.1))))) fun v58 =>
  M.ofO (if (!decide (v52 = v58)) then some true else (gO ((s32.map (·.1)).length ≤ sizeLine) (lcO (fun _ => some true) (fun (a60 : Tx) => (dget s32 a60).bind fun v61 => (dget least10 a60).bind fun v63 => some (decide (v61 < v63))) (s32.map (·.1)))).bind fun v65 => some (v65.any id)) fun v67 =>
  (if v67 then (.ok (.rt false)) else (.ok (.nx ())))) else (.ok (.nx ())))))) v13 ()).bind fun
  | .rt v69 => .ok (.rt v69)
  | .nx s15 =>
  .ok (.nx ())) (rng (4 : Int)) ()).bind fun
  | .rt v70 => .ok v70
  | .nx s2 =>
  .ok true
theorem ok_law (n : Nat) (script0 : (List Int)) : JF ((prg.phi (n + 6)).fn 21 [(encL false D.int) script0]) (F_law script0) D.bl := by
  refine JF_fn (fi := ⟨1, 14, bd21⟩) rfl rfl (JF_run (r := (R_law (some ((encL false D.int) script0)) none none none none none none none none none none none none none)) rfl ?_)
  unfold F_law
  exact (
  J_asgX (f' := (encL false D.int)) (evX_fn (pl_cons (d' := (encL false D.int) script0) (pv_v rfl rfl) rfl (pl_cons (d' := D.int (60 : Int)) (pv_c _) rfl pl_nil)) (ok_law_draws (n + 4) script0 (60 : Int))) trivial (fun _ => rfl) fun draws1 _ => ⟨(R_law (some ((encL false D.int) script0)) (some ((encL false D.int) draws1)) none none none none none none none none none none none none), rfl,
  J_forO (g := D.int) (E := (fun (s2 : Unit) r => ∃ j2_2 : Option D, ∃ j3_2 : Option D, ∃ j4_2 : Option D, ∃ j5_2 : Option D, ∃ j6_2 : Option D, ∃ j7_2 : Option D, ∃ j8_2 : Option D, ∃ j9_2 : Option D, ∃ j10_2 : Option D, ∃ j11_2 : Option D, r = (R_law (some ((encL false D.int) script0)) (some ((encL false D.int) draws1)) j2_2 j3_2 j4_2 j5_2 j6_2 j7_2 j8_2 j9_2 j10_2 j11_2 none none))) (f := D.bl) (rng (4 : Int)) () (pi_rng (pos_cons (PV.o (pv_c _)) pos_nil) (rangeD_1 (by decide +kernel))) ⟨none, none, none, none, none, none, none, none, none, none, rfl⟩ (fun a2 s2 r hr => (by obtain ⟨j2_2, j3_2, j4_2, j5_2, j6_2, j7_2, j8_2, j9_2, j10_2, j11_2, rfl⟩ := hr; exact (
  ⟨(R_law (some ((encL false D.int) script0)) (some ((encL false D.int) draws1)) (some (D.int a2)) j3_2 j4_2 j5_2 j6_2 j7_2 j8_2 j9_2 j10_2 j11_2 none none), rfl,
  J_asgX (f' := (encS (enc2 encT (encS encT)))) (evX_fn (pl_cons (d' := (encL false D.int) (cutT draws1 (some ((4 : Int) + ((9 : Int) * a2))) (some ((18 : Int) + ((9 : Int) * a2))))) (pv_sl (po_b rfl) (pb_at (PV.o (pv_op (PV.o (pv_c _)) (PV.o (pv_op (PV.o (pv_c _)) (po_b rfl) (op_mul (by simp only [Bool.or_eq_true]; exact .inl (by decide +kernel))))) (op_add _ _)))) (pb_at (PV.o (pv_op (PV.o (pv_c _)) (PV.o (pv_op (PV.o (pv_c _)) (po_b rfl) (op_mul (by simp only [Bool.or_eq_true]; exact .inl (by decide +kernel))))) (op_add _ _)))) (sl_l _ _ _)) rfl (pl_cons (d' := D.int (6 : Int)) (pv_c _) rfl pl_nil)) (ok_law_rules (n + 4) (cutT draws1 (some ((4 : Int) + ((9 : Int) * a2))) (some ((18 : Int) + ((9 : Int) * a2)))) (6 : Int))) trivial (fun _ => rfl) fun rules3 _ => ⟨(R_law (some ((encL false D.int) script0)) (some ((encL false D.int) draws1)) (some (D.int a2)) (some ((encS (enc2 encT (encS encT))) rules3)) j4_2 j5_2 j6_2 j7_2 j8_2 j9_2 j10_2 j11_2 none none), rfl,
  J_ho fun v4 h5 =>
  J_ho fun v6 h7 =>
  J_let fun grammar8 e_grammar8 => J_let fun prices9 e_prices9 => J_par (r3 := (R_law (some ((encL false D.int) script0)) (some ((encL false D.int) draws1)) (some (D.int a2)) (some ((encS (enc2 encT (encS encT))) rules3)) (some ((encGram false) grammar8)) (some ((encS D.int) prices9)) j6_2 j7_2 j8_2 j9_2 j10_2 j11_2 none none)) (a := (encGram false) grammar8) (b := (encS D.int) prices9) (pv_d (pv_new (pl_cons (d' := encT (("S").toList)) (pv_cc (str_lit _)) rfl (pl_cons (d' := (encS (enc2 encT (encS encT))) rules3) (pv_v rfl rfl) rfl pl_nil)) ((ok_Grammar___init (n + 1) (("S").toList) rules3).get h5)) (congrArg (encGram true) e_grammar8.symm)) (pv_d (pv_call (pl_cons (d' := (encL false D.int) (cutT draws1 (some ((38 : Int) + ((4 : Int) * a2))) (some ((48 : Int) + ((4 : Int) * a2))))) (pv_sl (po_b rfl) (pb_at (PV.o (pv_op (PV.o (pv_c _)) (PV.o (pv_op (PV.o (pv_c _)) (po_b rfl) (op_mul (by simp only [Bool.or_eq_true]; exact .inl (by decide +kernel))))) (op_add _ _)))) (pb_at (PV.o (pv_op (PV.o (pv_c _)) (PV.o (pv_op (PV.o (pv_c _)) (po_b rfl) (op_mul (by simp only [Bool.or_eq_true]; exact .inl (by decide +kernel))))) (op_add _ _)))) (sl_l _ _ _)) rfl (pl_cons (d' := D.int (rules3.length : Int)) (pv_bi (pos_cons (po_b rfl) pos_nil) (bi_len_s _)) rfl pl_nil)) ((ok_law_prices (n + 4) (cutT draws1 (some ((38 : Int) + ((4 : Int) * a2))) (some ((48 : Int) + ((4 : Int) * a2)))) (rules3.length : Int)).get h7)) (congrArg (encS D.int) e_prices9.symm)) (by decide) (of_decide_eq_true rfl) (of_decide_eq_true rfl) (.inr rfl) (.inr rfl) rfl rfl rfl <|
  J_asgX (f' := (encDc false encT D.int)) (evX_fn (pl_cons (d' := (encS (enc2 encT (encS encT))) rules3) (pv_v rfl rfl) rfl (pl_cons (d' := (encS D.int) prices9) (pv_v rfl rfl) rfl pl_nil)) (ok_law_costs (n + 4) rules3 prices9)) trivial (fun _ => rfl) fun least10 _ => ⟨(R_law (some ((encL false D.int) script0)) (some ((encL false D.int) draws1)) (some (D.int a2)) (some ((encS (enc2 encT (encS encT))) rules3)) (some ((encGram false) grammar8)) (some ((encS D.int) prices9)) (some ((encDc false encT D.int) least10)) j7_2 j8_2 j9_2 j10_2 j11_2 none none), rfl,
  J_ho fun v11 h12 =>
  J_ho fun v13 h14 =>
  J_forO (g := encF) (E := (fun (s15 : Unit) r => ∃ j7_15 : Option D, ∃ j8_15 : Option D, ∃ j9_15 : Option D, ∃ j10_15 : Option D, ∃ j11_15 : Option D, r = (R_law (some ((encL false D.int) script0)) (some ((encL false D.int) draws1)) (some (D.int a2)) (some ((encS (enc2 encT (encS encT))) rules3)) (some ((encGram false) grammar8)) (some ((encS D.int) prices9)) (some ((encDc false encT D.int) least10)) j7_15 j8_15 j9_15 j10_15 j11_15 none none))) (f := D.bl) v13 () (pi_seq (pv_call (pl_cons (d' := (encL false D.int) (cutT draws1 (some ((44 : Int) + ((3 : Int) * a2))) none)) (pv_sl (po_b rfl) (pb_at (PV.o (pv_op (PV.o (pv_c _)) (PV.o (pv_op (PV.o (pv_c _)) (po_b rfl) (op_mul (by simp only [Bool.or_eq_true]; exact .inl (by decide +kernel))))) (op_add _ _)))) pb_no (sl_l _ _ _)) rfl (pl_cons (d' := (encS (enc2 encT (encS encT))) rules3) (pv_v rfl rfl) rfl (pl_cons (d' := (encS D.int) v11.1) (pv_ix (PV.o (pv_call (pl_cons (d' := (encGram false) grammar8) (pv_v rfl rfl) rfl (pl_cons (d' := (encS D.int) prices9) (pv_v rfl rfl) rfl pl_nil)) ((ok_cheapest (n + 1) grammar8 prices9).get h12))) (PV.o (pv_c _)) rfl) rfl pl_nil))) ((ok_law_bent (n + 4) (cutT draws1 (some ((44 : Int) + ((3 : Int) * a2))) none) rules3 v11.1).get h14)) (it_l _)) ⟨j7_2, j8_2, j9_2, j10_2, j11_2, rfl⟩ (fun a15 s15 r hr => (by obtain ⟨j7_15, j8_15, j9_15, j10_15, j11_15, rfl⟩ := hr; exact (
  ⟨(R_law (some ((encL false D.int) script0)) (some ((encL false D.int) draws1)) (some (D.int a2)) (some ((encS (enc2 encT (encS encT))) rules3)) (some ((encGram false) grammar8)) (some ((encS D.int) prices9)) (some ((encDc false encT D.int) least10)) (some (encF a15)) j8_15 j9_15 j10_15 j11_15 none none), rfl,
  J_asgX (f' := (enc2 encF encF)) (evX_fn (pl_cons (d' := (encS (enc2 encT (encS encT))) rules3) (pv_v rfl rfl) rfl (pl_cons (d' := encF a15) (pv_v rfl (own_F _)) (frz_F _) pl_nil)) (ok_law_due (n + 3) rules3 a15)) trivial (fun _ => rfl) fun p16 _ => ⟨(R_law (some ((encL false D.int) script0)) (some ((encL false D.int) draws1)) (some (D.int a2)) (some ((encS (enc2 encT (encS encT))) rules3)) (some ((encGram false) grammar8)) (some ((encS D.int) prices9)) (some ((encDc false encT D.int) least10)) (some (encF a15)) (some (encF p16.1)) (some (encF p16.2)) j10_15 j11_15 none none), rfl,
  J_ho fun v17 h18 =>
  J_ho fun v19 h20 =>
  J_ho fun v25 h26 =>
  J_ifX ((evO_or (PV.o (pv_op (PV.o (pv_call (pl_cons (d' := (encGram false) grammar8) (pv_v rfl rfl) rfl (pl_cons (d' := encF a15) (pv_v rfl (own_F _)) (frz_F _) pl_nil)) ((ok_plan_fault (n + 2) grammar8 a15).get h18))) (po_b rfl) (oB_q h20))) (fun _ => (evO_bind fun v21 h22 => (evO_bind fun v23 h24 => (evO (PV.o (pv_op (PV.o (pv_call (pl_cons (d' := (encGram false) grammar8) (pv_v rfl rfl) rfl (pl_cons (d' := (encS D.int) prices9) (pv_v rfl rfl) rfl (pl_cons (d' := encF a15) (pv_v rfl (own_F _)) (frz_F _) pl_nil))) ((ok_law_refused (n + 0) grammar8 prices9 a15).get h22))) (PV.o (pv_op (po_b rfl) (PV.o (pv_cc rfl)) (oB_q h24))) (op_eq (PlT.bl (k := 0)) (by decide) _ _))) rfl))))).q h26) (fun _ =>
  J_ret (pv_c _) pO_rt)
  (fun _ =>
  J_on <|
  J_ho fun v27 h28 =>
  J_ifX (PV.o (pv_op (po_b rfl) (PV.o (pv_cc rfl)) (oB_q h28))) (fun _ =>
  J_asgL (f := (encDc true encT D.int)) (f' := (encDc true encT D.int)) (pv_d (d' := (encDc true encT D.int) ([] : (List (Tx × Int)))) pv_dnew rfl) (fun _ => rfl) fun costs29 => ⟨(R_law (some ((encL false D.int) script0)) (some ((encL false D.int) draws1)) (some (D.int a2)) (some ((encS (enc2 encT (encS encT))) rules3)) (some ((encGram false) grammar8)) (some ((encS D.int) prices9)) (some ((encDc false encT D.int) least10)) (some (encF a15)) (some (encF p16.1)) (some (encF p16.2)) (some ((encDc true encT D.int) costs29)) j11_15 none none), rfl,
  J_ho fun v30 h31 =>
  J_for (g := encF) (E := (fun (s32 : (List (Tx × Int))) r => ∃ j11_32 : Option D, r = (R_law (some ((encL false D.int) script0)) (some ((encL false D.int) draws1)) (some (D.int a2)) (some ((encS (enc2 encT (encS encT))) rules3)) (some ((encGram false) grammar8)) (some ((encS D.int) prices9)) (some ((encDc false encT D.int) least10)) (some (encF a15)) (some (encF p16.1)) (some (encF p16.2)) (some ((encDc true encT D.int) s32)) j11_32 none none))) v30 costs29 (pi_seq (pv_v rfl (own_F _)) (oL_q h31)) ⟨j11_15, rfl⟩ (fun a32 s32 r hr => (by obtain ⟨j11_32, rfl⟩ := hr; exact (
  ⟨(R_law (some ((encL false D.int) script0)) (some ((encL false D.int) draws1)) (some (D.int a2)) (some ((encS (enc2 encT (encS encT))) rules3)) (some ((encGram false) grammar8)) (some ((encS D.int) prices9)) (some ((encDc false encT D.int) least10)) (some (encF a15)) (some (encF p16.1)) (some (encF p16.2)) (some ((encDc true encT D.int) s32)) (some (encF a32)) none none), rfl,
  J_ho fun v33 h34 =>
  J_ho fun v35 h36 =>
  J_ho fun v37 h38 =>
  J_ho fun v39 h40 =>
  J_ho fun v44 h45 =>
  J_ho fun v46 h47 =>
  J_ho fun v48 h49 =>
  J_gd fun h50 =>
  J_putL (f := (encDc true encT D.int)) (pv_op (PV.o (pv_ix (po_b rfl) (po_d (po_b rfl) (some_i (oI_q h34))) (ix_s h36))) (PV.o (pv_bi (pos_cons (PV.o ((evV_lcif (f := D.int) v39.2 encT (pi_seq (pv_ix (PV.o (pv_ix (po_b rfl) (po_d (po_b rfl) (some_i (oI_q h38))) (ix_s h40))) (PV.o (pv_c _)) rfl) (it_s _)) (free_c (x := none) rfl nj_none free_n) rfl (fun a41 => ⟨(R_law (some ((encL false D.int) script0)) (some ((encL false D.int) draws1)) (some (D.int a2)) (some ((encS (enc2 encT (encS encT))) rules3)) (some ((encGram false) grammar8)) (some ((encS D.int) prices9)) (some ((encDc false encT D.int) least10)) (some (encF a15)) (some (encF p16.1)) (some (encF p16.2)) (some ((encDc true encT D.int) s32)) (some (encF a32)) (some (encT a41)) none), rfl, rfl, (evO (PV.o (pv_op (po_b rfl) (PV.o (pv_cc (str_lit _))) (op_notin (op_in_t _ _)))) rfl), D.int, fun _ => ⟨rfl, rfl⟩, (evV_bind fun v42 h43 => (evV (pv_ix (po_b rfl) (po_b rfl) (ix_d KeyT.str h43)) rfl))⟩)).q h45)) pos_nil) (tb_sum _))) (op_add _ _)) rfl (PV.o (pv_ix (PV.o (pv_ix (po_b rfl) (po_d (po_b rfl) (some_i (oI_q h47))) (ix_s h49))) (PV.o (pv_c _)) rfl)) rfl rfl (put_d KeyT.str h50) fun costs51 =>
  J_r (r2 := (R_law (some ((encL false D.int) script0)) (some ((encL false D.int) draws1)) (some (D.int a2)) (some ((encS (enc2 encT (encS encT))) rules3)) (some ((encGram false) grammar8)) (some ((encS D.int) prices9)) (some ((encDc false encT D.int) least10)) (some (encF a15)) (some (encF p16.1)) (some (encF p16.2)) (some ((encDc true encT D.int) costs51)) (some (encF a32)) none none)) rfl <|
  J_nil ⟨_, rfl, (some (encF a32)), rfl⟩⟩)))
  (fun s32 r hr => (by obtain ⟨j11_32, rfl⟩ := hr; exact (
  J_ex (d := (encDc false encT D.int) s32) (r1 := (R_law (some ((encL false D.int) script0)) (some ((encL false D.int) draws1)) (some (D.int a2)) (some ((encS (enc2 encT (encS encT))) rules3)) (some ((encGram false) grammar8)) (some ((encS D.int) prices9)) (some ((encDc false encT D.int) least10)) (some (encF a15)) (some (encF p16.1)) (some (encF p16.2)) (some ((encDc false encT D.int) s32)) j11_32 none none)) (pv_vo rfl rfl rfl) <|
  J_ho fun v52 h53 =>
  J_gd fun h54 =>
  J_ho fun v58 h59 =>
  J_ho fun v67 h68 =>
  J_ifX ((evO_or (PV.o (pv_op (PV.o (pv_call (pl_cons (d' := (encGram false) grammar8) (pv_v rfl rfl) rfl (pl_cons (d' := (encS D.int) prices9) (pv_v rfl rfl) rfl (pl_cons (d' := encF a15) (pv_v rfl (own_F _)) (frz_F _) pl_nil))) ((ok_plan_costs (n + 1) grammar8 prices9 a15).get h53))) (PV.o (pv_bi (pos_cons (PV.o ((evV_lc (f := (enc2 encT D.int)) (srtT encT (s32.map (·.1))) encT (pi_seq (pv_bi (pos_cons (po_b rfl) pos_nil) (bi_sorted_d h54)) (it_l _)) (free_c (x := none) rfl nj_none free_n) rfl (fun a55 => ⟨(R_law (some ((encL false D.int) script0)) (some ((encL false D.int) draws1)) (some (D.int a2)) (some ((encS (enc2 encT (encS encT))) rules3)) (some ((encGram false) grammar8)) (some ((encS D.int) prices9)) (some ((encDc false encT D.int) least10)) (some (encF a15)) (some (encF p16.1)) (some (encF p16.2)) (some ((encDc false encT D.int) s32)) j11_32 none (some (encT a55))), rfl, rfl, (enc2 encT D.int), fun _ => ⟨rfl, rfl⟩, (evV_bind fun v56 h57 => (evV (pv_d (d' := (enc2 encT D.int) (a55, v56)) (pv_tup (pl_cons (d' := encT a55) (pv_v rfl rfl) rfl (pl_cons (d' := D.int v56) (pv_ix (po_b rfl) (po_b rfl) (ix_d KeyT.str h57)) rfl pl_nil)) (len_le (n := 2) rfl (by decide))) rfl) rfl))⟩)).q h59)) pos_nil) (bi_tuple_l _))) (op_ne (PlT.tups (PlT.t2 ((PlT.str (k := 0)).mono (k := 0) (by decide)) ((PlT.int (k := 0)).mono (k := 0) (by decide)))) (by decide) _ _))) (fun _ => (evO_bind fun v65 h66 => (evO (PV.o (pv_bi (pos_cons (PV.o ((evV_lc (f := D.bl) (s32.map (·.1)) encT (pi_seq (pv_v rfl rfl) (it_d _)) (free_c (x := none) rfl nj_none free_n) rfl (fun a60 => ⟨(R_law (some ((encL false D.int) script0)) (some ((encL false D.int) draws1)) (some (D.int a2)) (some ((encS (enc2 encT (encS encT))) rules3)) (some ((encGram false) grammar8)) (some ((encS D.int) prices9)) (some ((encDc false encT D.int) least10)) (some (encF a15)) (some (encF p16.1)) (some (encF p16.2)) (some ((encDc false encT D.int) s32)) j11_32 none (some (encT a60))), rfl, rfl, D.bl, fun _ => ⟨rfl, rfl⟩, (evV_bind fun v61 h62 => (evV_bind fun v63 h64 => (evV (pv_op (PV.o (pv_ix (po_b rfl) (po_b rfl) (ix_d KeyT.str h62))) (PV.o (pv_ix (po_b rfl) (po_b rfl) (ix_d KeyT.str h64))) (op_lt _ _)) rfl)))⟩)).q h66)) pos_nil) (tb_any _))) rfl)))).q h68) (fun _ =>
  J_ret (pv_c _) pO_rt)
  (fun _ =>
  J_on <|
  J_on <|
  J_nil ⟨_, rfl, (some (encF a15)), (some (encF p16.1)), (some (encF p16.2)), (some ((encDc false encT D.int) s32)), j11_32, rfl⟩))))⟩)
  (fun _ =>
  J_on <|
  J_nil ⟨_, rfl, (some (encF a15)), (some (encF p16.1)), (some (encF p16.2)), j10_15, j11_15, rfl⟩))⟩⟩)))
  (fun s15 r hr => (by obtain ⟨j7_15, j8_15, j9_15, j10_15, j11_15, rfl⟩ := hr; exact (
  J_nil ⟨_, rfl, (some (D.int a2)), (some ((encS (enc2 encT (encS encT))) rules3)), (some ((encGram false) grammar8)), (some ((encS D.int) prices9)), (some ((encDc false encT D.int) least10)), j7_15, j8_15, j9_15, j10_15, j11_15, rfl⟩)))
  (fun _ => J_rtO)⟩⟩⟩)))
  (fun s2 r hr => (by obtain ⟨j2_2, j3_2, j4_2, j5_2, j6_2, j7_2, j8_2, j9_2, j10_2, j11_2, rfl⟩ := hr; exact (
  J_ret (pv_c _) (.inl rfl))))
  (fun _ => J_rtF)⟩)

end GK
namespace GK
open PySem GF L2
/-! ### grammars -/
theorem letter_eq {s : Tx} (h : s.length ≤ sizeLine) : F_is_letter s = .ok (isL s) := by
  unfold F_is_letter
  rw [show isTy (encT s) .str = some true from rfl]
  simp only [M.ofO, if_true]
  rw [gO_t h]
  rfl
theorem name_eq {s : Tx} (h : s.length ≤ sizeLine) : F_is_name s = .ok (isN s) := by
  unfold F_is_name
  rw [show isTy (encT s) .str = some true from rfl]
  simp only [M.ofO, if_true]
  rw [gO_t h, gO_t h, lcO_map]
  unfold isN
  by_cases c : (decide ((1 : Int) ≤ (s.length : Int)) && decide ((s.length : Int) ≤ (6 : Int))) = true
  · rw [if_pos c, c]
    simp only [Option.bind_some, Bool.true_and, List.all_map]
    rfl
  · rw [if_neg c]
    have c : (decide ((1 : Int) ≤ (s.length : Int)) && decide ((s.length : Int) ≤ (6 : Int))) = false := by simpa using c
    rw [c]
    rfl
theorem symbol_eq {s : Tx} (h : s.length ≤ sizeLine) : F_is_symbol s = .ok (isS s) := by
  unfold F_is_symbol isS
  rw [letter_eq h, name_eq h]
  simp only [M.get, M.ofO]
  cases isL s <;> rfl
theorem rule_ok {p : Rl} (h1 : isN p.1 = true) (h2 : p.2.length ≤ 8) (h3 : ∀ s ∈ p.2, isS s = true) : F_is_rule p = .ok true := by
  have hz := sl_eq
  have n1 := isN_len h1
  unfold F_is_rule
  rw [show isTy ((enc2 encT (encS encT)) p) .tuple = some true from rfl, show isTy ((encS encT) p.2) .tuple = some true from rfl, name_eq (by omega), h1]
  simp only [M.ofO, M.get, Bool.not_true, Bool.false_eq_true, if_false, decide_true, Option.bind_some]
  rw [if_pos (by simp only [decide_eq_true_eq]; omega), gO_t (by omega), lcO_eqm (fun _ => true) _ fun s hs => by
    rw [symbol_eq (by have := isS_len (h3 s hs); omega), h3 s hs]
    rfl]
  simp
theorem init_eq {start : Tx} {rules : List Rl} (g : GrOk start rules) : F_Grammar___init start rules = .ok ⟨start, rules, srtT encT (heads rules), srtT encT ((symsOf rules).filter isL)⟩ := by
  have hz := sl_eq
  have l1 := g.l1
  have l2 := g.l2
  have n1 := isN_len g.stN
  unfold F_Grammar___init
  rw [show isTy ((encS (enc2 encT (encS encT))) rules) .tuple = some true from rfl]
  simp only [M.ofO, Bool.not_true, Bool.false_or]
  rw [if_neg (by simp only [Bool.not_eq_true', Bool.and_eq_false_iff, decide_eq_false_iff_not, Bool.not_eq_true]; omega), gO_t (by omega), lcO_eqm (fun _ => true) _ fun p hp => by
    rw [rule_ok (g.nm p hp) (g.bl p hp) (fun s hs => g.sym hp hs)]
    rfl]
  simp only []
  rw [if_neg (by simp)]
  obtain ⟨hs, e1, e2⟩ := dcO_nub (l := rules) (hk := fun a : Rl => a.1) (hv := fun _ => true) (by omega)
  rw [e1]
  simp only []
  rw [gO_t (by omega)]
  simp only []
  have hl : hs.length = (heads rules).length := by rw [← List.length_map (f := (·.1)) (as := hs), e2]; rfl
  have hd := g.hd
  rw [nub_id rules g.nd, if_neg (by
    have : (heads rules).length ≤ 12 := hd
    simp [hl]
    omega), name_eq (by omega), g.stN]
  simp only [M.get]
  have hst : (dget hs start).isSome = true := by rw [dget_isSome, e2]; exact nub_mem.mpr g.st
  rw [hst, if_neg (by simp)]
  have hfl : (rules.flatMap fun a => a.2).length ≤ 320 := by
    have : ∀ l : List Rl, (∀ p ∈ l, p.2.length ≤ 8) → (l.flatMap fun a => a.2).length ≤ 8 * l.length := by
      intro l
      induction l with
      | nil => intro _; simp
      | cons a l ih =>
        intro h
        have h1 := h a List.mem_cons_self
        have h2 := ih fun p hp => h p (List.mem_cons_of_mem _ hp)
        rw [List.flatMap_cons, List.length_append, List.length_cons]
        omega
    have := this rules g.bl
    omega
  obtain ⟨sy, e3, e4⟩ := dc2O_nub (l := rules) (ti := fun a : Rl => a.2) (hk := fun _ b => b) (hv := fun _ _ => true) (by omega)
  rw [e3]
  simp only []
  have e4 : sy.map (·.1) = symsOf rules := by
    rw [e4]
    unfold symsOf
    congr 1
    simp
  have hsy : (symsOf rules).length ≤ 320 := by
    have := nub_le (rules.flatMap (·.2))
    unfold symsOf
    omega
  have sym : ∀ s ∈ symsOf rules, isS s = true := fun s h => by
    obtain ⟨p, hp, hs⟩ := mem_syms.mp h
    exact g.sym hp hs
  rw [e4, gO_t (by omega), lcO_eqm (fun _ => true) _ fun s h => by
    have := isS_len (sym s h)
    rw [letter_eq (by omega)]
    show some (isL s || (dget hs s).isSome) = some true
    obtain ⟨p, hp, hs'⟩ := mem_syms.mp h
    rcases g.bs p hp s hs' with q | q
    · rw [q]; rfl
    · rw [(dget_isSome (l := hs) (k := s)).mpr (by rw [e2]; exact nub_mem.mpr q), Bool.or_true]]
  simp only []
  have hhd : (heads rules).length ≤ 12 := hd
  rw [if_neg (by simp), e2, show nubK (rules.map fun a => a.1) = heads rules from rfl]
  unfold gd
  rw [if_pos (sortOk_T (OrdT.str (k := 0)) (by omega) (by omega))]
  simp only [let_]
  rw [gO_t (by omega), lcO_eq isL (fun s => s) _ (fun s h => by
    have := isS_len (sym s h)
    rw [letter_eq (by omega)]
    rfl) fun _ _ _ => rfl]
  simp only [List.map_id_fun', id]
  rw [if_pos (sortOk_T (OrdT.str (k := 0)) (by omega) (by have := List.length_filter_le isL (symsOf rules); omega))]
end GK
namespace GK
open PySem GF L2
/-! ### the draws -/
theorem draws_wp (script : List Int) (many : Int) (h : script.length ≤ 63) (hm : 0 ≤ many ∧ many ≤ 1000) : Wp (F_law_draws script many) fun l => (l.length : Int) = many ∧ ∀ x ∈ l, 0 ≤ x := by
  have hz := sl_eq
  have hcut : (cutT script none (some (63 : Int))).length ≤ 63 := by
    rw [show (63 : Int) = ((63 : Nat) : Int) from rfl, cutT_to, List.length_take]; omega
  unfold F_law_draws
  simp only [wp_let]
  refine wp_bind (wp_mono (wp_fold0 (fun i (s : List Int × Int) => s.1.length ≤ 60 * i ∧ ∀ x ∈ s.1, 0 ≤ x) _ _ ⟨by simp, by simp⟩ ?_) ?_)
  · intro i a s hi ⟨h1, h2⟩
    have hi63 : i < 63 := by
      have := (List.getElem?_eq_some_iff.mp hi).1
      omega
    have hab : 0 ≤ (if a < 0 then -a else a) := by split <;> omega
    refine wp_bind (wp_mono (R := fun p : List Int × Int => p.1.length ≤ s.1.length + 60 ∧ ∀ x ∈ p.1, 0 ≤ x) ?_ fun p hp => wp_ok.mpr ⟨by have := hp.1; show p.1.length ≤ _; omega, hp.2⟩)
    refine wp_if (fun _ => ?_) fun _ => ?_
    · refine wp_bind (wp_mono (wp_fold0 (fun k (p : List Int × Int) => p.1.length ≤ s.1.length + k ∧ (∀ x ∈ p.1, 0 ≤ x) ∧ 0 ≤ p.2) _ _ ⟨by simp, h2, hab⟩ ?_) ?_)
      · intro k b p hk ⟨q1, q2, q3⟩
        have hk60 : k < 60 := by
          have := (List.getElem?_eq_some_iff.mp hk).1
          rw [rng_len] at this
          omega
        refine wp_bind (wp_if (fun _ => ?_) fun _ => ?_)
        · rw [wp_gd (by omega), wp_let, wp_let, wp_ok, wp_ok]
          refine ⟨by simp; omega, fun x hx => ?_, by show 0 ≤ p.2 / 1009; omega⟩
          rcases List.mem_append.mp hx with hx | hx
          · exact q2 x hx
          · simp at hx; omega
        · rw [wp_ok, wp_ok]
          exact ⟨by show p.1.length ≤ _; omega, q2, q3⟩
      · intro p ⟨q1, q2, _⟩
        rw [rng_len] at q1
        rw [wp_ok]
        exact ⟨by show p.1.length ≤ _; omega, q2⟩
    · rw [wp_gd (by omega), wp_let, wp_ok]
      refine ⟨by simp, fun x hx => ?_⟩
      rcases List.mem_append.mp hx with hx | hx
      · exact h2 x hx
      · simp at hx; omega
  · intro s ⟨h1, h2⟩
    have h63 : s.1.length ≤ 60 * 63 := by omega
    rw [wp_gd (s62 (by omega))]
    refine wp_bind (wp_mono (wp_fold0 (fun k (p : List Int × Int) => p.1.length ≤ 4000 + k ∧ ((k : Int) ≤ p.1.length ∨ many ≤ p.1.length) ∧ ∀ x ∈ p.1, 0 ≤ x) _ _ ⟨by show s.1.length ≤ _; omega, by left; show (0 : Int) ≤ s.1.length; omega, h2⟩ ?_) ?_)
    · intro k b p hk ⟨q1, q2, q3⟩
      have hk60 : k < 1000 := by
        have := (List.getElem?_eq_some_iff.mp hk).1
        rw [rng_len] at this
        omega
      refine wp_bind (wp_if (fun hc => ?_) fun hc => ?_)
      · rw [wp_let, wp_gd (by omega), wp_let, wp_ok, wp_ok]
        refine ⟨by simp; omega, by simp; omega, fun x hx => ?_⟩
        rcases List.mem_append.mp hx with hx | hx
        · exact q3 x hx
        · simp at hx; omega
      · rw [wp_ok, wp_ok]
        simp at hc
        exact ⟨by show p.1.length ≤ _; omega, by right; exact hc, q3⟩
    · intro p ⟨q1, q2, q3⟩
      rw [rng_len] at q1 q2
      rw [wp_ok, show many = ((many.toNat : Nat) : Int) by omega, cutT_to]
      refine ⟨by rw [List.length_take]; omega, fun x hx => q3 x (List.mem_of_mem_take hx)⟩
/-! ### the rules, the prices -/
theorem ab_get {k : Int} (h : 0 ≤ k ∧ k < 2) : ∃ v ∈ abS, atS txAB k = some v := by
  have h2 : k = 0 ∨ k = 1 := by omega
  rcases h2 with rfl | rfl
  · exact ⟨("a").toList, by simp [abS], by decide +kernel⟩
  · exact ⟨("b").toList, by simp [abS], by decide +kernel⟩
theorem rules_wp (draws : List Int) (most : Int) (h : 3 ≤ draws.length ∧ draws.length ≤ 1000) (hp : ∀ x ∈ draws, 0 ≤ x) (hm : 1 ≤ most ∧ most ≤ 30) : Wp (F_law_rules draws most) (GoodR (4 + most.toNat)) := by
  have hz := sl_eq
  unfold F_law_rules
  obtain ⟨d0, m0, e0⟩ := atT_mem (l := draws) (k := 0) (by omega)
  obtain ⟨d1, m1, e1⟩ := atT_mem (l := draws) (k := 1) (by omega)
  have p0 := hp _ m0
  have p1 := hp _ m1
  rw [wp_ofO e0, wp_let, wp_let, wp_ofO e0, wp_let, wp_ofO e1]
  have enm : cutT ([("S").toList, ("T").toList, ("U").toList, ("V").toList] : List Tx) none (some ((1 : Int) + (d0 % (4 : Int)))) = nmS.take (1 + (d0 % 4).toNat) := by
    rw [show (1 : Int) + d0 % 4 = ((1 + (d0 % 4).toNat : Nat) : Int) by omega, cutT_to]; rfl
  rw [enm]
  generalize hn : 1 + (d0 % 4).toNat = N
  have hN : 1 ≤ N ∧ N ≤ 4 := by omega
  have hnl : (nmS.take N).length = N := by rw [List.length_take]; simp [nmS]; omega
  generalize hnm : nmS.take N = names at hnl ⊢
  have hsub : ∀ s ∈ names, s ∈ nmS := fun s hs => by rw [← hnm] at hs; exact List.mem_of_mem_take hs
  have hS : txS ∈ names := by
    rw [← hnm]
    obtain ⟨M, rfl⟩ : ∃ M, N = M + 1 := ⟨N - 1, by omega⟩
    exact List.mem_cons_self (a := txS)
  have hk : 0 ≤ d0 / 4 % 4 ∧ d0 / 4 % 4 < 4 := by omega
  generalize d0 / 4 % 4 = kind at hk
  have hr : 0 ≤ d1 % most ∧ d1 % most < most := ⟨Int.emod_nonneg _ (by omega), Int.emod_lt_of_pos _ (by omega)⟩
  generalize d1 % most = more at hr
  rw [wp_gd (by omega), wp_gd (s62 (by omega))]
  obtain ⟨v27, m27, e27⟩ := atT_mem (l := ([(4 : Int), (3 : Int), (2 : Int), (5 : Int)] : List Int)) (k := kind) (by simpa using hk)
  obtain ⟨v33, m33, e33⟩ := atT_mem (l := ([(5 : Int), (4 : Int), (3 : Int), (6 : Int)] : List Int)) (k := kind) (by simpa using hk)
  have h27 : 2 ≤ v27 ∧ v27 ≤ 5 := by simp at m27; omega
  have h33 : 3 ≤ v33 ∧ v33 ≤ 6 := by simp at m33; omega
  refine wp_bind (wp_mono (wp_fold0 (fun (i : Nat) (s : List Rl) => s.length ≤ i ∧ s.Nodup ∧ (∀ p ∈ s, p.1 ∈ names ∧ p.2.length ≤ 4 ∧ ∀ y ∈ p.2, y ∈ abS ∨ y ∈ names) ∧ ∀ j, j < i → ∀ y, names[j]? = some y → y ∈ s.map (·.1)) _ _ ⟨by simp, by simp, by simp, fun j hj => absurd hj (Nat.not_lt_zero _)⟩ ?_) ?_)
  · intro i a s hi ⟨q1, q2, q3, q4⟩
    obtain ⟨hi1, hi2⟩ := List.getElem?_eq_some_iff.mp hi
    rw [rng_len] at hi1
    have ha : a = (i : Int) := by
      rw [rng_get hi1] at hi
      exact (Option.some.inj hi).symm
    subst ha
    have hdl : (0 : Int) < (draws.length : Int) - 2 := by omega
    have hmod : 0 ≤ (i : Int) % ((draws.length : Int) - 2) ∧ (i : Int) % ((draws.length : Int) - 2) < (draws.length : Int) - 2 := ⟨Int.emod_nonneg _ (by omega), Int.emod_lt_of_pos _ hdl⟩
    have hdiv : 0 ≤ (i : Int) / ((draws.length : Int) - 2) ∧ (i : Int) / ((draws.length : Int) - 2) ≤ (i : Int) := ⟨Int.ediv_nonneg (by omega) (by omega), Int.ediv_le_self _ (by omega)⟩
    obtain ⟨d, md, ed⟩ := atT_mem (l := draws) (k := 2 + (i : Int) % ((draws.length : Int) - 2)) (by omega)
    have pd := hp _ md
    rw [wp_gd hdl, wp_ofO ed, wp_gd (by omega), wp_gd (by omega), wp_let]
    have hdr : 0 ≤ d / (1 + (i : Int) / ((draws.length : Int) - 2)) := Int.ediv_nonneg pd (by omega)
    generalize d / (1 + (i : Int) / ((draws.length : Int) - 2)) = dr at hdr ⊢
    have hname : ∃ v, (if (decide ((i : Int) < (names.length : Int))) then (atT names (i : Int)).bind fun v19 => some v19 else gO (0 < (names.length : Int)) ((atT names (dr % (names.length : Int))).bind fun v22 => some v22)) = some v ∧ v ∈ names ∧ (i < names.length → names[i]? = some v) := by
      by_cases c : (i : Int) < (names.length : Int)
      · obtain ⟨v, mv, ev⟩ := atT_mem (l := names) (k := (i : Int)) (by omega)
        refine ⟨v, ?_, mv, fun _ => ?_⟩
        · rw [if_pos (decide_eq_true c), ev]; rfl
        · rw [atT_nn (by omega)] at ev; simpa using ev
      · obtain ⟨v, mv, ev⟩ := atT_mem (l := names) (k := dr % (names.length : Int)) ⟨Int.emod_nonneg _ (by omega), Int.emod_lt_of_pos _ (by omega)⟩
        refine ⟨v, ?_, mv, fun h => absurd h (by omega)⟩
        rw [if_neg (by simpa using c), gO_t (by omega), ev]; rfl
    obtain ⟨name, en, mn, gn⟩ := hname
    have h5 : 0 ≤ (dr / 5) % v27 ∧ (dr / 5) % v27 < v27 := ⟨Int.emod_nonneg _ (by omega), Int.emod_lt_of_pos _ (by omega)⟩
    rw [wp_ofO en, wp_let, wp_ofO e27, wp_gd (by omega), wp_gd (s62 (by omega))]
    refine wp_bind (wp_mono (wp_fold0 (fun (k : Nat) (b : List Tx) => b.length ≤ k ∧ ∀ y ∈ b, y ∈ abS ∨ y ∈ names) _ _ ⟨by simp, by simp⟩ ?_) ?_)
    · intro k a b hk ⟨r1, r2⟩
      obtain ⟨hk1, hk2⟩ := List.getElem?_eq_some_iff.mp hk
      rw [rng_len] at hk1
      have ha : a = (k : Int) := by
        rw [rng_get hk1] at hk
        exact (Option.some.inj hk).symm
      subst ha
      rw [wp_gd (by omega), wp_ofO e33, wp_gd (by omega), wp_let]
      have hv : ∃ v, (if (decide ((1 : Int) < dr / (7 + 4 * (k : Int)) % v33)) then gO (0 < ((11 : Int) + (k : Int)) ∧ ((11 : Int) + (k : Int)) < 1073741824) ((atS (("ab").toList) ((dr / ((11 : Int) + (k : Int))) % (2 : Int))).bind fun v38 => some v38) else gO (0 < ((13 : Int) + (k : Int)) ∧ ((13 : Int) + (k : Int)) < 1073741824) (gO (0 < (names.length : Int)) ((atT names ((dr / ((13 : Int) + (k : Int))) % (names.length : Int))).bind fun v42 => some v42))) = some v ∧ (v ∈ abS ∨ v ∈ names) := by
        split
        · obtain ⟨v, mv, ev⟩ := ab_get (k := dr / (11 + (k : Int)) % 2) (by omega)
          exact ⟨v, by rw [gO_t (by omega), ev]; rfl, .inl mv⟩
        · obtain ⟨v, mv, ev⟩ := atT_mem (l := names) (k := dr / (13 + (k : Int)) % (names.length : Int)) ⟨Int.emod_nonneg _ (by omega), Int.emod_lt_of_pos _ (by omega)⟩
          exact ⟨v, by rw [gO_t (by omega), gO_t (by omega), ev]; rfl, .inr mv⟩
      obtain ⟨v, ev, mv⟩ := hv
      rw [wp_ofO ev, wp_gd (by omega), wp_let, wp_ok]
      refine ⟨by simp; omega, fun y hy => ?_⟩
      rcases List.mem_append.mp hy with hy | hy
      · exact r2 y hy
      · simp at hy; subst hy; exact mv
    · intro b ⟨r1, r2⟩
      rw [rng_len] at r1
      refine wp_bind (wp_mono (R := fun z => z.length ≤ i + 1 ∧ z.Nodup ∧ (∀ p ∈ z, p.1 ∈ names ∧ p.2.length ≤ 4 ∧ ∀ y ∈ p.2, y ∈ abS ∨ y ∈ names) ∧ (∀ y ∈ s.map (·.1), y ∈ z.map (·.1)) ∧ name ∈ z.map (·.1)) ?_ fun z ⟨z1, z2, z3, z4, z5⟩ => wp_ok.mpr ⟨z1, z2, z3, fun j hj y hy => ?_⟩)
      · refine wp_if (fun c => ?_) fun c => ?_
        · have c2 : (name, b) ∉ s := fun hc => by rw [memB_iff.mpr hc] at c; exact Bool.false_ne_true c
          rw [wp_gd (by omega), wp_let, wp_ok]
          refine ⟨by simp; omega, ?_, fun p hp => ?_, fun y hy => ?_, by simp⟩
          · rw [List.nodup_append]
            refine ⟨q2, by simp, fun x hx y hy e => ?_⟩
            simp at hy
            subst hy e
            exact c2 hx
          · rcases List.mem_append.mp hp with hp | hp
            · exact q3 p hp
            · simp at hp; subst hp; exact ⟨mn, by show b.length ≤ 4; omega, r2⟩
          · rw [List.map_append, List.mem_append]; exact .inl hy
        · have c2 : (name, b) ∈ s := memB_iff.mp (by simpa using c)
          rw [wp_ok]
          exact ⟨by omega, q2, q3, fun y hy => hy, List.mem_map_of_mem (f := (·.1)) c2⟩
      · by_cases hji : j < i
        · exact z4 y (q4 j hji y hy)
        · have : j = i := by omega
          subst this
          have hlt : j < names.length := (List.getElem?_eq_some_iff.mp hy).1
          rw [gn hlt] at hy
          cases hy
          exact z5
  · intro s ⟨q1, q2, q3, q4⟩
    rw [rng_len] at q1 q4
    rw [wp_ok]
    have hall : ∀ y ∈ names, y ∈ s.map (·.1) := fun y hy => by
      obtain ⟨j, hj, e⟩ := List.getElem_of_mem hy
      exact q4 j (by omega) y (by rw [List.getElem?_eq_getElem hj, e])
    have hst := hall _ hS
    refine ⟨?_, by omega, fun p hp => hsub _ (q3 p hp).1, fun p hp => (q3 p hp).2.1, fun p hp y hy => ?_, q2, hst⟩
    · cases s with
      | nil => simp at hst
      | cons a s => simp
    · rcases (q3 p hp).2.2 y hy with h | h
      · exact .inl h
      · exact .inr (hall y h)
end GK
namespace GK
open PySem GF L2
theorem prices_wp (draws : List Int) (many : Int) (h : 2 ≤ draws.length ∧ draws.length ≤ 1000) (hp : ∀ x ∈ draws, 0 ≤ x) (hm : 0 ≤ many ∧ many ≤ 1000) : Wp (F_law_prices draws many) fun l => (l.length : Int) = many ∧ ∀ x ∈ l, 0 ≤ x := by
  have hz := sl_eq
  unfold F_law_prices
  obtain ⟨d0, m0, e0⟩ := atT_mem (l := draws) (k := 0) (by omega)
  have p0 := hp _ m0
  rw [wp_ofO e0, wp_let, wp_gd (s62 (by omega))]
  obtain ⟨v11, m11, e11⟩ := atT_mem (l := ([(2 : Int), (5 : Int), (100 : Int), (1 : Int)] : List Int)) (k := d0 % 4) (by simp; omega)
  have h11 : 1 ≤ v11 ∧ v11 ≤ 100 := by simp at m11; omega
  have hdl : (0 : Int) < (draws.length : Int) - 1 := by omega
  obtain ⟨ys, e, l1, l2⟩ := lcO_ex (l := rng many) (h := fun a5 : Int => gO (0 < ((draws.length : Int) - (1 : Int))) ((atT draws ((1 : Int) + (a5 % ((draws.length : Int) - (1 : Int))))).bind fun v7 => gO (0 < ((draws.length : Int) - (1 : Int)) ∧ ((draws.length : Int) - (1 : Int)) < 1073741824) (gO (0 < ((1 : Int) + (a5 / ((draws.length : Int) - (1 : Int)))) ∧ ((1 : Int) + (a5 / ((draws.length : Int) - (1 : Int)))) < 1073741824) ((atT ([(2 : Int), (5 : Int), (100 : Int), (1 : Int)] : List Int) (d0 % 4)).bind fun v11 => gO (0 < v11) (some ((v7 / ((1 : Int) + (a5 / ((draws.length : Int) - (1 : Int))))) % v11)))))) (P := fun b => 0 ≤ b) fun a ha => by
    have ha := mem_rng.mp ha
    have hmod : 0 ≤ a % ((draws.length : Int) - 1) ∧ a % ((draws.length : Int) - 1) < (draws.length : Int) - 1 := ⟨Int.emod_nonneg _ (by omega), Int.emod_lt_of_pos _ hdl⟩
    have hdiv : 0 ≤ a / ((draws.length : Int) - 1) ∧ a / ((draws.length : Int) - 1) ≤ a := ⟨Int.ediv_nonneg (by omega) (by omega), Int.ediv_le_self _ (by omega)⟩
    obtain ⟨d, md, ed⟩ := atT_mem (l := draws) (k := 1 + a % ((draws.length : Int) - 1)) (by omega)
    refine ⟨_, by rw [gO_t hdl, ed]; simp only [Option.bind_some]; rw [gO_t (by omega), gO_t (by omega), e11]; simp only [Option.bind_some]; rw [gO_t (by omega)], Int.emod_nonneg _ (by omega)⟩
  rw [gO_t (by rw [rng_len]; omega), wp_ofO e, wp_ok]
  rw [rng_len] at l1
  exact ⟨by omega, l2⟩
end GK
namespace GK
open PySem GF L2
theorem all_rdy {m : Nat} {rules : List Rl} (g : GoodR m rules) {p : Rl} (hp : p ∈ rules) (f : List (Tx × Int)) : lcO (fun _ => some true) (fun (a7 : Tx) => some ((inTx a7 (("ab").toList)) || (dget f a7).isSome)) p.2 = some (p.2.map fun s => isL s || (dget f s).isSome) := by
  rw [lcO_eqm (fun s => isL s || (dget f s).isSome) _ fun s hs => by rw [(ab_fix (g.sy hp hs)).1]]
theorem vals_rdy {m : Nat} {rules : List Rl} (g : GoodR m rules) {p : Rl} (hp : p ∈ rules) {f : List (Tx × Int)} (hr : rdy f p.2 = true) : lcO (fun (a12 : Tx) => some (!(inTx a12 (("ab").toList)))) (fun (a12 : Tx) => (dget f a12).bind fun v13 => some v13) p.2 = some ((nsOf p.2).map (vOf f)) := by
  rw [lcO_eq (fun s => !isL s) (vOf f) _ (fun s hs => by rw [(ab_fix (g.sy hp hs)).1]) fun s hs hl => by
    rw [rdy_iff.mp hr s hs (by simpa using hl)]; rfl]
theorem costs_wp {m : Nat} {rules : List Rl} {prices : List Int} (g : GoodR m rules) (hm : m ≤ 40) (hl : prices.length = rules.length) : Wp (F_law_costs rules prices) fun d => d.length ≤ 40000 ∧ (d.map (·.1)).Nodup ∧ Snd rules prices d ∧ ∀ j, j ≤ 400 → Und rules prices d j := by
  have hz := sl_eq
  have hl1 := g.l1
  have hl2 := g.l2
  unfold F_law_costs
  rw [wp_let]
  refine wp_aft (A := fun a => match a with
    | .nx d => d.length ≤ 40000 ∧ (d.map (·.1)).Nodup ∧ Snd rules prices d ∧ ∀ j, j ≤ 400 → Und rules prices d j
    | .rt d => d.length ≤ 40000 ∧ (d.map (·.1)).Nodup ∧ Snd rules prices d ∧ ∀ j, j ≤ 400 → Und rules prices d j)
    (wp_loop0 (fun j d => d.length ≤ 40 * j ∧ (d.map (·.1)).Nodup ∧ Snd rules prices d ∧ Und rules prices d j) ⟨by simp, by simp, fun h v e => (by cases e), und_zero⟩ ?_ ?_) fun v hv => by cases v <;> exact wp_ok.mpr hv
  · intro j a s hj ⟨q1, q2, q3, q4⟩
    have hj1 := (List.getElem?_eq_some_iff.mp hj).1
    rw [rng_len] at hj1
    rw [wp_gd (s62 (by omega))]
    refine wp_bind (wp_mono (wp_fold0 (fun i (z : List (Tx × Int) × Bool) => z.1.length ≤ 40 * j + i ∧ (z.1.map (·.1)).Nodup ∧ Snd rules prices z.1 ∧ Lower s z.1 ∧ (∀ k, k < i → Held rules prices s z.1 k) ∧ (z.2 = false → z.1 = s)) _ _ ⟨by simpa using q1, q2, q3, Lower.refl s, fun k hk => absurd hk (Nat.not_lt_zero _), fun _ => rfl⟩ ?_) ?_)
    · intro i a z hi ⟨r1, r2, r3, r4, r5, r6⟩
      obtain ⟨hi1, hi2⟩ := List.getElem?_eq_some_iff.mp hi
      rw [rng_len] at hi1
      have ha : a = (i : Int) := by
        rw [rng_get hi1] at hi
        exact (Option.some.inj hi).symm
      subst ha
      have hi3 : i < rules.length := by omega
      have hi4 : i < prices.length := by omega
      obtain ⟨p, hp⟩ : ∃ p, rules[i]? = some p := ⟨_, List.getElem?_eq_getElem hi3⟩
      obtain ⟨w, hw⟩ : ∃ w, prices[i]? = some w := ⟨_, List.getElem?_eq_getElem hi4⟩
      have hpm : p ∈ rules := List.mem_of_getElem? hp
      have hbl := g.bl p hpm
      have e1 : atT rules (i : Int) = some p := by rw [atT_nn (by omega)]; exact hp
      have e2 : atT prices (i : Int) = some w := by rw [atT_nn (by omega)]; exact hw
      rw [wp_ofO e1, gO_t (by omega), all_rdy g hpm, ofO_s, List.all_map, show (p.2.all (id ∘ fun s => isL s || (dget z.1 s).isSome)) = rdy z.1 p.2 from rfl]
      have bye : ∀ z' : List (Tx × Int) × Bool, z'.1.length ≤ 40 * j + (i + 1) → (z'.1.map (·.1)).Nodup → Snd rules prices z'.1 → Lower z.1 z'.1 → Held rules prices s z'.1 i → (z'.2 = false → z'.1 = s) → (z'.1.length ≤ 40 * j + (i + 1) ∧ (z'.1.map (·.1)).Nodup ∧ Snd rules prices z'.1 ∧ Lower s z'.1 ∧ (∀ k, k < i + 1 → Held rules prices s z'.1 k) ∧ (z'.2 = false → z'.1 = s)) := by
        intro z' a1 a2 a3 a4 a5 a6
        refine ⟨a1, a2, a3, fun h v e => ?_, fun k hk => ?_, a6⟩
        · obtain ⟨u, e3, e4⟩ := r4 h v e
          obtain ⟨u2, e5, e6⟩ := a4 _ _ e3
          exact ⟨u2, e5, by omega⟩
        · by_cases hki : k < i
          · exact (r5 k hki).low a4
          · have : k = i := by omega
            subst this
            exact a5
      refine wp_bind (wp_mono (R := fun z' : List (Tx × Int) × Bool => z'.1.length ≤ 40 * j + (i + 1) ∧ (z'.1.map (·.1)).Nodup ∧ Snd rules prices z'.1 ∧ Lower s z'.1 ∧ (∀ k, k < i + 1 → Held rules prices s z'.1 k) ∧ (z'.2 = false → z'.1 = s)) ?_ fun z' hz' => wp_ok.mpr hz')
      refine wp_if (fun c => ?_) fun c => ?_
      · rw [wp_ofO e2, vals_rdy g hpm c, gO_t (by omega), ofO_s, wp_let]
        generalize hcost : w + ((nsOf p.2).map (vOf z.1)).sum = cost
        have hv : ∃ b, (if (!((dget z.1 p.1).isSome)) then some true else (dget z.1 p.1).bind fun v18 => some (decide (cost < v18))) = some b ∧ (b = true → ∀ v, dget z.1 p.1 = some v → cost < v) ∧ (b = false → ∃ v, dget z.1 p.1 = some v ∧ v ≤ cost) := by
          cases e : dget z.1 p.1 with
          | none => exact ⟨true, by simp, fun _ v h => (by cases h), fun h => (by cases h)⟩
          | some v => exact ⟨decide (cost < v), by simp, fun h u hu => (by cases hu; simpa using h), fun h => ⟨v, rfl, by simpa using h⟩⟩
        obtain ⟨b, e3, e4, e5⟩ := hv
        rw [wp_ofO e3]
        refine wp_bind (wp_mono (R := fun z' : List (Tx × Int) × Bool => z'.1.length ≤ 40 * j + (i + 1) ∧ (z'.1.map (·.1)).Nodup ∧ Snd rules prices z'.1 ∧ Lower s z'.1 ∧ (∀ k, k < i + 1 → Held rules prices s z'.1 k) ∧ (z'.2 = false → z'.1 = s)) ?_ fun z' hz' => wp_ok.mpr hz')
        refine wp_if (fun c2 => ?_) fun c2 => ?_
        · rw [wp_gd (by omega), wp_let, wp_ok]
          have dl := dput_len (l := z.1) (k := p.1) (v := cost)
          refine bye (_, true) (by show (dput z.1 p.1 cost).length ≤ _; omega) (dput_nodup r2) ?_ ?_ ?_ (fun h => (by cases h))
          · rw [← hcost]; exact snd_put r3 hp hw c
          · intro h v e
            show ∃ u, dget (dput z.1 p.1 cost) h = some u ∧ u ≤ v
            rw [dget_dput]
            split
            · rename_i ch
              subst ch
              exact ⟨_, rfl, by have := e4 c2 v e; omega⟩
            · exact ⟨v, e, by omega⟩
          · refine held_val hp hw r4 (v := cost) (by show dget (dput z.1 p.1 cost) p.1 = _; rw [dget_dput, if_pos rfl]) (by omega)
        · rw [wp_ok]
          obtain ⟨v, e6, e7⟩ := e5 c2
          exact bye (z.1, z.2) (by show z.1.length ≤ _; omega) r2 r3 (Lower.refl _) (held_val hp hw r4 e6 (by omega)) r6
      · rw [wp_ok]
        exact bye (z.1, z.2) (by show z.1.length ≤ _; omega) r2 r3 (Lower.refl _) (held_not hp r4 c) r6
    · intro z ⟨r1, r2, r3, r4, r5, r6⟩
      rw [rng_len] at r1 r5
      refine wp_if (fun c => ?_) fun c => ?_
      · rw [wp_ok]
        have e : z.1 = s := r6 (by simpa using c)
        rw [e] at r1 r2 r3 r5
        show (z.1.length ≤ 40000 ∧ (z.1.map (·.1)).Nodup ∧ Snd rules prices z.1 ∧ ∀ j, j ≤ 400 → Und rules prices z.1 j)
        rw [e]
        exact ⟨by omega, r2, r3, fun j _ => und_all (fun k hk => r5 k (by omega)) j⟩
      · rw [wp_ok]
        exact ⟨by omega, r2, r3, und_next q4 fun k hk => r5 k (by omega)⟩
  · intro s ⟨q1, q2, q3, q4⟩
    rw [rng_len] at q1 q4
    exact ⟨by omega, q2, q3, fun j hj h c d => q4 h c (d.le hj)⟩
end GK
namespace GK
open PySem GF L2
theorem count_int (i : Int) : F_is_count (fI i) = .ok (decide (0 ≤ i)) := rfl
theorem count_scal {x : FD} (h : Scal x) (n : Int) : ((F_is_count x).get).bind (fun v6 => (if v6 then (oB (opD .lt (encF x) (D.int n))).bind fun v8 => some v8 else some false).bind fun v10 => some v10) = some (cntN n x) := by
  rcases h with ⟨i, rfl⟩ | ⟨b, rfl⟩ | rfl | ⟨t, rfl⟩
  · rw [count_int]
    simp only [get_o, Option.bind_some]
    show _ = some (decide (0 ≤ i) && decide (i < n))
    cases e : decide (0 ≤ i) with
    | false => rfl
    | true => rfl
  · cases b <;> rfl
  · rfl
  · rfl
theorem lcount_eq (x : FD) : F_law_count x = F_is_count x := rfl
theorem prices_ok {gr : Gram} {prices : List Int} (h1 : prices.length = gr.rules.length) (h2 : prices.length ≤ 1000) (hp : ∀ x ∈ prices, 0 ≤ x) : F_check_prices gr prices = .ok () := by
  have hz := sl_eq
  unfold F_check_prices F_is_prices
  rw [show isTy ((encS D.int) prices) .tuple = some true from rfl]
  simp only [ofO_s, if_true]
  rw [if_pos (by simp [h1]), gO_t (by omega), lcO_eqm (fun _ => true) _ fun x hx => by
    rw [count_int, decide_eq_true (hp x hx)]; rfl]
  simp [M.get, ofO_s]
theorem names_eq {body : List Tx} (hl : body.length ≤ 1000) (hb : ∀ s ∈ body, s ∈ abS ∨ s ∈ nmS) : F_names_in body = .ok (nsOf body) := by
  have hz := sl_eq
  unfold F_names_in
  rw [gO_t (by omega), lcO_eq (fun s => !isL s) (fun s => s) _ (fun s hs => by
    have := (ab_fix (hb s hs)).2.2
    rw [letter_eq (by omega)]; rfl) fun _ _ _ => rfl, ofO_s]
  simp only [List.map_id_fun', id]
section
variable {gr : Gram} {rules : List Rl} {prices : List Int} {m : Nat}
theorem least_wp (g : GoodR m rules) (hm : m ≤ 40) (hg : gr.rules = rules) (hl : prices.length = rules.length) : Wp (F_least_plan gr prices) fun d => d.length ≤ 4 ∧ (d.map (·.1)).Nodup ∧ ∀ h v, dget d h = some v → 0 ≤ v.1 ∧ v.1 < (rules.length : Int) := by
  have hz := sl_eq
  have hl2 := g.l2
  subst hg
  unfold F_least_plan
  rw [wp_let]
  have lim : ∀ d : List (Tx × (Int × Int)), (d.map (·.1)).Nodup → (∀ h ∈ d.map (·.1), h ∈ nmS) → d.length ≤ 4 := fun d h1 h2 => by
    have := h1.length_le_of_subset h2
    simpa [nmS] using this
  refine wp_aft (A := fun a => match a with
    | .nx s => s.1.length ≤ 4 ∧ (s.1.map (·.1)).Nodup ∧ ∀ h v, dget s.1 h = some v → 0 ≤ v.1 ∧ v.1 < (gr.rules.length : Int)
    | .rt d => d.length ≤ 4 ∧ (d.map (·.1)).Nodup ∧ ∀ h v, dget d h = some v → 0 ≤ v.1 ∧ v.1 < (gr.rules.length : Int))
    (wp_while (fun s : List (Tx × (Int × Int)) × Bool => (s.1.map (·.1)).Nodup ∧ (∀ h ∈ s.1.map (·.1), h ∈ nmS) ∧ ∀ h v, dget s.1 h = some v → 0 ≤ v.1 ∧ v.1 < (gr.rules.length : Int)) (fun s => 2 * (4 - s.1.length) + s.2.toNat) ?_ _ _ ⟨by simp, by simp, fun h v e => (by cases e)⟩ (by show _ < 5000; simp)) fun v hv => by cases v <;> exact wp_ok.mpr hv
  intro s ⟨q1, q2, q3⟩
  rw [ofO_s, wp_ok]
  refine ⟨fun ht => ?_, fun _ => ⟨lim _ q1 q2, q1, q3⟩⟩
  rw [wp_let]
  refine wp_bind (wp_mono (wp_fold0 (fun i (ways : List (Int × Int)) => ways.length ≤ i ∧ ∀ x ∈ ways, ∃ p, 0 ≤ x.2 ∧ x.2 < (gr.rules.length : Int) ∧ atT gr.rules x.2 = some p ∧ dget s.1 p.1 = none) _ _ ⟨by simp, by simp⟩ ?_) ?_)
  · intro i a ways hi ⟨r1, r2⟩
    obtain ⟨hi1, hi2⟩ := enumT_get _ _ _ _ hi
    rw [Nat.zero_add] at hi1
    have hpm : a.2 ∈ gr.rules := List.mem_of_getElem? hi2
    have hil : i < gr.rules.length := (List.getElem?_eq_some_iff.mp hi2).1
    have hbl := g.bl _ hpm
    rw [wp_bind_ok (names_eq (by omega) fun s hs => g.sy hpm hs)]
    have hnl : (nsOf a.2.2).length ≤ 4 := Nat.le_trans (List.length_filter_le _ _) hbl
    rw [gO_t (by omega), lcO_map]
    have hv : ∃ b, (if (!((dget s.1 a.2.1).isSome)) then (some ((nsOf a.2.2).map fun a6 => (dget s.1 a6).isSome)).bind fun v7 => some (v7.all id) else some false) = some b ∧ (b = true → dget s.1 a.2.1 = none ∧ ∀ s' ∈ nsOf a.2.2, ∃ v, dget s.1 s' = some v) := by
      cases e : dget s.1 a.2.1 with
      | some v => exact ⟨false, rfl, fun h => (by cases h)⟩
      | none =>
        refine ⟨_, rfl, fun h => ⟨rfl, fun s' hs' => ?_⟩⟩
        rw [List.all_map, List.all_eq_true] at h
        exact Option.isSome_iff_exists.mp (h s' hs')
    obtain ⟨b, e3, e4⟩ := hv
    rw [wp_ofO e3]
    refine wp_bind (wp_mono (R := fun z : List (Int × Int) => z.length ≤ i + 1 ∧ ∀ x ∈ z, ∃ p, 0 ≤ x.2 ∧ x.2 < (gr.rules.length : Int) ∧ atT gr.rules x.2 = some p ∧ dget s.1 p.1 = none) ?_ fun z hz' => wp_ok.mpr hz')
    refine wp_if (fun c => ?_) fun c => ?_
    · obtain ⟨c1, c2⟩ := e4 c
      obtain ⟨w, mw, ew⟩ := atT_mem (l := prices) (k := a.1) (by omega)
      obtain ⟨ys, e5, _⟩ := lcO_ex (l := nsOf a.2.2) (h := fun a13 : Tx => (dget s.1 a13).bind fun v14 : Int × Int => some v14.2) (P := fun _ => True) fun s' hs' => by
        obtain ⟨v, ev⟩ := c2 s' hs'
        exact ⟨v.2, by rw [ev]; rfl, trivial⟩
      rw [wp_ofO ew, gO_t (by omega), wp_ofO e5, wp_gd (by omega), wp_let, wp_ok]
      refine ⟨by simp; omega, fun x hx => ?_⟩
      rcases List.mem_append.mp hx with hx | hx
      · exact r2 x hx
      · simp at hx
        subst hx
        refine ⟨a.2, by show 0 ≤ a.1; omega, by show a.1 < _; omega, ?_, c1⟩
        show atT gr.rules a.1 = _
        rw [hi1, atT_nn (by omega)]; exact hi2
    · rw [wp_ok]
      exact ⟨by omega, r2⟩
  · intro ways ⟨r1, r2⟩
    rw [enumT_len] at r1
    rw [wp_let]
    refine wp_bind (wp_mono (R := fun d : List (Tx × (Int × Int)) => (d.map (·.1)).Nodup ∧ (∀ h ∈ d.map (·.1), h ∈ nmS) ∧ (∀ h v, dget d h = some v → 0 ≤ v.1 ∧ v.1 < (gr.rules.length : Int)) ∧ if decide ((0 : Int) < (ways.length : Int)) = true then d.length = s.1.length + 1 else d = s.1) ?_ ?_)
    · refine wp_if (fun c => ?_) fun c => ?_
      · rw [wp_gd (sortOk_T (OrdT.int.t2 OrdT.int (k := 0)) (by omega) (by omega))]
        obtain ⟨w, ew⟩ := minT_some (f := enc2 D.int D.int) (l := ways) (by rintro rfl; simp at c)
        obtain ⟨p, p0, p1, ep, np⟩ := r2 w (minT_spec (OrdT.int.t2 OrdT.int (k := 0)) ew).1
        have hls := lim _ q1 q2
        have hpm : p ∈ gr.rules := by rw [atT_nn p0] at ep; exact List.mem_of_getElem? ep
        rw [wp_ofO ew, wp_ofO ep, wp_gd (by omega), wp_let, wp_ok, if_pos c]
        refine ⟨dput_nodup q1, fun h hh => ?_, fun h v e => ?_, ?_⟩
        · rw [dput_keys, np] at hh
          simp only [Option.isSome_none, Bool.false_eq_true, if_false] at hh
          rcases List.mem_append.mp hh with hh | hh
          · exact q2 h hh
          · simp at hh; subst hh; exact g.nm p hpm
        · rw [dget_dput] at e
          split at e
          · cases e; exact ⟨p0, p1⟩
          · exact q3 h v e
        · unfold dput
          rw [np]
          simp
      · rw [wp_ok, if_neg (by rw [c]; exact Bool.false_ne_true)]
        exact ⟨q1, q2, q3, rfl⟩
    · intro d ⟨z1, z2, z3, z4⟩
      rw [wp_ok]
      refine ⟨⟨z1, z2, z3⟩, ?_⟩
      show 2 * (4 - d.length) + (decide ((0 : Int) < (ways.length : Int))).toNat < 2 * (4 - s.1.length) + s.2.toNat
      rw [ht]
      have l1 := lim _ z1 z2
      have l2 := lim _ q1 q2
      by_cases c : decide ((0 : Int) < (ways.length : Int)) = true
      · rw [if_pos c] at z4
        rw [c]
        simp only [Bool.toNat_true]
        omega
      · rw [if_neg c] at z4
        subst z4
        have c : decide ((0 : Int) < (ways.length : Int)) = false := by simpa using c
        rw [c]
        simp
theorem cheap_wp (g : GoodR m rules) (hm : m ≤ 40) (hg : gr.rules = rules) (hl : prices.length = rules.length) (hp : ∀ x ∈ prices, 0 ≤ x) : Wp (F_cheapest gr prices) fun r => r.1.length ≤ 4 ∧ ∀ i ∈ r.1, 0 ≤ i ∧ i < (rules.length : Int) := by
  have hz := sl_eq
  have hl2 := g.l2
  unfold F_cheapest
  rw [wp_bind_ok (prices_ok (by rw [hg]; exact hl) (by omega) hp)]
  refine wp_bind (wp_mono (least_wp g hm hg hl) ?_)
  intro d ⟨q1, q2, q3⟩
  have hk : ∀ a ∈ d.map (·.1), ∃ v, dget d a = some v := fun a ha => Option.isSome_iff_exists.mp (dget_isSome.mpr ha)
  obtain ⟨ys, e1, l1, b1⟩ := lcO_ex (l := d.map (·.1)) (h := fun a2 : Tx => (dget d a2).bind fun v3 : Int × Int => some v3.1) (P := fun b => 0 ≤ b ∧ b < (rules.length : Int)) fun a ha => by
    obtain ⟨v, ev⟩ := hk a ha
    exact ⟨v.1, by rw [ev]; rfl, q3 _ _ ev⟩
  obtain ⟨zs, e2, l2, _⟩ := lcO_ex (l := d.map (·.1)) (h := fun a2 : Tx => (dget d a2).bind fun v3 : Int × Int => some (a2, v3.2)) (P := fun _ => True) fun a ha => by
    obtain ⟨v, ev⟩ := hk a ha
    exact ⟨(a, v.2), by rw [ev]; rfl, trivial⟩
  rw [List.length_map] at l1 l2
  rw [gO_t (by rw [List.length_map]; omega), wp_ofO e1, gO_t (by rw [List.length_map]; omega), wp_ofO e2, wp_gd (sortOk_T (OrdT.str.t2 OrdT.int (k := 0)) (by omega) (by omega)), wp_ok]
  exact ⟨by show ys.length ≤ 4; omega, b1⟩
end
end GK
namespace GK
open PySem GF L2
abbrev fForm : FD := ⟨encT (("form").toList), rfl⟩
abbrev fNon : FD := ⟨encU (), rfl⟩
abbrev fEmp : FD := ⟨(encDc false D.int D.int) ([] : (List (Int × Int))), rfl⟩
section
variable {gr : Gram} {rules : List Rl} {prices : List Int} {m : Nat}
theorem oI_I (i : Int) : oI (some (encF (fI i))) = some i := rfl
/-! ### numbers -/
theorem heads_dc (is : List Int) (hr : ∀ i ∈ is, 0 ≤ i ∧ i < (rules.length : Int)) (hl : is.length ≤ 1000) : ∃ ys, dcO (fun _ => some true) (fun (a18 : FD) => (oI (some (encF a18))).bind fun v19 => (atT rules v19).bind fun v21 => some v21.1) (fun (a18 : FD) => some true) (is.map fI) [] = some ys ∧ ys.length = (nubK (nmP rules is)).length := by
  have hz := sl_eq
  have e : ∀ a ∈ is.map fI, (oI (some (encF a))).bind (fun v19 => (atT rules v19).bind fun v21 => some v21.1) = some (match a.1 with | .int i => (ph rules i).1 | _ => []) ∧ some true = some true := fun a ha => by
    obtain ⟨i, hi, rfl⟩ := List.mem_map.mp ha
    rw [oI_I, Option.bind_some, ph_at (hr i hi)]
    exact ⟨rfl, rfl⟩
  rw [dcO_congr (tk := fun a : FD => match a.1 with | .int i => (ph rules i).1 | _ => []) (tv := fun _ => true) _ _ e]
  obtain ⟨ys, e1, e2⟩ := dcO_nub (l := is.map fI) (hk := fun a : FD => match a.1 with | .int i => (ph rules i).1 | _ => []) (hv := fun _ => true) (by simpa using (by omega : is.length ≤ sizeLine))
  refine ⟨ys, e1, ?_⟩
  rw [← List.length_map (f := (·.1)), e2, List.map_map]
  rfl
theorem names_lc (is : List Int) (hr : ∀ i ∈ is, 0 ≤ i ∧ i < (rules.length : Int)) : lcO (fun _ => some true) (fun (a18 : FD) => (oI (some (encF a18))).bind fun v19 => (atT rules v19).bind fun v21 => some v21.1) (is.map fI) = some (nmP rules is) := by
  rw [lcO_eqm (fun a : FD => match a.1 with | .int i => (ph rules i).1 | _ => []) _ fun a ha => by
    obtain ⟨i, hi, rfl⟩ := List.mem_map.mp ha
    rw [oI_I, Option.bind_some, ph_at (hr i hi)]
    rfl]
  rw [List.map_map]
  rfl
theorem numbers_lc {l : List FD} (hs : ∀ x ∈ l, Scal x) (n : Int) : lcO (fun _ => some true) (fun (a5 : FD) => ((F_is_count a5).get).bind fun v6 => (if v6 then (oB (opD .lt (encF a5) (D.int n))).bind fun v8 => some v8 else some false).bind fun v10 => some v10) l = some (l.map (cntN n)) := lcO_eqm (cntN n) _ fun x hx => count_scal (hs x hx) n
/-- a plan that is none -/
theorem bad_ty {v : FD} (h : isTy (encF v) .tuple = some false) : F_plan_fault gr v = .ok fForm ∧ F_law_due rules v = .ok (fForm, fEmp) := by
  constructor
  · unfold F_plan_fault F_are_numbers
    rw [h]; rfl
  · unfold F_law_due
    rw [h]; rfl
theorem bad_num (hg : gr.rules = rules) {l : List FD} (hl : l.length ≤ 1000) (hs : ∀ x ∈ l, Scal x) (h : l.all (cntN (rules.length : Int)) = false) : F_plan_fault gr (tupF l) = .ok fForm ∧ F_law_due rules (tupF l) = .ok (fForm, fEmp) := by
  have hz := sl_eq
  subst hg
  constructor
  · unfold F_plan_fault F_are_numbers
    rw [tup_ty, tup_oL]
    simp only [ofO_s, Bool.not_true, Bool.false_eq_true, if_false, Option.bind_some]
    rw [gO_t (by omega), numbers_lc hs]
    simp only [Option.bind_some, List.all_map, ofO_s]
    rw [show l.all (id ∘ cntN (gr.rules.length : Int)) = false from h]
    rfl
  · unfold F_law_due
    rw [tup_ty, tup_oL]
    simp only [ofO_s, Bool.not_true, Bool.false_eq_true, if_false, Option.bind_some, lcount_eq]
    rw [gO_t (by omega), numbers_lc hs]
    simp only [Option.bind_some, List.all_map, ofO_s]
    rw [show l.all (id ∘ cntN (gr.rules.length : Int)) = false from h]
    rfl
variable {is : List Int}
theorem all_ints (hr : ∀ i ∈ is, 0 ≤ i ∧ i < (rules.length : Int)) : (is.map fI).all (cntN (rules.length : Int)) = true := by
  rw [List.all_eq_true]
  intro x hx
  obtain ⟨i, hi, rfl⟩ := List.mem_map.mp hx
  have := hr i hi
  show (decide (0 ≤ i) && decide (i < (rules.length : Int))) = true
  simp [this]
theorem scal_ints : ∀ x ∈ is.map fI, Scal x := fun x hx => by
  obtain ⟨i, _, rfl⟩ := List.mem_map.mp hx
  exact .inl ⟨i, rfl⟩
theorem are_eq (hg : gr.rules = rules) (hl : is.length ≤ 1000) (hr : ∀ i ∈ is, 0 ≤ i ∧ i < (rules.length : Int)) : F_are_numbers gr (tupF (is.map fI)) = .ok (decide (((nubK (nmP rules is)).length : Int) = (is.length : Int))) := by
  have hz := sl_eq
  subst hg
  unfold F_are_numbers
  rw [tup_ty, tup_oL, tup_len]
  simp only [ofO_s, Bool.not_true, Bool.false_eq_true, if_false, Option.bind_some]
  rw [gO_t (by rw [List.length_map]; omega), numbers_lc scal_ints]
  simp only [Option.bind_some, List.all_map, ofO_s]
  have := all_ints hr
  rw [List.all_map] at this
  rw [show is.all ((id ∘ cntN (gr.rules.length : Int)) ∘ fI) = true from this]
  obtain ⟨ys, e1, e2⟩ := heads_dc is hr hl
  rw [e1]
  simp only [ofO_s, Bool.not_true, Bool.false_eq_true, if_false, List.length_map, e2]
theorem bad_twice (hg : gr.rules = rules) (hl : is.length ≤ 1000) (hr : ∀ i ∈ is, 0 ≤ i ∧ i < (rules.length : Int)) (h : ¬ (nmP rules is).Nodup) : F_plan_fault gr (tupF (is.map fI)) = .ok fForm ∧ F_law_due rules (tupF (is.map fI)) = .ok (fForm, fEmp) := by
  have hz := sl_eq
  have hn : (nubK (nmP rules is)).length ≠ is.length := fun e => h (nub_len_iff.mp (by rw [e]; unfold nmP; rw [List.length_map]))
  have hle : (nubK (nmP rules is)).length ≤ is.length := by
    have := nub_le (nmP rules is)
    unfold nmP at this ⊢
    rwa [List.length_map] at this
  constructor
  · unfold F_plan_fault
    rw [are_eq hg hl hr, decide_eq_false (by omega)]
    rfl
  · subst hg
    unfold F_law_due
    rw [tup_ty, tup_oL]
    simp only [ofO_s, Bool.not_true, Bool.false_eq_true, if_false, Option.bind_some, lcount_eq]
    rw [gO_t (by rw [List.length_map]; omega), numbers_lc scal_ints]
    simp only [Option.bind_some, List.all_map, ofO_s]
    have := all_ints hr
    rw [List.all_map] at this
    rw [show is.all ((id ∘ cntN (gr.rules.length : Int)) ∘ fI) = true from this]
    simp only [Bool.not_true, Bool.false_eq_true, if_false]
    rw [gO_t (by rw [List.length_map]; omega), names_lc is hr, ofO_s, gd_t (by unfold nmP; rw [List.length_map]; omega), if_pos (by rw [decide_eq_true_eq]; unfold nmP at hle hn ⊢; rw [List.length_map]; omega)]
theorem look_eq {s6 : List (Tx × Bool)} {seen : List Tx} (hk : ∀ s, (dget s6 s).isSome = true ↔ s ∈ seen) (body : List Tx) : ((nsOf body).map fun a13 => (dget s6 a13).isSome).all id = body.all fun s => isL s || memB s seen := by
  rw [Bool.eq_iff_iff, List.all_map, List.all_eq_true, List.all_eq_true]
  constructor
  · intro h s hs
    cases e : isL s with
    | true => rfl
    | false => exact memB_iff.mpr ((hk s).mp (h s (mem_ns.mpr ⟨hs, e⟩)))
  · intro h s hs
    obtain ⟨h1, h2⟩ := mem_ns.mp hs
    have := h s h1
    rw [h2, Bool.false_or] at this
    exact (hk s).mpr (memB_iff.mp this)
def fF : Option Int → FD
  | none => fNon
  | some k => fI k
theorem fault_eq (g : GoodR m rules) (hg : gr.rules = rules) (hl : is.length ≤ 1000) (hr : ∀ i ∈ is, 0 ≤ i ∧ i < (rules.length : Int)) (h : (nmP rules is).Nodup) : F_plan_fault gr (tupF (is.map fI)) = .ok (fF (fault rules [] 0 is)) := by
  have hz := sl_eq
  have hn : (nubK (nmP rules is)).length = is.length := by rw [nub_id _ h]; unfold nmP; rw [List.length_map]
  have w : Wp (F_plan_fault gr (tupF (is.map fI))) (· = fF (fault rules [] 0 is)) := by
    unfold F_plan_fault
    rw [are_eq hg hl hr, decide_eq_true (by omega), get_o, wp_ofO rfl, wp_f (by rfl), wp_let, wp_ofO (tup_oT _)]
    refine wp_aft (A := fun a => match a with
      | .nx _ => fault rules [] 0 is = none
      | .rt v => v = fF (fault rules [] 0 is))
      (wp_loop0 (fun j (d : List (Tx × Bool)) => fault rules [] 0 is = fault rules ((nmP rules is).take j) (j : Int) (is.drop j) ∧ (∀ s, (dget d s).isSome = true ↔ s ∈ (nmP rules is).take j) ∧ d.length ≤ j) ⟨rfl, fun s => by simp [dget], by simp⟩ ?_ ?_) fun v hv => ?_
    · intro j a d hj ⟨q1, q2, q3⟩
      obtain ⟨h1, h2⟩ := enumT_get _ _ _ _ hj
      rw [Nat.zero_add] at h1
      obtain ⟨x, hx, ex⟩ : ∃ x, is[j]? = some x ∧ a.2 = fI x := by
        rw [List.getElem?_map, Option.map_eq_some_iff] at h2
        obtain ⟨x, h3, h4⟩ := h2
        exact ⟨x, h3, h4.symm⟩
      have hjl := (List.getElem?_eq_some_iff.mp hx).1
      have hxr := hr x (List.mem_of_getElem? hx)
      have hpm := ph_mem hxr
      have hbl := g.bl _ hpm
      have hnl : (nsOf (ph rules x).2).length ≤ 4 := Nat.le_trans (List.length_filter_le _ _) hbl
      rw [ex, oI_I, wp_ofO rfl, hg, wp_ofO (ph_at hxr), names_eq (by omega) (fun s hs => g.sy hpm hs), get_o, wp_ofO rfl, gO_t (by omega), lcO_map, wp_ofO rfl, look_eq q2]
      rw [fault_next hx] at q1
      refine wp_if (fun c => ?_) fun c => ?_
      · have c2 : chk rules ((nmP rules is).take j) x = false := by
          rw [Bool.not_eq_true'] at c
          exact c
        rw [c2, if_neg Bool.false_ne_true] at q1
        rw [wp_ok]
        show _ = fF _
        rw [q1, h1]
        rfl
      · have c2 : chk rules ((nmP rules is).take j) x = true := by
          rw [Bool.not_eq_false'] at c
          exact c
        rw [c2, if_pos rfl] at q1
        rw [wp_gd (by omega), wp_let, wp_ok]
        have htk : (nmP rules is).take (j + 1) = (nmP rules is).take j ++ [(ph rules x).1] := by
          rw [List.take_add_one]
          congr 1
          unfold nmP
          rw [List.getElem?_map, hx]; rfl
        have dl := dput_len (l := d) (k := (ph rules x).1) (v := true)
        refine ⟨q1, fun s => ?_, by omega⟩
        rw [dget_dput, htk, List.mem_append, List.mem_singleton, ← q2 s]
        split
        · rename_i ch; simp [ch]
        · rename_i ch; simp [ch]
    · intro d ⟨q1, _⟩
      rw [enumT_len, List.length_map, fault_end] at q1
      exact q1
    · cases v with
      | nx d =>
        have hv : fault rules [] 0 is = none := hv
        show Wp (.ok _) _
        rw [hv]; exact wp_ok.mpr rfl
      | rt v => exact wp_ok.mpr hv
  obtain ⟨v, e, rfl⟩ := w
  exact e
end
end GK
namespace GK
open PySem GF L2
section
variable {gr : Gram} {rules : List Rl} {prices : List Int} {m : Nat} {is : List Int}
def dueF (rules : List Rl) (is : List Int) : FD × FD := match fault rules [] 0 is with
  | none => (fNon, ⟨(encL false encT) (nmP rules is), rfl⟩)
  | some k => (fI k, fEmp)
theorem due_eq (g : GoodR m rules) (hl : is.length ≤ 1000) (hr : ∀ i ∈ is, 0 ≤ i ∧ i < (rules.length : Int)) (h : (nmP rules is).Nodup) : F_law_due rules (tupF (is.map fI)) = .ok (dueF rules is) := by
  have hz := sl_eq
  have hnl : (nmP rules is).length = is.length := by unfold nmP; rw [List.length_map]
  have w : Wp (F_law_due rules (tupF (is.map fI))) (· = dueF rules is) := by
    unfold F_law_due
    rw [tup_ty, tup_oL]
    simp only [ofO_s, Bool.not_true, Bool.false_eq_true, if_false, Option.bind_some, lcount_eq]
    rw [gO_t (by rw [List.length_map]; omega), numbers_lc scal_ints]
    simp only [Option.bind_some, List.all_map, ofO_s]
    have := all_ints hr
    rw [List.all_map] at this
    rw [show is.all ((id ∘ cntN (rules.length : Int)) ∘ fI) = true from this]
    simp only [Bool.not_true, Bool.false_eq_true, if_false]
    rw [gO_t (by rw [List.length_map]; omega), names_lc is hr, ofO_s, wp_gd (by omega), nub_id _ h, if_neg (by simp), wp_ofO (tup_len _), List.length_map, wp_gd (s62 (by omega))]
    refine wp_aft (A := fun a => match a with
      | .nx _ => fault rules [] 0 is = none
      | .rt v => v = dueF rules is)
      (wp_loop0 (fun j (_ : Unit) => fault rules [] 0 is = fault rules ((nmP rules is).take j) (j : Int) (is.drop j)) (fault_start is) ?_ ?_) fun v hv => ?_
    · intro j a _ hj q1
      obtain ⟨hj1, _⟩ := List.getElem?_eq_some_iff.mp hj
      rw [rng_len] at hj1
      have ha : a = (j : Int) := by
        rw [rng_get hj1] at hj
        exact (Option.some.inj hj).symm
      subst ha
      have hjl : j < is.length := by omega
      obtain ⟨x, hx⟩ : ∃ x, is[j]? = some x := ⟨_, List.getElem?_eq_getElem hjl⟩
      have hxr := hr x (List.mem_of_getElem? hx)
      have hpm := ph_mem hxr
      have hbl := g.bl _ hpm
      have eat : atT (is.map fI) (j : Int) = some (fI x) := by rw [atT_nn (by omega)]; simp [hx]
      rw [wp_ofO (tup_ix eat), oI_I, wp_ofO rfl, wp_ofO (ph_at hxr), gO_t (by omega), cutT_to, lcO_eqm (fun s => isL s || memB s ((nmP rules is).take j)) _ (fun s hs => by rw [(ab_fix (g.sy hpm hs)).1]), wp_ofO rfl, List.all_map]
      rw [fault_next hx] at q1
      rw [show (ph rules x).2.all (id ∘ fun s => isL s || memB s ((nmP rules is).take j)) = chk rules ((nmP rules is).take j) x from rfl]
      refine wp_if (fun c => ?_) fun c => ?_
      · have c2 : chk rules ((nmP rules is).take j) x = false := by
          rw [Bool.not_eq_true'] at c
          exact c
        rw [c2, if_neg Bool.false_ne_true] at q1
        rw [wp_ok]
        show _ = dueF _ _
        unfold dueF
        rw [q1]
      · have c2 : chk rules ((nmP rules is).take j) x = true := by
          rw [Bool.not_eq_false'] at c
          exact c
        rw [c2, if_pos rfl] at q1
        rw [wp_ok]
        exact q1
    · intro _ q1
      rw [rng_len, Int.toNat_natCast, fault_end] at q1
      exact q1
    · cases v with
      | nx d =>
        have hv : fault rules [] 0 is = none := hv
        show Wp (.ok _) _
        unfold dueF
        rw [hv]; exact wp_ok.mpr rfl
      | rt v => exact wp_ok.mpr hv
  obtain ⟨v, e, rfl⟩ := w
  exact e
end
end GK
namespace GK
open PySem GF L2
section
variable {gr : Gram} {rules : List Rl} {prices : List Int} {m : Nat} {is : List Int}
theorem costs_bad {v f : FD} (hc : F_check_prices gr prices = .ok ()) (hv : F_plan_fault gr v = .ok f) (hf : f = fForm ∨ ∃ k, f = fI k) : F_law_refused gr prices v = .ok true := by
  have e : F_plan_costs gr prices v = .er 3 := by
    unfold F_plan_costs
    rw [hc, bind_o, hv, get_o, ofO_s]
    rcases hf with rfl | ⟨k, rfl⟩ <;> rfl
  unfold F_law_refused
  rw [e]
  rfl
theorem cst_wp (g : GoodR m rules) (hg : gr.rules = rules) (hl : is.length ≤ 1000) (hr : ∀ i ∈ is, 0 ≤ i ∧ i < (rules.length : Int)) (hpl : prices.length = rules.length) (hf : fault rules [] 0 is = none) : (fold (fun (a8 : FD) (s8 : (List (Tx × Int))) =>
  M.ofO (oI (some (encF a8))) fun v9 =>
  M.ofO (atT gr.rules v9) fun v11 =>
  M.ofO (oI (some (encF a8))) fun v13 =>
  M.ofO (atT prices v13) fun v15 =>
  M.ofO ((F_names_in v11.2).get) fun v17 =>
  M.ofO (gO (v17.length ≤ sizeLine) (lcO (fun _ => some true) (fun (a19 : Tx) => (dget s8 a19).bind fun v20 => some v20) v17)) fun v22 =>
  gd (s8.length < sizeLine) <|
  let_ (dput s8 v11.1 (v15 + v22.sum)) fun costs25 =>
  .ok costs25) (is.map fI) []) = .ok (cst rules prices is) := by
  have hz := sl_eq
  subst hg
  have w : Wp (fold (fun (a8 : FD) (s8 : (List (Tx × Int))) =>
  M.ofO (oI (some (encF a8))) fun v9 =>
  M.ofO (atT gr.rules v9) fun v11 =>
  M.ofO (oI (some (encF a8))) fun v13 =>
  M.ofO (atT prices v13) fun v15 =>
  M.ofO ((F_names_in v11.2).get) fun v17 =>
  M.ofO (gO (v17.length ≤ sizeLine) (lcO (fun _ => some true) (fun (a19 : Tx) => (dget s8 a19).bind fun v20 => some v20) v17)) fun v22 =>
  gd (s8.length < sizeLine) <|
  let_ (dput s8 v11.1 (v15 + v22.sum)) fun costs25 =>
  .ok costs25) (is.map fI) []) (· = cst gr.rules prices is) := by
    refine wp_mono (wp_fold0 (fun j d => d = cst gr.rules prices (is.take j)) _ _ rfl ?_) fun d hd => by rw [hd, List.length_map, List.take_length]
    intro j a d hj hd
    obtain ⟨x, hx, rfl⟩ : ∃ x, is[j]? = some x ∧ a = fI x := by
      rw [List.getElem?_map, Option.map_eq_some_iff] at hj
      obtain ⟨x, h3, h4⟩ := hj
      exact ⟨x, h3, h4.symm⟩
    have hjl := (List.getElem?_eq_some_iff.mp hx).1
    have hxr := hr x (List.mem_of_getElem? hx)
    have hpm := ph_mem hxr
    have hbl := g.bl _ hpm
    have hnl : (nsOf (ph gr.rules x).2).length ≤ 4 := Nat.le_trans (List.length_filter_le _ _) hbl
    have hrd := plan_rdy hr hpl hf hx
    have hdl := (plan_ok hr hpl hf j (by omega)).2.2.2.2
    subst hd
    rw [oI_I, wp_ofO rfl, wp_ofO (ph_at hxr), wp_ofO rfl, wp_ofO (pw_at ⟨hxr.1, by omega⟩), names_eq (by omega) (fun s hs => g.sy hpm hs), get_o, wp_ofO rfl, gO_t (by omega), lcO_eqm (vOf _) _ (fun s hs => by
      rw [rdy_iff.mp hrd s (mem_ns.mp hs).1 (mem_ns.mp hs).2]; rfl), wp_ofO rfl, wp_gd (by omega), wp_let, wp_ok, cst_next hx]
    rfl
  obtain ⟨v, e, rfl⟩ := w
  exact e
theorem cst_wp2 (g : GoodR m rules) (hl : is.length ≤ 1000) (hr : ∀ i ∈ is, 0 ≤ i ∧ i < (rules.length : Int)) (hpl : prices.length = rules.length) (hf : fault rules [] 0 is = none) : (fold (fun (a32 : FD) (s32 : (List (Tx × Int))) =>
  M.ofO (oI (some (encF a32))) fun v33 =>
  M.ofO (atT prices v33) fun v35 =>
  M.ofO (oI (some (encF a32))) fun v37 =>
  M.ofO (atT rules v37) fun v39 =>
  M.ofO (gO (v39.2.length ≤ sizeLine) (lcO (fun (a41 : Tx) => some (!(inTx a41 (("ab").toList)))) (fun (a41 : Tx) => (dget s32 a41).bind fun v42 => some v42) v39.2)) fun v44 =>
  M.ofO (oI (some (encF a32))) fun v46 =>
  M.ofO (atT rules v46) fun v48 =>
  gd (s32.length < sizeLine) <|
  let_ (dput s32 v48.1 (v35 + v44.sum)) fun costs51 =>
  .ok costs51) (is.map fI) []) = .ok (cst rules prices is) := by
  have hz := sl_eq
  have w : Wp (fold (fun (a32 : FD) (s32 : (List (Tx × Int))) =>
  M.ofO (oI (some (encF a32))) fun v33 =>
  M.ofO (atT prices v33) fun v35 =>
  M.ofO (oI (some (encF a32))) fun v37 =>
  M.ofO (atT rules v37) fun v39 =>
  M.ofO (gO (v39.2.length ≤ sizeLine) (lcO (fun (a41 : Tx) => some (!(inTx a41 (("ab").toList)))) (fun (a41 : Tx) => (dget s32 a41).bind fun v42 => some v42) v39.2)) fun v44 =>
  M.ofO (oI (some (encF a32))) fun v46 =>
  M.ofO (atT rules v46) fun v48 =>
  gd (s32.length < sizeLine) <|
  let_ (dput s32 v48.1 (v35 + v44.sum)) fun costs51 =>
  .ok costs51) (is.map fI) []) (· = cst rules prices is) := by
    refine wp_mono (wp_fold0 (fun j d => d = cst rules prices (is.take j)) _ _ rfl ?_) fun d hd => by rw [hd, List.length_map, List.take_length]
    intro j a d hj hd
    obtain ⟨x, hx, rfl⟩ : ∃ x, is[j]? = some x ∧ a = fI x := by
      rw [List.getElem?_map, Option.map_eq_some_iff] at hj
      obtain ⟨x, h3, h4⟩ := hj
      exact ⟨x, h3, h4.symm⟩
    have hjl := (List.getElem?_eq_some_iff.mp hx).1
    have hxr := hr x (List.mem_of_getElem? hx)
    have hpm := ph_mem hxr
    have hbl := g.bl _ hpm
    have hrd := plan_rdy hr hpl hf hx
    have hdl := (plan_ok hr hpl hf j (by omega)).2.2.2.2
    subst hd
    rw [oI_I, wp_ofO rfl, wp_ofO (pw_at ⟨hxr.1, by omega⟩), wp_ofO rfl, wp_ofO (ph_at hxr), gO_t (by omega), vals_rdy g hpm hrd, wp_ofO rfl, wp_ofO rfl, wp_ofO (ph_at hxr), wp_gd (by omega), wp_let, wp_ok, cst_next hx]
    rfl
  obtain ⟨v, e, rfl⟩ := w
  exact e
theorem costs_ok (g : GoodR m rules) (hg : gr.rules = rules) (hc : F_check_prices gr prices = .ok ()) (hl : is.length ≤ 1000) (hr : ∀ i ∈ is, 0 ≤ i ∧ i < (rules.length : Int)) (hpl : prices.length = rules.length) (hf : fault rules [] 0 is = none) (hv : F_plan_fault gr (tupF (is.map fI)) = .ok fNon) : F_plan_costs gr prices (tupF (is.map fI)) = .ok (srtT (enc2 encT D.int) (cst rules prices is)) := by
  have hz := sl_eq
  have hdl := (plan_ok hr hpl hf is.length (by omega)).2.2.2.2
  rw [List.take_length] at hdl
  unfold F_plan_costs
  rw [hc, bind_o, hv, get_o, ofO_s]
  rw [show oB (opD .isnot (encF fNon) (encU ())) = some false from rfl, ofO_s, if_neg Bool.false_ne_true, let_e, tup_oL, ofO_s, cst_wp g hg hl hr hpl hf, bind_o, gd_t (sortOk_T (OrdT.str.t2 OrdT.int (k := 0)) (by omega) (by omega))]
theorem refused_ok {v : FD} {c : List (Tx × Int)} (h : F_plan_costs gr prices v = .ok c) : F_law_refused gr prices v = .ok false := by
  unfold F_law_refused
  rw [h]
  rfl
end
theorem cut_len {α : Type} (l : List α) (a b : Option Int) : (cutT l a b).length ≤ l.length := by
  unfold cutT
  rw [List.length_take, List.length_drop]
  omega
theorem setT_ex {l : List Int} {i v : Int} (h : 0 ≤ i ∧ i < (l.length : Int)) : ∃ l', setT l i v = some l' ∧ l'.length = l.length := by
  obtain ⟨w, _, e⟩ := atT_mem h
  unfold setT
  have : ∃ n, L2.ixN l.length i = some n := by
    unfold L2.ixN
    rw [if_pos h.1, if_pos h.2]
    exact ⟨_, rfl⟩
  obtain ⟨n, hn⟩ := this
  rw [hn]
  exact ⟨_, rfl, by simp⟩
theorem bent_wp (draws : List Int) (rules : List Rl) (plan : List Int) (h : 3 ≤ draws.length) (hr : 1 ≤ rules.length ∧ rules.length ≤ 40) (hp : plan.length ≤ 4) : Wp (F_law_bent draws rules plan) fun l => ∀ v ∈ l, VOk v := by
  have hz := sl_eq
  unfold F_law_bent
  rw [wp_gd (s62 (by omega)), wp_gd (by rw [rng_len]; omega), wp_let, wp_let, wp_gd (s62 (by omega))]
  refine wp_aft (A := fun a => match a with
    | .nx s => s.1.length ≤ 40
    | .rt _ => False) (wp_loop0 (fun j (s : List Int × List Int) => s.1.length ≤ j ∧ s.2 ≠ [] ∧ s.2.length ≤ 40 ∧ ∀ x ∈ s.2, 0 ≤ x ∧ x < (rules.length : Int)) ⟨by simp, fun e => by have := congrArg List.length e; rw [rng_len, Int.toNat_natCast] at this; have h0 : ([] : List Int).length = 0 := rfl; omega, by show (rng (rules.length : Int)).length ≤ 40; rw [rng_len]; omega, fun x hx => mem_rng.mp hx⟩ ?_ fun s hs => by rw [rng_len] at hs; show s.1.length ≤ 40; omega) ?_
  · intro j a s hj ⟨q1, q2, q3, q4⟩
    have hj1 := (List.getElem?_eq_some_iff.mp hj).1
    rw [rng_len] at hj1
    have hne : (0 : Int) < (s.2.length : Int) := by have := List.length_pos_iff.mpr q2; omega
    obtain ⟨d, _, ed⟩ := atT_mem (l := draws) (k := a % (draws.length : Int)) ⟨Int.emod_nonneg _ (by omega), Int.emod_lt_of_pos _ (by omega)⟩
    obtain ⟨one, mo, eo⟩ := atT_mem (l := s.2) (k := d % (s.2.length : Int)) ⟨Int.emod_nonneg _ (by omega), Int.emod_lt_of_pos _ (by omega)⟩
    have ho := q4 one mo
    rw [wp_gd (by omega), wp_ofO ed, wp_gd hne, wp_ofO eo, gO_t (by omega), lcO_eq (fun a13 => !decide ((ph rules a13).1 = (ph rules one).1)) (fun x => x) _ (fun x hx => by
      rw [ph_at (q4 x hx), ph_at ho]; rfl) (fun _ _ _ => rfl), wp_ofO rfl, wp_gd (by omega), wp_let]
    simp only [List.map_id_fun', id]
    generalize hf : s.2.filter _ = left
    have hsub : ∀ x ∈ left, x ∈ s.2 := fun x hx => by rw [← hf] at hx; exact (List.mem_filter.mp hx).1
    have hll : left.length ≤ s.2.length := by rw [← hf]; exact List.length_filter_le _ _
    refine wp_if (fun c => ?_) fun c => ?_
    · rw [wp_ok]
      show (s.1 ++ [one]).length ≤ 40
      simp
      omega
    · rw [wp_ok]
      refine ⟨by simp; omega, fun e => ?_, by show left.length ≤ 40; omega, fun x hx => q4 x (hsub x hx)⟩
      have e : left = [] := e
      subst e
      simp at c
  · intro v hv
    cases v with
    | rt v => exact hv.elim
    | nx s =>
      have hs : s.1.length ≤ 40 := hv
      have c1 := cut_len plan (some (-1 : Int)) none
      have c2 := cut_len plan (some (1 : Int)) none
      have c3 := cut_len plan none (some (-1 : Int))
      show Wp (gd _ _) _
      rw [wp_gd (by omega), wp_gd (s62 (by omega)), wp_gd (by rw [rng_len]; omega), wp_let, gO_t (by simp; omega)]
      rw [lcO_eqm (fun a26 : FD => (plan.map (mkF D.int (fun _ => rfl))) ++ [a26]) _ fun x hx => by
        rw [gO_t (by rw [List.length_map]; simp; omega)], wp_ofO rfl, wp_gd (by simp; omega), wp_let]
      have nt : ∀ d : D, ∀ hd, isTy d .tuple = some false → VOk ⟨d, hd⟩ := fun d hd e => .inl e
      have hA : ∀ v ∈ ([(⟨(encS D.int) plan, rfl⟩ : FD), (⟨(encL false D.int) plan, rfl⟩ : FD), (⟨encU (), rfl⟩ : FD), (⟨D.int (7 : Int), rfl⟩ : FD), (⟨(encS D.int) [], rfl⟩ : FD), (⟨(encS D.int) (cutT plan (some (1 : Int)) none), rfl⟩ : FD), (⟨(encS D.int) (cutT plan none (some (-1 : Int))), rfl⟩ : FD), (⟨(encS D.int) plan.reverse, rfl⟩ : FD), (⟨(encS D.int) (plan ++ (cutT plan (some (-1 : Int)) none)), rfl⟩ : FD), (⟨(encS D.int) s.1, rfl⟩ : FD), (⟨(encS D.int) (rng (rules.length : Int)), rfl⟩ : FD)] ++ (([(⟨D.int (rules.length : Int), rfl⟩ : FD), (⟨D.int (-1 : Int), rfl⟩ : FD), (⟨D.bl true, rfl⟩ : FD), (⟨encU (), rfl⟩ : FD), (⟨encT (("0").toList), rfl⟩ : FD)] : List FD).map fun a26 : FD => (plan.map (mkF D.int (fun _ => rfl))) ++ [a26]).map (mkF (encS encF) (fun _ => rfl)) : List FD), VOk v := by
        intro v hv
        rcases List.mem_append.mp hv with hv | hv
        · simp only [List.mem_cons, List.not_mem_nil, or_false] at hv
          rcases hv with rfl | rfl | rfl | rfl | rfl | rfl | rfl | rfl | rfl | rfl | rfl
          · exact vok_ints (by omega)
          · exact nt _ _ rfl
          · exact nt _ _ rfl
          · exact nt _ _ rfl
          · exact vok_ints (by simp)
          · exact vok_ints (by omega)
          · exact vok_ints (by omega)
          · exact vok_ints (by rw [List.length_reverse]; omega)
          · exact vok_ints (by rw [List.length_append]; omega)
          · exact vok_ints (by omega)
          · exact vok_ints (by rw [rng_len]; omega)
        · obtain ⟨l, hl, rfl⟩ := List.mem_map.mp hv
          obtain ⟨x, hx, rfl⟩ := List.mem_map.mp hl
          refine .inr ⟨_, rfl, by rw [List.length_append, List.length_map]; simp; omega, fun y hy => ?_⟩
          rcases List.mem_append.mp hy with hy | hy
          · obtain ⟨i, _, rfl⟩ := List.mem_map.mp hy
            exact .inl ⟨i, rfl⟩
          · simp only [List.mem_singleton] at hy
            subst hy
            simp only [List.mem_cons, List.not_mem_nil, or_false] at hx
            rcases hx with rfl | rfl | rfl | rfl | rfl
            · exact .inl ⟨_, rfl⟩
            · exact .inl ⟨_, rfl⟩
            · exact .inr (.inl ⟨_, rfl⟩)
            · exact .inr (.inr (.inl rfl))
            · exact .inr (.inr (.inr ⟨_, rfl⟩))
      refine wp_bind (wp_mono (R := fun l => ∀ v ∈ l, VOk v) ?_ fun l hl => wp_ok.mpr hl)
      refine wp_if (fun c => ?_) fun c => ?_
      · have hpl : (0 : Int) < (plan.length : Int) := by simpa using c
        obtain ⟨d0, _, e0⟩ := atT_mem (l := draws) (k := 0) (by omega)
        obtain ⟨d1, _, e1⟩ := atT_mem (l := draws) (k := 1) (by omega)
        obtain ⟨d2, _, e2⟩ := atT_mem (l := draws) (k := 2) (by omega)
        have ha : 0 ≤ d0 % (plan.length : Int) ∧ d0 % (plan.length : Int) < (plan.length : Int) := ⟨Int.emod_nonneg _ (by omega), Int.emod_lt_of_pos _ (by omega)⟩
        have hb : 0 ≤ d1 % (plan.length : Int) ∧ d1 % (plan.length : Int) < (plan.length : Int) := ⟨Int.emod_nonneg _ (by omega), Int.emod_lt_of_pos _ (by omega)⟩
        obtain ⟨x, _, ex⟩ := atT_mem hb
        obtain ⟨y, _, ey⟩ := atT_mem ha
        obtain ⟨l1, el1, hl1⟩ := setT_ex (v := x) ha
        obtain ⟨l2, el2, hl2⟩ := setT_ex (l := l1) (i := d1 % (plan.length : Int)) (v := y) (by rw [hl1]; exact hb)
        have k1 := cut_len plan none (some (d0 % (plan.length : Int)))
        have k2 := cut_len plan (some (d0 % (plan.length : Int) + 1)) none
        rw [wp_ofO e0, wp_gd hpl, wp_ofO e1, wp_gd hpl, wp_let, wp_let, wp_ofO ex, wp_ofO ey, wp_ofO el1, wp_ofO el2, wp_gd (by omega), wp_ofO e2, wp_gd (by omega), wp_gd (by simp; omega), wp_gd (by rw [List.length_append]; simp; omega), wp_gd (by simp; omega), wp_let, wp_ok]
        intro v hv
        rcases List.mem_append.mp hv with hv | hv
        · exact hA v hv
        · simp only [List.mem_cons, List.not_mem_nil, or_false] at hv
          rcases hv with rfl | rfl | rfl
          · exact vok_ints (by omega)
          · exact vok_ints (by rw [List.length_append]; omega)
          · exact vok_ints (by rw [List.length_append, List.length_append]; simp; omega)
      · rw [wp_ok]
        exact hA
end GK
namespace GK
open PySem GF L2
theorem cut_mid {α : Type} (l : List α) {a b : Nat} (h : b ≤ l.length) (h2 : a ≤ b) : cutT l (some (a : Int)) (some (b : Int)) = (l.drop a).take (b - a) := by
  unfold cutT
  rw [HT.sIx_nat, HT.sIx_nat, Nat.min_eq_left (by omega), Nat.min_eq_left (by omega)]
theorem law_wp (script : List Int) (h : script.length ≤ 63) : Wp (F_law script) fun b => b = true := by
  have hz := sl_eq
  unfold F_law
  refine wp_bind (wp_mono (draws_wp script 60 h (by decide)) ?_)
  intro l ⟨hl, hp⟩
  have hl60 : l.length = 60 := by omega
  refine wp_aft (A := fun a => match a with | .nx _ => True | .rt _ => False) (wp_loop0 (fun _ _ => True) trivial ?_ fun _ _ => trivial) fun v hv => by
    cases v with
    | nx _ => exact wp_ok.mpr rfl
    | rt _ => exact hv.elim
  intro t a s ht _
  obtain ⟨ht1, _⟩ := List.getElem?_eq_some_iff.mp ht
  rw [rng_len] at ht1
  have ha : a = (t : Int) := by
    rw [rng_get ht1] at ht
    exact (Option.some.inj ht).symm
  subst ha
  have ht4 : t < 4 := by omega
  rw [show ((4 : Int) + 9 * (t : Int)) = ((4 + 9 * t : Nat) : Int) by omega, show ((18 : Int) + 9 * (t : Int)) = ((18 + 9 * t : Nat) : Int) by omega, cut_mid l (by omega) (by omega), show ((38 : Int) + 4 * (t : Int)) = ((38 + 4 * t : Nat) : Int) by omega, show ((48 : Int) + 4 * (t : Int)) = ((48 + 4 * t : Nat) : Int) by omega, cut_mid l (by omega) (by omega), show ((44 : Int) + 3 * (t : Int)) = ((44 + 3 * t : Nat) : Int) by omega, cutT_from]
  refine wp_bind (wp_mono (rules_wp _ 6 (by rw [List.length_take, List.length_drop]; omega) (fun x hx => hp x (List.mem_of_mem_drop (List.mem_of_mem_take hx))) (by decide)) ?_)
  intro rules g
  have g : GoodR 10 rules := g
  have hr2 := g.l2
  have hr1 := g.l1
  rw [init_eq (g.ok (by decide)), get_o, wp_ofO rfl]
  obtain ⟨prices, ep, lp, pp⟩ := prices_wp ((l.drop (38 + 4 * t)).take (48 + 4 * t - (38 + 4 * t))) (rules.length : Int) (by rw [List.length_take, List.length_drop]; omega) (fun x hx => hp x (List.mem_of_mem_drop (List.mem_of_mem_take hx))) (by omega)
  have lp : prices.length = rules.length := by omega
  rw [ep, get_o, wp_ofO rfl, wp_let, wp_let]
  obtain ⟨least, el, ll, ln, _, lu⟩ := costs_wp g (by decide) lp
  rw [wp_bind_ok el]
  generalize hgr : (⟨txS, rules, srtT encT (heads rules), srtT encT ((symsOf rules).filter isL)⟩ : Gram) = gr
  have hg : gr.rules = rules := by rw [← hgr]
  have hc : F_check_prices gr prices = .ok () := prices_ok (by rw [hg]; exact lp) (by omega) pp
  obtain ⟨cheap, ec, hch, _⟩ := cheap_wp g (by decide) hg lp pp
  rw [ec, get_o, wp_ofO rfl]
  obtain ⟨vals, eb, hb⟩ := bent_wp (l.drop (44 + 3 * t)) rules cheap.1 (by rw [List.length_drop]; omega) ⟨hr1, by omega⟩ hch
  rw [eb, get_o, wp_ofO rfl]
  refine wp_aft (A := fun a => match a with | .nx _ => True | .rt _ => False) (wp_loop0 (fun _ _ => True) trivial ?_ fun _ _ => trivial) fun v hv => by
    cases v with
    | nx _ => exact wp_ok.mpr trivial
    | rt _ => exact hv.elim
  intro j v _ hj _
  have hv := hb v (List.mem_of_getElem? hj)
  have bad : ∀ f : FD, (f = fForm ∨ ∃ k, f = fI k) → F_plan_fault gr v = .ok f → F_law_due rules v = .ok (f, fEmp) → oB (opD .ne (encF f) (encF f)) = some false ∧ oB (opD .is_ (encF f) (encU ())) = some false := by
    rintro f (rfl | ⟨k, rfl⟩) _ _
    · exact ⟨by decide +kernel, rfl⟩
    · refine ⟨?_, rfl⟩
      show oB (opD .ne (.int k) (.int k)) = _
      rw [op_ne (PlT.int (k := 0)) (by decide)]
      simp [oB]
  have turn : ∀ f : FD, (f = fForm ∨ ∃ k, f = fI k) → F_plan_fault gr v = .ok f → F_law_due rules v = .ok (f, fEmp) → F_law_refused gr prices v = .ok true := fun f hf h1 _ => costs_bad hc h1 hf
  by_cases hbad : ∃ f : FD, (f = fForm ∨ ∃ k, f = fI k) ∧ F_plan_fault gr v = .ok f ∧ F_law_due rules v = .ok (f, fEmp)
  · obtain ⟨f, hf, h1, h2⟩ := hbad
    obtain ⟨b1, b2⟩ := bad f hf h1 h2
    have b3 := turn f hf h1 h2
    rw [wp_bind_ok h2, h1, get_o, wp_ofO rfl, wp_ofO b1, b3, get_o]
    simp only [Bool.false_eq_true, if_false, Option.bind_some, b2]
    rw [wp_ofO rfl, wp_f (by rfl), wp_ofO rfl, wp_f rfl, wp_ok]
    trivial
  · rcases hv with hv | ⟨fs, rfl, hfl, hfs⟩
    · exact absurd ⟨fForm, .inl rfl, (bad_ty (gr := gr) (rules := rules) hv).1, (bad_ty (gr := gr) (rules := rules) hv).2⟩ hbad
    · cases c : fs.all (cntN (rules.length : Int)) with
      | false =>
        obtain ⟨x1, x2⟩ := bad_num hg hfl hfs c
        exact absurd ⟨fForm, .inl rfl, x1, x2⟩ hbad
      | true =>
        obtain ⟨is, rfl, hr⟩ := ints_of c
        rw [List.length_map] at hfl
        by_cases hn : (nmP rules is).Nodup
        · have x1 := fault_eq g hg hfl hr hn
          have x2 := due_eq g hfl hr hn
          unfold dueF at x2
          cases hfa : fault rules [] 0 is with
          | some k =>
            rw [hfa] at x1 x2
            exact absurd ⟨fI k, .inr ⟨k, rfl⟩, x1, x2⟩ hbad
          | none =>
            rw [hfa] at x1 x2
            have x1 : F_plan_fault gr (tupF (is.map fI)) = .ok fNon := x1
            have x3 := costs_ok g hg hc hfl hr lp hfa x1
            have x4 := refused_ok x3
            have hpo := plan_ok hr lp hfa is.length (by omega)
            rw [List.take_length] at hpo
            obtain ⟨_, _, pn, pd, pl⟩ := hpo
            have hnl : is.length ≤ 4 := by
              have h2 : nmP rules is ⊆ nmS := fun s hs => by
                obtain ⟨i, hi, rfl⟩ := List.mem_map.mp hs
                exact g.nm _ (ph_mem (hr i hi))
              have := hn.length_le_of_subset h2
              unfold nmP at this
              rw [List.length_map] at this
              simpa [nmS] using this
            generalize hcs : cst rules prices is = cs at pn pd pl x3
            have hval : ∀ a ∈ cs.map (·.1), dget cs a = some (vOf cs a) := fun a ha => by
              obtain ⟨w, ew⟩ := Option.isSome_iff_exists.mp (dget_isSome.mpr ha)
              unfold vOf
              rw [ew]; rfl
            have hsl : (srtT encT (cs.map (·.1))).length ≤ 4 := by rw [srt_len, List.length_map]; omega
            rw [wp_bind_ok x2, x1, get_o, wp_ofO rfl]
            simp only []
            rw [wp_ofO (show oB (opD .ne (encF fNon) (encF fNon)) = some false by decide +kernel), x4, get_o]
            simp only [Bool.false_eq_true, if_false, Option.bind_some, show oB (opD .is_ (encF fNon) (encU ())) = some true from rfl]
            rw [wp_ofO rfl, wp_f (by rfl), wp_ofO rfl, wp_t rfl, wp_let, wp_ofO (tup_oL _), wp_bind_ok (cst_wp2 g hfl hr lp hfa), hcs, x3, get_o, wp_ofO rfl, wp_gd (sortOk_T (OrdT.str (k := 0)) (by omega) (by rw [List.length_map]; omega)), gO_t (by omega), lcO_eqm (fun a => (a, vOf cs a)) _ (fun a ha => by
              rw [hval a (srt_mem.mp ha)]; rfl), wp_ofO rfl, gO_t (by rw [List.length_map]; omega), lcO_eqm (fun _ => false) _ (fun a ha => by
              have e1 := hval a ha
              obtain ⟨w, e2, e3⟩ := lu is.length (by omega) a _ (pd a _ e1)
              rw [e1, e2]
              simp only [Option.bind_some]
              rw [decide_eq_false (by omega)])]
            have hsp : srtT (enc2 encT D.int) cs = (srtT encT (cs.map (·.1))).map fun a => (a, vOf cs a) := srt_pairs (OrdT.str (k := 0)) (OrdT.int (k := 0)) pn fun p hp => by
              have := mem_dget pn hp
              unfold vOf
              rw [this]; rfl
            rw [hsp, decide_eq_true rfl]
            simp only [Bool.not_true, Bool.false_eq_true, if_false, Option.bind_some, List.any_map]
            rw [wp_ofO rfl, wp_f (by simp), wp_ok]
            trivial
        · obtain ⟨x1, x2⟩ := bad_twice hg hfl hr hn
          exact absurd ⟨fForm, .inl rfl, x1, x2⟩ hbad
end GK
namespace GK
open PySem GF L2
theorem law_plain (ns : List Int) (h : ns.length ≤ 63) : runF (prg.phi 5) prg.fuel 14 bd21 [.lst false (ns.map .int)] = .ok (.bl true) := by
  obtain ⟨v, e, rfl⟩ := law_wp ns h
  exact (ok_law 0 ns).ok e
def FN : List Str := ["start", "rules", "names", "letters"]
theorem sc0 : FnScope ["value"] ["value"] (defScope st0) := ⟨rfl, rfl, rfl, by decide +kernel, rfl, by decide +kernel, by decide +kernel⟩
theorem sc1 : FnScope ["value", "sign"] ["value"] (defScope st1) := ⟨rfl, rfl, rfl, by decide +kernel, rfl, by decide +kernel, by decide +kernel⟩
theorem sc2 : FnScope ["value"] ["value"] (defScope st2) := ⟨rfl, rfl, rfl, by decide +kernel, rfl, by decide +kernel, by decide +kernel⟩
theorem sc3 : FnScope ["value", "symbol"] ["value"] (defScope st3) := ⟨rfl, rfl, rfl, by decide +kernel, rfl, by decide +kernel, by decide +kernel⟩
theorem sc4 : FnScope ["value"] ["value"] (defScope st4) := ⟨rfl, rfl, rfl, by decide +kernel, rfl, by decide +kernel, by decide +kernel⟩
theorem sc5 : FnScope ["grammar", "value", "one"] ["grammar", "value"] (defScope st5) := ⟨rfl, rfl, rfl, by decide +kernel, rfl, by decide +kernel, by decide +kernel⟩
theorem sc6 : FnScope ["grammar", "value"] ["grammar", "value"] (defScope st6) := ⟨rfl, rfl, rfl, by decide +kernel, rfl, by decide +kernel, by decide +kernel⟩
theorem sc7 : FnScope ["body", "symbol"] ["body"] (defScope st7) := ⟨rfl, rfl, rfl, by decide +kernel, rfl, by decide +kernel, by decide +kernel⟩
theorem sc8 : FnScope ["grammar", "value", "one"] ["grammar", "value"] (defScope st8) := ⟨rfl, rfl, rfl, by decide +kernel, rfl, by decide +kernel, by decide +kernel⟩
theorem sc9 : FnScope ["grammar", "plan", "ahead", "at", "number", "name", "body", "one"] ["grammar", "plan"] (defScope st9) := ⟨rfl, rfl, rfl, by decide +kernel, rfl, by decide +kernel, by decide +kernel⟩
theorem sc10 : FnScope ["grammar", "prices", "plan", "costs", "number", "name", "body", "one"] ["grammar", "prices", "plan"] (defScope st10) := ⟨rfl, rfl, rfl, by decide +kernel, rfl, by decide +kernel, by decide +kernel⟩
theorem sc11 : FnScope ["grammar", "prices", "found", "is_new", "ways", "number", "name", "body", "names", "one", "cost"] ["grammar", "prices"] (defScope st11) := ⟨rfl, rfl, rfl, by decide +kernel, rfl, by decide +kernel, by decide +kernel⟩
theorem sc12 : FnScope ["grammar", "prices", "found", "name"] ["grammar", "prices"] (defScope st12) := ⟨rfl, rfl, rfl, by decide +kernel, rfl, by decide +kernel, by decide +kernel⟩
theorem sc13 : FnScope ["script", "many", "draws", "seed", "cell", "number", "k"] ["script", "many"] (defScope st13) := ⟨rfl, rfl, rfl, by decide +kernel, rfl, by decide +kernel, by decide +kernel⟩
theorem sc14 : FnScope ["draws", "most", "names", "found", "kind", "k", "draw", "name", "body", "n", "pick"] ["draws", "most"] (defScope st14) := ⟨rfl, rfl, rfl, by decide +kernel, rfl, by decide +kernel, by decide +kernel⟩
theorem sc15 : FnScope ["draws", "many", "kind", "k"] ["draws", "many"] (defScope st15) := ⟨rfl, rfl, rfl, by decide +kernel, rfl, by decide +kernel, by decide +kernel⟩
theorem sc16 : FnScope ["value"] ["value"] (defScope st16) := ⟨rfl, rfl, rfl, by decide +kernel, rfl, by decide +kernel, by decide +kernel⟩
theorem sc17 : FnScope ["rules", "prices", "found", "turn", "is_new", "k", "name", "body", "symbol", "cost"] ["rules", "prices"] (defScope st17) := ⟨rfl, rfl, rfl, by decide +kernel, rfl, by decide +kernel, by decide +kernel⟩
theorem sc18 : FnScope ["rules", "value", "one", "names", "k", "symbol"] ["rules", "value"] (defScope st18) := ⟨rfl, rfl, rfl, by decide +kernel, rfl, by decide +kernel, by decide +kernel⟩
theorem sc19 : FnScope ["draws", "rules", "plan", "drawn", "left", "k", "one", "other", "found", "wrong", "at", "rows"] ["draws", "rules", "plan"] (defScope st19) := ⟨rfl, rfl, rfl, by decide +kernel, rfl, by decide +kernel, by decide +kernel⟩
theorem sc20 : FnScope ["grammar", "prices", "value", "e"] ["grammar", "prices", "value"] (defScope st20) := ⟨rfl, rfl, rfl, by decide +kernel, rfl, by decide +kernel, by decide +kernel⟩
theorem sc21 : FnScope ["script", "draws", "turn", "rules", "grammar", "prices", "least", "value", "due", "names", "costs", "number", "symbol", "name"] ["script"] (defScope st21) := ⟨rfl, rfl, rfl, by decide +kernel, rfl, by decide +kernel, by decide +kernel⟩
theorem sc22 : FnScope ["self", "name", "number", "rule"] ["self", "name"] (defScope st22) := ⟨rfl, rfl, rfl, by decide +kernel, rfl, by decide +kernel, by decide +kernel⟩
theorem sc23 : FnScope ["self", "start", "rules", "rule", "heads", "name", "_body", "symbols", "_name", "body", "symbol"] ["self", "start", "rules"] (defScope st23) := ⟨rfl, rfl, rfl, by decide +kernel, rfl, by decide +kernel, by decide +kernel⟩
theorem fld0 (j : Nat) (hj : FN.getD j "" = "start") : j = 0 := by
  match j, hj with
  | 0, hj => rfl
  | 1, hj => exact absurd hj (by decide +kernel)
  | 2, hj => exact absurd hj (by decide +kernel)
  | 3, hj => exact absurd hj (by decide +kernel)
  | _ + 4, hj => exact absurd (show ("" : Str) = "start" from hj) (by decide +kernel)
theorem fld1 (j : Nat) (hj : FN.getD j "" = "rules") : j = 1 := by
  match j, hj with
  | 0, hj => exact absurd hj (by decide +kernel)
  | 1, hj => rfl
  | 2, hj => exact absurd hj (by decide +kernel)
  | 3, hj => exact absurd hj (by decide +kernel)
  | _ + 4, hj => exact absurd (show ("" : Str) = "rules" from hj) (by decide +kernel)
theorem fld2 (j : Nat) (hj : FN.getD j "" = "names") : j = 2 := by
  match j, hj with
  | 0, hj => exact absurd hj (by decide +kernel)
  | 1, hj => exact absurd hj (by decide +kernel)
  | 2, hj => rfl
  | 3, hj => exact absurd hj (by decide +kernel)
  | _ + 4, hj => exact absurd (show ("" : Str) = "names" from hj) (by decide +kernel)
theorem fld3 (j : Nat) (hj : FN.getD j "" = "letters") : j = 3 := by
  match j, hj with
  | 0, hj => exact absurd hj (by decide +kernel)
  | 1, hj => exact absurd hj (by decide +kernel)
  | 2, hj => exact absurd hj (by decide +kernel)
  | 3, hj => rfl
  | _ + 4, hj => exact absurd (show ("" : Str) = "letters" from hj) (by decide +kernel)
theorem all_mk {l : PySem.W.OpenLaw} {w : World} {K : PySem.W.Frag} {h : Heap} {mg : Str → Option Value} {fa C0 f0 f1 f2 f3 f4 f5 f6 f7 f8 f9 f10 f11 f12 f13 f14 f15 f16 f17 f18 f19 f20 f21 f22 f23 E0 E1 E2 E3 : Addr} (X : K.In h) (G : h.Ns mainGlobals mg) (hfa : mg "law" = some (.ref fa))
    {od0 od1 od2 od3 od4 od5 od6 od7 od8 od9 od10 od11 od12 od13 od14 od15 od16 od17 od18 od19 od20 od21 od22 od23 an0 an1 an2 an3 an4 an5 an6 an7 an8 an9 an10 an11 an12 an13 an14 an15 an16 an17 an18 an19 an20 an21 an22 an23 : Option Addr} {sl0 sl1 sl2 sl3 sl4 sl5 sl6 sl7 sl8 sl9 sl10 sl11 sl12 sl13 sl14 sl15 sl16 sl17 sl18 sl19 sl20 sl21 sl22 sl23 : Array (Option Value)} {oc0 oc1 oc2 oc3 oc4 oc5 oc6 oc7 oc8 oc9 oc10 oc11 oc12 oc13 oc14 oc15 oc16 oc17 oc18 oc19 oc20 oc21 oc22 oc23 kV0 kV1 kV2 kV3 kV4 kV5 kV6 kV7 kV8 kV9 kV10 kV11 kV12 kV13 kV14 kV15 kV16 kV17 kV18 kV19 kV20 kV21 kV22 kV23 dc0 dc1 dc2 dc3 dc4 dc5 dc6 dc7 dc8 dc9 dc10 dc11 dc12 dc13 dc14 dc15 dc16 dc17 dc18 dc19 dc20 dc21 dc22 dc23 pm0 pm1 pm2 pm3 pm4 pm5 pm6 pm7 pm8 pm9 pm10 pm11 pm12 pm13 pm14 pm15 pm16 pm17 pm18 pm19 pm20 pm21 pm22 pm23 cd0 cd1 cd2 cd3 cd4 cd5 cd6 cd7 cd8 cd9 cd10 cd11 cd12 cd13 cd14 cd15 cd16 cd17 cd18 cd19 cd20 cd21 cd22 cd23 ct0 ct1 ct2 ct3 ct4 ct5 ct6 ct7 ct8 ct9 ct10 ct11 ct12 ct13 ct14 ct15 ct16 ct17 ct18 ct19 ct20 ct21 ct22 ct23 : Value} {tk0 tk1 tk2 tk3 tk4 tk5 tk6 : Tok}
    (aC0 : PySem.W.nsIn K mainGlobals "Grammar" = some (some (.ref C0)))
    (a0 : PySem.W.nsIn K mainGlobals "is_letter" = some (some (.ref f0)))
    (l0 : K.lookup f0 = some ⟨oc0, od0, .func (PySem.W.fnOf "is_letter" "is_letter" (defArgs st0) (defBody st0) (defScope st0) .none kV0 dc0 pm0 an0 cd0 ct0), sl0⟩)
    (c0 : PySem.W.codeIn K cd0 "is_letter" = true)
    (k0 : PySem.W.keepIn K (.ref f0) = true)
    (a1 : PySem.W.nsIn K mainGlobals "is_name" = some (some (.ref f1)))
    (l1 : K.lookup f1 = some ⟨oc1, od1, .func (PySem.W.fnOf "is_name" "is_name" (defArgs st1) (defBody st1) (defScope st1) .none kV1 dc1 pm1 an1 cd1 ct1), sl1⟩)
    (c1 : PySem.W.codeIn K cd1 "is_name" = true)
    (k1 : PySem.W.keepIn K (.ref f1) = true)
    (a2 : PySem.W.nsIn K mainGlobals "is_symbol" = some (some (.ref f2)))
    (l2 : K.lookup f2 = some ⟨oc2, od2, .func (PySem.W.fnOf "is_symbol" "is_symbol" (defArgs st2) (defBody st2) (defScope st2) .none kV2 dc2 pm2 an2 cd2 ct2), sl2⟩)
    (c2 : PySem.W.codeIn K cd2 "is_symbol" = true)
    (k2 : PySem.W.keepIn K (.ref f2) = true)
    (a3 : PySem.W.nsIn K mainGlobals "_is_rule" = some (some (.ref f3)))
    (l3 : K.lookup f3 = some ⟨oc3, od3, .func (PySem.W.fnOf "_is_rule" "_is_rule" (defArgs st3) (defBody st3) (defScope st3) .none kV3 dc3 pm3 an3 cd3 ct3), sl3⟩)
    (c3 : PySem.W.codeIn K cd3 "_is_rule" = true)
    (k3 : PySem.W.keepIn K (.ref f3) = true)
    (a4 : PySem.W.nsIn K mainGlobals "is_count" = some (some (.ref f4)))
    (l4 : K.lookup f4 = some ⟨oc4, od4, .func (PySem.W.fnOf "is_count" "is_count" (defArgs st4) (defBody st4) (defScope st4) .none kV4 dc4 pm4 an4 cd4 ct4), sl4⟩)
    (c4 : PySem.W.codeIn K cd4 "is_count" = true)
    (k4 : PySem.W.keepIn K (.ref f4) = true)
    (a5 : PySem.W.nsIn K mainGlobals "is_prices" = some (some (.ref f5)))
    (l5 : K.lookup f5 = some ⟨oc5, od5, .func (PySem.W.fnOf "is_prices" "is_prices" (defArgs st5) (defBody st5) (defScope st5) .none kV5 dc5 pm5 an5 cd5 ct5), sl5⟩)
    (c5 : PySem.W.codeIn K cd5 "is_prices" = true)
    (k5 : PySem.W.keepIn K (.ref f5) = true)
    (a6 : PySem.W.nsIn K mainGlobals "check_prices" = some (some (.ref f6)))
    (l6 : K.lookup f6 = some ⟨oc6, od6, .func (PySem.W.fnOf "check_prices" "check_prices" (defArgs st6) (defBody st6) (defScope st6) .none kV6 dc6 pm6 an6 cd6 ct6), sl6⟩)
    (c6 : PySem.W.codeIn K cd6 "check_prices" = true)
    (k6 : PySem.W.keepIn K (.ref f6) = true)
    (a7 : PySem.W.nsIn K mainGlobals "names_in" = some (some (.ref f7)))
    (l7 : K.lookup f7 = some ⟨oc7, od7, .func (PySem.W.fnOf "names_in" "names_in" (defArgs st7) (defBody st7) (defScope st7) .none kV7 dc7 pm7 an7 cd7 ct7), sl7⟩)
    (c7 : PySem.W.codeIn K cd7 "names_in" = true)
    (k7 : PySem.W.keepIn K (.ref f7) = true)
    (a8 : PySem.W.nsIn K mainGlobals "_are_numbers" = some (some (.ref f8)))
    (l8 : K.lookup f8 = some ⟨oc8, od8, .func (PySem.W.fnOf "_are_numbers" "_are_numbers" (defArgs st8) (defBody st8) (defScope st8) .none kV8 dc8 pm8 an8 cd8 ct8), sl8⟩)
    (c8 : PySem.W.codeIn K cd8 "_are_numbers" = true)
    (k8 : PySem.W.keepIn K (.ref f8) = true)
    (a9 : PySem.W.nsIn K mainGlobals "plan_fault" = some (some (.ref f9)))
    (l9 : K.lookup f9 = some ⟨oc9, od9, .func (PySem.W.fnOf "plan_fault" "plan_fault" (defArgs st9) (defBody st9) (defScope st9) .none kV9 dc9 pm9 an9 cd9 ct9), sl9⟩)
    (c9 : PySem.W.codeIn K cd9 "plan_fault" = true)
    (k9 : PySem.W.keepIn K (.ref f9) = true)
    (a10 : PySem.W.nsIn K mainGlobals "plan_costs" = some (some (.ref f10)))
    (l10 : K.lookup f10 = some ⟨oc10, od10, .func (PySem.W.fnOf "plan_costs" "plan_costs" (defArgs st10) (defBody st10) (defScope st10) .none kV10 dc10 pm10 an10 cd10 ct10), sl10⟩)
    (c10 : PySem.W.codeIn K cd10 "plan_costs" = true)
    (k10 : PySem.W.keepIn K (.ref f10) = true)
    (a11 : PySem.W.nsIn K mainGlobals "least_plan" = some (some (.ref f11)))
    (l11 : K.lookup f11 = some ⟨oc11, od11, .func (PySem.W.fnOf "least_plan" "least_plan" (defArgs st11) (defBody st11) (defScope st11) .none kV11 dc11 pm11 an11 cd11 ct11), sl11⟩)
    (c11 : PySem.W.codeIn K cd11 "least_plan" = true)
    (k11 : PySem.W.keepIn K (.ref f11) = true)
    (a12 : PySem.W.nsIn K mainGlobals "cheapest" = some (some (.ref f12)))
    (l12 : K.lookup f12 = some ⟨oc12, od12, .func (PySem.W.fnOf "cheapest" "cheapest" (defArgs st12) (defBody st12) (defScope st12) .none kV12 dc12 pm12 an12 cd12 ct12), sl12⟩)
    (c12 : PySem.W.codeIn K cd12 "cheapest" = true)
    (k12 : PySem.W.keepIn K (.ref f12) = true)
    (a13 : PySem.W.nsIn K mainGlobals "_law_draws" = some (some (.ref f13)))
    (l13 : K.lookup f13 = some ⟨oc13, od13, .func (PySem.W.fnOf "_law_draws" "_law_draws" (defArgs st13) (defBody st13) (defScope st13) .none kV13 dc13 pm13 an13 cd13 ct13), sl13⟩)
    (c13 : PySem.W.codeIn K cd13 "_law_draws" = true)
    (k13 : PySem.W.keepIn K (.ref f13) = true)
    (a14 : PySem.W.nsIn K mainGlobals "_law_rules" = some (some (.ref f14)))
    (l14 : K.lookup f14 = some ⟨oc14, od14, .func (PySem.W.fnOf "_law_rules" "_law_rules" (defArgs st14) (defBody st14) (defScope st14) .none kV14 dc14 pm14 an14 cd14 ct14), sl14⟩)
    (c14 : PySem.W.codeIn K cd14 "_law_rules" = true)
    (k14 : PySem.W.keepIn K (.ref f14) = true)
    (a15 : PySem.W.nsIn K mainGlobals "_law_prices" = some (some (.ref f15)))
    (l15 : K.lookup f15 = some ⟨oc15, od15, .func (PySem.W.fnOf "_law_prices" "_law_prices" (defArgs st15) (defBody st15) (defScope st15) .none kV15 dc15 pm15 an15 cd15 ct15), sl15⟩)
    (c15 : PySem.W.codeIn K cd15 "_law_prices" = true)
    (k15 : PySem.W.keepIn K (.ref f15) = true)
    (a16 : PySem.W.nsIn K mainGlobals "_law_count" = some (some (.ref f16)))
    (l16 : K.lookup f16 = some ⟨oc16, od16, .func (PySem.W.fnOf "_law_count" "_law_count" (defArgs st16) (defBody st16) (defScope st16) .none kV16 dc16 pm16 an16 cd16 ct16), sl16⟩)
    (c16 : PySem.W.codeIn K cd16 "_law_count" = true)
    (k16 : PySem.W.keepIn K (.ref f16) = true)
    (a17 : PySem.W.nsIn K mainGlobals "_law_costs" = some (some (.ref f17)))
    (l17 : K.lookup f17 = some ⟨oc17, od17, .func (PySem.W.fnOf "_law_costs" "_law_costs" (defArgs st17) (defBody st17) (defScope st17) .none kV17 dc17 pm17 an17 cd17 ct17), sl17⟩)
    (c17 : PySem.W.codeIn K cd17 "_law_costs" = true)
    (k17 : PySem.W.keepIn K (.ref f17) = true)
    (a18 : PySem.W.nsIn K mainGlobals "_law_due" = some (some (.ref f18)))
    (l18 : K.lookup f18 = some ⟨oc18, od18, .func (PySem.W.fnOf "_law_due" "_law_due" (defArgs st18) (defBody st18) (defScope st18) .none kV18 dc18 pm18 an18 cd18 ct18), sl18⟩)
    (c18 : PySem.W.codeIn K cd18 "_law_due" = true)
    (k18 : PySem.W.keepIn K (.ref f18) = true)
    (a19 : PySem.W.nsIn K mainGlobals "_law_bent" = some (some (.ref f19)))
    (l19 : K.lookup f19 = some ⟨oc19, od19, .func (PySem.W.fnOf "_law_bent" "_law_bent" (defArgs st19) (defBody st19) (defScope st19) .none kV19 dc19 pm19 an19 cd19 ct19), sl19⟩)
    (c19 : PySem.W.codeIn K cd19 "_law_bent" = true)
    (k19 : PySem.W.keepIn K (.ref f19) = true)
    (a20 : PySem.W.nsIn K mainGlobals "_law_refused" = some (some (.ref f20)))
    (l20 : K.lookup f20 = some ⟨oc20, od20, .func (PySem.W.fnOf "_law_refused" "_law_refused" (defArgs st20) (defBody st20) (defScope st20) .none kV20 dc20 pm20 an20 cd20 ct20), sl20⟩)
    (c20 : PySem.W.codeIn K cd20 "_law_refused" = true)
    (k20 : PySem.W.keepIn K (.ref f20) = true)
    (a21 : PySem.W.nsIn K mainGlobals "law" = some (some (.ref f21)))
    (l21 : K.lookup f21 = some ⟨oc21, od21, .func (PySem.W.fnOf "law" "law" (defArgs st21) (defBody st21) (defScope st21) .none kV21 dc21 pm21 an21 cd21 ct21), sl21⟩)
    (c21 : PySem.W.codeIn K cd21 "law" = true)
    (k21 : PySem.W.keepIn K (.ref f21) = true)
    (a22 : PySem.W.findIn K (.ref C0) "numbers" = some (some (.ref f22)))
    (i22 : PySem.W.isFn K (.ref f22) = true)
    (l22 : K.lookup f22 = some ⟨oc22, od22, .func (PySem.W.fnOf "numbers" "Grammar.numbers" (defArgs st22) (defBody st22) (defScope st22) .none kV22 dc22 pm22 an22 cd22 ct22), sl22⟩)
    (c22 : PySem.W.codeIn K cd22 "Grammar.numbers" = true)
    (k22 : PySem.W.keepIn K (.ref f22) = true)
    (a23 : PySem.W.findIn K (.ref C0) "__init__" = some (some (.ref f23)))
    (i23 : PySem.W.isFn K (.ref f23) = true)
    (l23 : K.lookup f23 = some ⟨oc23, od23, .func (PySem.W.fnOf "__init__" "Grammar.__init__" (defArgs st23) (defBody st23) (defScope st23) .none kV23 dc23 pm23 an23 cd23 ct23), sl23⟩)
    (c23 : PySem.W.codeIn K cd23 "Grammar.__init__" = true)
    (k23 : PySem.W.keepIn K (.ref f23) = true)
    (pg0 : PySem.W.plainGet K C0 Str.empty = true)
    (hd0 : PySem.W.hasDictIn K C0 = true)
    (po0 : PySem.W.plainOver K C0 = true)
    (sa0 : PySem.W.findIn K (.ref C0) "__setattr__" = some (some (.builtin "object.__setattr__")))
    (mk0 : PySem.W.makesIn K C0 = true)
    (kc0 : PySem.W.keepIn K (.ref C0) = true)
    (n0_0 : PySem.W.findIn K (.ref C0) "start" = some none)
    (n0_1 : PySem.W.findIn K (.ref C0) "rules" = some none)
    (n0_2 : PySem.W.findIn K (.ref C0) "names" = some none)
    (n0_3 : PySem.W.findIn K (.ref C0) "letters" = some none)
    (z0 : PySem.W.nsIn K mainGlobals "isinstance" = some none)
    (z1 : PySem.W.nsIn K mainGlobals "range" = some none)
    (z2 : PySem.W.nsIn K mainGlobals "enumerate" = some none)
    (z3 : PySem.W.nsIn K mainGlobals "len" = some none)
    (z4 : PySem.W.nsIn K mainGlobals "int" = some none)
    (z5 : PySem.W.nsIn K mainGlobals "abs" = some none)
    (z6 : PySem.W.nsIn K mainGlobals "tuple" = some none)
    (z7 : PySem.W.nsIn K mainGlobals "list" = some none)
    (z8 : PySem.W.nsIn K mainGlobals "all" = some none)
    (z9 : PySem.W.nsIn K mainGlobals "any" = some none)
    (z10 : PySem.W.nsIn K mainGlobals "sum" = some none)
    (z11 : PySem.W.nsIn K mainGlobals "min" = some none)
    (z12 : PySem.W.nsIn K mainGlobals "sorted" = some none)
    (z13 : PySem.W.nsIn K mainGlobals "str" = some none)
    (z14 : PySem.W.nsIn K mainGlobals "bool" = some none)
    (z15 : PySem.W.nsIn K mainGlobals "set" = some none)
    (gl0 : PySem.W.nsIn K mainGlobals "MOST_RULES" = some (some (.int (40) tk0)))
    (gl1 : PySem.W.nsIn K mainGlobals "MOST_NAMES" = some (some (.int (12) tk1)))
    (gl2 : PySem.W.nsIn K mainGlobals "MOST_BODY" = some (some (.int (8) tk2)))
    (gl3 : PySem.W.nsIn K mainGlobals "MOST_SIGNS" = some (some (.int (6) tk3)))
    (gl4 : PySem.W.nsIn K mainGlobals "LETTERS" = some (some (.str "abcdefghijklmnopqrstuvwxyz" tk4)))
    (gl5 : PySem.W.nsIn K mainGlobals "CAPITALS" = some (some (.str "ABCDEFGHIJKLMNOPQRSTUVWXYZ" tk5)))
    (gl6 : PySem.W.nsIn K mainGlobals "FORM" = some (some (.str "form" tk6)))
    (aE0 : PySem.W.nsIn K mainGlobals "GrammarError" = some (some (.ref E0)))
    (kE0 : PySem.W.keepIn K (.ref E0) = true)
    (sE0 : PySem.W.subIn K (.ref E0) (.type "BaseException") = some true)
    (tE0 : PySem.W.typeIn K (.ref E0) = some (.type "type"))
    (xE0 : PySem.W.excIn K E0 [.type "ValueError", .type "Exception", .type "BaseException", .type "object"] "ValueError.__new__" = true)
    (qE0 : PySem.W.isClsIn K E0 = true)
    (aE1 : PySem.W.nsIn K mainGlobals "BadGrammar" = some (some (.ref E1)))
    (kE1 : PySem.W.keepIn K (.ref E1) = true)
    (sE1 : PySem.W.subIn K (.ref E1) (.type "BaseException") = some true)
    (tE1 : PySem.W.typeIn K (.ref E1) = some (.type "type"))
    (xE1 : PySem.W.excIn K E1 [.type "ValueError", .type "Exception", .type "BaseException", .type "object"] "ValueError.__new__" = true)
    (qE1 : PySem.W.isClsIn K E1 = true)
    (aE2 : PySem.W.nsIn K mainGlobals "BadPrices" = some (some (.ref E2)))
    (kE2 : PySem.W.keepIn K (.ref E2) = true)
    (sE2 : PySem.W.subIn K (.ref E2) (.type "BaseException") = some true)
    (tE2 : PySem.W.typeIn K (.ref E2) = some (.type "type"))
    (xE2 : PySem.W.excIn K E2 [.type "ValueError", .type "Exception", .type "BaseException", .type "object"] "ValueError.__new__" = true)
    (qE2 : PySem.W.isClsIn K E2 = true)
    (aE3 : PySem.W.nsIn K mainGlobals "BadPlan" = some (some (.ref E3)))
    (kE3 : PySem.W.keepIn K (.ref E3) = true)
    (sE3 : PySem.W.subIn K (.ref E3) (.type "BaseException") = some true)
    (tE3 : PySem.W.typeIn K (.ref E3) = some (.type "type"))
    (xE3 : PySem.W.excIn K E3 [.type "ValueError", .type "Exception", .type "BaseException", .type "object"] "ValueError.__new__" = true)
    (qE3 : PySem.W.isClsIn K E3 = true)
    (xhn : PySem.W.specialIn K (.builtin "object.__class__") "__get__" = some (some (.builtin "getset_descriptor.__get__")))
    (xht : PySem.W.takesIn K (.builtin "object.__class__") = some true)
    (xg0 : PySem.W.findIn K (.ref E0) "__getattribute__" = some (some (.builtin "BaseException.__getattribute__")))
    (xk0 : PySem.W.findIn K (.ref E0) "__getattr__" = some none)
    (xd0 : PySem.W.hasDictIn K E0 = true)
    (xa0 : PySem.W.findIn K (.ref E0) "__class__" = some (some (.builtin "object.__class__")))
    (xm0 : PySem.W.mroIn K E0 (.type "object") = some true)
    (xg1 : PySem.W.findIn K (.ref E1) "__getattribute__" = some (some (.builtin "BaseException.__getattribute__")))
    (xk1 : PySem.W.findIn K (.ref E1) "__getattr__" = some none)
    (xd1 : PySem.W.hasDictIn K E1 = true)
    (xa1 : PySem.W.findIn K (.ref E1) "__class__" = some (some (.builtin "object.__class__")))
    (xm1 : PySem.W.mroIn K E1 (.type "object") = some true)
    (xg2 : PySem.W.findIn K (.ref E2) "__getattribute__" = some (some (.builtin "BaseException.__getattribute__")))
    (xk2 : PySem.W.findIn K (.ref E2) "__getattr__" = some none)
    (xd2 : PySem.W.hasDictIn K E2 = true)
    (xa2 : PySem.W.findIn K (.ref E2) "__class__" = some (some (.builtin "object.__class__")))
    (xm2 : PySem.W.mroIn K E2 (.type "object") = some true)
    (xg3 : PySem.W.findIn K (.ref E3) "__getattribute__" = some (some (.builtin "BaseException.__getattribute__")))
    (xk3 : PySem.W.findIn K (.ref E3) "__getattr__" = some none)
    (xd3 : PySem.W.hasDictIn K E3 = true)
    (xa3 : PySem.W.findIn K (.ref E3) "__class__" = some (some (.builtin "object.__class__")))
    (xm3 : PySem.W.mroIn K E3 (.type "object") = some true)
    (ki0_0 : PySem.W.kitOne K (.ref E0) (.ref E0) = some true)
    (ki0_1 : PySem.W.kitOne K (.ref E0) (.ref E1) = some false)
    (ki0_2 : PySem.W.kitOne K (.ref E0) (.ref E2) = some false)
    (ki0_3 : PySem.W.kitOne K (.ref E0) (.ref E3) = some false)
    (ki1_0 : PySem.W.kitOne K (.ref E1) (.ref E0) = some true)
    (ki1_1 : PySem.W.kitOne K (.ref E1) (.ref E1) = some true)
    (ki1_2 : PySem.W.kitOne K (.ref E1) (.ref E2) = some false)
    (ki1_3 : PySem.W.kitOne K (.ref E1) (.ref E3) = some false)
    (ki2_0 : PySem.W.kitOne K (.ref E2) (.ref E0) = some true)
    (ki2_1 : PySem.W.kitOne K (.ref E2) (.ref E1) = some false)
    (ki2_2 : PySem.W.kitOne K (.ref E2) (.ref E2) = some true)
    (ki2_3 : PySem.W.kitOne K (.ref E2) (.ref E3) = some false)
    (ki3_0 : PySem.W.kitOne K (.ref E3) (.ref E0) = some true)
    (ki3_1 : PySem.W.kitOne K (.ref E3) (.ref E1) = some false)
    (ki3_2 : PySem.W.kitOne K (.ref E3) (.ref E2) = some false)
    (ki3_3 : PySem.W.kitOne K (.ref E3) (.ref E3) = some true)
    (m0_0 : PySem.W.subIn K (.ref E0) (.ref E0) = some true)
    (m0_1 : PySem.W.subIn K (.ref E0) (.ref E1) = some false)
    (m0_2 : PySem.W.subIn K (.ref E0) (.ref E2) = some false)
    (m0_3 : PySem.W.subIn K (.ref E0) (.ref E3) = some false)
    (m1_0 : PySem.W.subIn K (.ref E1) (.ref E0) = some true)
    (m1_1 : PySem.W.subIn K (.ref E1) (.ref E1) = some true)
    (m1_2 : PySem.W.subIn K (.ref E1) (.ref E2) = some false)
    (m1_3 : PySem.W.subIn K (.ref E1) (.ref E3) = some false)
    (m2_0 : PySem.W.subIn K (.ref E2) (.ref E0) = some true)
    (m2_1 : PySem.W.subIn K (.ref E2) (.ref E1) = some false)
    (m2_2 : PySem.W.subIn K (.ref E2) (.ref E2) = some true)
    (m2_3 : PySem.W.subIn K (.ref E2) (.ref E3) = some false)
    (m3_0 : PySem.W.subIn K (.ref E3) (.ref E0) = some true)
    (m3_1 : PySem.W.subIn K (.ref E3) (.ref E1) = some false)
    (m3_2 : PySem.W.subIn K (.ref E3) (.ref E2) = some false)
    (m3_3 : PySem.W.subIn K (.ref E3) (.ref E3) = some true)
    : ∃ fd : FuncData, (∀ (s : Shared) (v : Value), BindsTo s fd ⟨[v], []⟩ [("script", v)]) ∧ ∀ base : Heap, K.In base → base.Ns mainGlobals mg → FnOk l.prog w K mg base (L2.CX l.prog w) 36 fa fd ["script"] (spLaw K) := by
  have e := hfa.symm.trans (PySem.W.mg_of X G a21)
  cases e
  have F0 := fun_mk (st := st0) l0 c0 k0
  have b0 := F0.binds (ps := ["value"]) fun _ _ _ _ _ _ us hl => match us, hl with | [_], _ => rfl
  have F1 := fun_mk (st := st1) l1 c1 k1
  have b1 := F1.binds (ps := ["value"]) fun _ _ _ _ _ _ us hl => match us, hl with | [_], _ => rfl
  have F2 := fun_mk (st := st2) l2 c2 k2
  have b2 := F2.binds (ps := ["value"]) fun _ _ _ _ _ _ us hl => match us, hl with | [_], _ => rfl
  have F3 := fun_mk (st := st3) l3 c3 k3
  have b3 := F3.binds (ps := ["value"]) fun _ _ _ _ _ _ us hl => match us, hl with | [_], _ => rfl
  have F4 := fun_mk (st := st4) l4 c4 k4
  have b4 := F4.binds (ps := ["value"]) fun _ _ _ _ _ _ us hl => match us, hl with | [_], _ => rfl
  have F5 := fun_mk (st := st5) l5 c5 k5
  have b5 := F5.binds (ps := ["grammar", "value"]) fun _ _ _ _ _ _ us hl => match us, hl with | [_, _], _ => rfl
  have F6 := fun_mk (st := st6) l6 c6 k6
  have b6 := F6.binds (ps := ["grammar", "value"]) fun _ _ _ _ _ _ us hl => match us, hl with | [_, _], _ => rfl
  have F7 := fun_mk (st := st7) l7 c7 k7
  have b7 := F7.binds (ps := ["body"]) fun _ _ _ _ _ _ us hl => match us, hl with | [_], _ => rfl
  have F8 := fun_mk (st := st8) l8 c8 k8
  have b8 := F8.binds (ps := ["grammar", "value"]) fun _ _ _ _ _ _ us hl => match us, hl with | [_, _], _ => rfl
  have F9 := fun_mk (st := st9) l9 c9 k9
  have b9 := F9.binds (ps := ["grammar", "plan"]) fun _ _ _ _ _ _ us hl => match us, hl with | [_, _], _ => rfl
  have F10 := fun_mk (st := st10) l10 c10 k10
  have b10 := F10.binds (ps := ["grammar", "prices", "plan"]) fun _ _ _ _ _ _ us hl => match us, hl with | [_, _, _], _ => rfl
  have F11 := fun_mk (st := st11) l11 c11 k11
  have b11 := F11.binds (ps := ["grammar", "prices"]) fun _ _ _ _ _ _ us hl => match us, hl with | [_, _], _ => rfl
  have F12 := fun_mk (st := st12) l12 c12 k12
  have b12 := F12.binds (ps := ["grammar", "prices"]) fun _ _ _ _ _ _ us hl => match us, hl with | [_, _], _ => rfl
  have F13 := fun_mk (st := st13) l13 c13 k13
  have b13 := F13.binds (ps := ["script", "many"]) fun _ _ _ _ _ _ us hl => match us, hl with | [_, _], _ => rfl
  have F14 := fun_mk (st := st14) l14 c14 k14
  have b14 := F14.binds (ps := ["draws", "most"]) fun _ _ _ _ _ _ us hl => match us, hl with | [_, _], _ => rfl
  have F15 := fun_mk (st := st15) l15 c15 k15
  have b15 := F15.binds (ps := ["draws", "many"]) fun _ _ _ _ _ _ us hl => match us, hl with | [_, _], _ => rfl
  have F16 := fun_mk (st := st16) l16 c16 k16
  have b16 := F16.binds (ps := ["value"]) fun _ _ _ _ _ _ us hl => match us, hl with | [_], _ => rfl
  have F17 := fun_mk (st := st17) l17 c17 k17
  have b17 := F17.binds (ps := ["rules", "prices"]) fun _ _ _ _ _ _ us hl => match us, hl with | [_, _], _ => rfl
  have F18 := fun_mk (st := st18) l18 c18 k18
  have b18 := F18.binds (ps := ["rules", "value"]) fun _ _ _ _ _ _ us hl => match us, hl with | [_, _], _ => rfl
  have F19 := fun_mk (st := st19) l19 c19 k19
  have b19 := F19.binds (ps := ["draws", "rules", "plan"]) fun _ _ _ _ _ _ us hl => match us, hl with | [_, _, _], _ => rfl
  have F20 := fun_mk (st := st20) l20 c20 k20
  have b20 := F20.binds (ps := ["grammar", "prices", "value"]) fun _ _ _ _ _ _ us hl => match us, hl with | [_, _, _], _ => rfl
  have F21 := fun_mk (st := st21) l21 c21 k21
  have b21 := F21.binds (ps := ["script"]) fun _ _ _ _ _ _ us hl => match us, hl with | [_], _ => rfl
  have F22 := fun_mk (st := st22) l22 c22 k22
  have b22 := F22.binds (ps := ["self", "name"]) fun _ _ _ _ _ _ us hl => match us, hl with | [_, _], _ => rfl
  have F23 := fun_mk (st := st23) l23 c23 k23
  have b23 := F23.binds (ps := ["self", "start", "rules"]) fun _ _ _ _ _ _ us hl => match us, hl with | [_, _, _], _ => rfl
  have M : Mo ⟨[], false, TT, FF, MM, BB, [], []⟩ ⟨fun k => ([C0] : List Addr)[k]?, fun i => FN.getD i "", flP⟩ (fun k => Value.ref (([E0, E1, E2, E3] : List Addr).getD k E0)) prg K mg := {
    con := by
      intro x y h
      have m := mem_look h
      simp only [TT, List.mem_cons, List.not_mem_nil, or_false, Prod.mk.injEq, GK.con.injEq, reduceCtorEq, and_false, or_false, false_or] at m
      rcases m with ⟨rfl, rfl⟩ | ⟨rfl, rfl⟩ | ⟨rfl, rfl⟩ | ⟨rfl, rfl⟩ | ⟨rfl, rfl⟩ | ⟨rfl, rfl⟩ | ⟨rfl, rfl⟩
      · exact ⟨_, .int (40), PySem.W.mg_of X G gl0, ⟨_, rfl⟩, fun G => by unfold RepF; rfl⟩
      · exact ⟨_, .int (12), PySem.W.mg_of X G gl1, ⟨_, rfl⟩, fun G => by unfold RepF; rfl⟩
      · exact ⟨_, .int (8), PySem.W.mg_of X G gl2, ⟨_, rfl⟩, fun G => by unfold RepF; rfl⟩
      · exact ⟨_, .int (6), PySem.W.mg_of X G gl3, ⟨_, rfl⟩, fun G => by unfold RepF; rfl⟩
      · exact ⟨_, .str "abcdefghijklmnopqrstuvwxyz", PySem.W.mg_of X G gl4, ⟨_, rfl⟩, fun G => by unfold RepF; rfl⟩
      · exact ⟨_, .str "ABCDEFGHIJKLMNOPQRSTUVWXYZ", PySem.W.mg_of X G gl5, ⟨_, rfl⟩, fun G => by unfold RepF; rfl⟩
      · exact ⟨_, .str "form", PySem.W.mg_of X G gl6, ⟨_, rfl⟩, fun G => by unfold RepF; rfl⟩

    fn := by
      intro x y h
      have m := mem_look h
      simp only [TT, List.mem_cons, List.not_mem_nil, or_false, Prod.mk.injEq, GK.fn.injEq, reduceCtorEq, and_false, or_false, false_or] at m
      rcases m with ⟨rfl, rfl⟩ | ⟨rfl, rfl⟩ | ⟨rfl, rfl⟩ | ⟨rfl, rfl⟩ | ⟨rfl, rfl⟩ | ⟨rfl, rfl⟩ | ⟨rfl, rfl⟩ | ⟨rfl, rfl⟩ | ⟨rfl, rfl⟩ | ⟨rfl, rfl⟩ | ⟨rfl, rfl⟩ | ⟨rfl, rfl⟩ | ⟨rfl, rfl⟩ | ⟨rfl, rfl⟩ | ⟨rfl, rfl⟩ | ⟨rfl, rfl⟩ | ⟨rfl, rfl⟩ | ⟨rfl, rfl⟩ | ⟨rfl, rfl⟩ | ⟨rfl, rfl⟩ | ⟨rfl, rfl⟩ | ⟨rfl, rfl⟩
      · exact ⟨_, _, PySem.W.mg_of X G a0, rfl, ⟨⟨_, _, _, _, _, _, _, _, F0, b0, sc0, rfl, rfl, .inl co0⟩⟩⟩
      · exact ⟨_, _, PySem.W.mg_of X G a1, rfl, ⟨⟨_, _, _, _, _, _, _, _, F1, b1, sc1, rfl, rfl, .inl co1⟩⟩⟩
      · exact ⟨_, _, PySem.W.mg_of X G a2, rfl, ⟨⟨_, _, _, _, _, _, _, _, F2, b2, sc2, rfl, rfl, .inl co2⟩⟩⟩
      · exact ⟨_, _, PySem.W.mg_of X G a3, rfl, ⟨⟨_, _, _, _, _, _, _, _, F3, b3, sc3, rfl, rfl, .inl co3⟩⟩⟩
      · exact ⟨_, _, PySem.W.mg_of X G a4, rfl, ⟨⟨_, _, _, _, _, _, _, _, F4, b4, sc4, rfl, rfl, .inl co4⟩⟩⟩
      · exact ⟨_, _, PySem.W.mg_of X G a5, rfl, ⟨⟨_, _, _, _, _, _, _, _, F5, b5, sc5, rfl, rfl, .inl co5⟩⟩⟩
      · exact ⟨_, _, PySem.W.mg_of X G a6, rfl, ⟨⟨_, _, _, _, _, _, _, _, F6, b6, sc6, rfl, rfl, .inl co6⟩⟩⟩
      · exact ⟨_, _, PySem.W.mg_of X G a7, rfl, ⟨⟨_, _, _, _, _, _, _, _, F7, b7, sc7, rfl, rfl, .inl co7⟩⟩⟩
      · exact ⟨_, _, PySem.W.mg_of X G a8, rfl, ⟨⟨_, _, _, _, _, _, _, _, F8, b8, sc8, rfl, rfl, .inl co8⟩⟩⟩
      · exact ⟨_, _, PySem.W.mg_of X G a9, rfl, ⟨⟨_, _, _, _, _, _, _, _, F9, b9, sc9, rfl, rfl, .inl co9⟩⟩⟩
      · exact ⟨_, _, PySem.W.mg_of X G a10, rfl, ⟨⟨_, _, _, _, _, _, _, _, F10, b10, sc10, rfl, rfl, .inl co10⟩⟩⟩
      · exact ⟨_, _, PySem.W.mg_of X G a11, rfl, ⟨⟨_, _, _, _, _, _, _, _, F11, b11, sc11, rfl, rfl, .inl co11⟩⟩⟩
      · exact ⟨_, _, PySem.W.mg_of X G a12, rfl, ⟨⟨_, _, _, _, _, _, _, _, F12, b12, sc12, rfl, rfl, .inl co12⟩⟩⟩
      · exact ⟨_, _, PySem.W.mg_of X G a13, rfl, ⟨⟨_, _, _, _, _, _, _, _, F13, b13, sc13, rfl, rfl, .inl co13⟩⟩⟩
      · exact ⟨_, _, PySem.W.mg_of X G a14, rfl, ⟨⟨_, _, _, _, _, _, _, _, F14, b14, sc14, rfl, rfl, .inl co14⟩⟩⟩
      · exact ⟨_, _, PySem.W.mg_of X G a15, rfl, ⟨⟨_, _, _, _, _, _, _, _, F15, b15, sc15, rfl, rfl, .inl co15⟩⟩⟩
      · exact ⟨_, _, PySem.W.mg_of X G a16, rfl, ⟨⟨_, _, _, _, _, _, _, _, F16, b16, sc16, rfl, rfl, .inl co16⟩⟩⟩
      · exact ⟨_, _, PySem.W.mg_of X G a17, rfl, ⟨⟨_, _, _, _, _, _, _, _, F17, b17, sc17, rfl, rfl, .inl co17⟩⟩⟩
      · exact ⟨_, _, PySem.W.mg_of X G a18, rfl, ⟨⟨_, _, _, _, _, _, _, _, F18, b18, sc18, rfl, rfl, .inl co18⟩⟩⟩
      · exact ⟨_, _, PySem.W.mg_of X G a19, rfl, ⟨⟨_, _, _, _, _, _, _, _, F19, b19, sc19, rfl, rfl, .inl co19⟩⟩⟩
      · exact ⟨_, _, PySem.W.mg_of X G a20, rfl, ⟨⟨_, _, _, _, _, _, _, _, F20, b20, sc20, rfl, rfl, .inl co20⟩⟩⟩
      · exact ⟨_, _, PySem.W.mg_of X G a21, rfl, ⟨⟨_, _, _, _, _, _, _, _, F21, b21, sc21, rfl, rfl, .inl co21⟩⟩⟩

    cls := by
      intro x y h
      have m := mem_look h
      simp only [TT, List.mem_cons, List.not_mem_nil, or_false, Prod.mk.injEq, GK.cls.injEq, reduceCtorEq, and_false, or_false, false_or] at m
      obtain ⟨rfl, rfl⟩ := m
      exact ⟨_, _, _, PySem.W.mg_of X G aC0, rfl, ⟨mk0, a23, i23, kc0⟩, rfl, ⟨⟨_, _, _, _, _, _, _, _, F23, b23, sc23, rfl, rfl, .inl co23⟩⟩⟩

    exc := by
      intro x y h
      have m := mem_look h
      simp only [TT, List.mem_cons, List.not_mem_nil, or_false, Prod.mk.injEq, GK.exc.injEq, reduceCtorEq, and_false, or_false, false_or] at m
      rcases m with ⟨rfl, rfl⟩ | ⟨rfl, rfl⟩ | ⟨rfl, rfl⟩ | ⟨rfl, rfl⟩
      · exact ⟨_, PySem.W.mg_of X G aE0, rfl, kE0, sE0, tE0, xE0⟩
      · exact ⟨_, PySem.W.mg_of X G aE1, rfl, kE1, sE1, tE1, xE1⟩
      · exact ⟨_, PySem.W.mg_of X G aE2, rfl, kE2, sE2, tE2, xE2⟩
      · exact ⟨_, PySem.W.mg_of X G aE3, rfl, kE3, sE3, tE3, xE3⟩

    sub := by
      intro j y ⟨x, h⟩
      have m := mem_look h
      simp only [TT, List.mem_cons, List.not_mem_nil, or_false, Prod.mk.injEq, GK.exc.injEq, reduceCtorEq, and_false, or_false, false_or] at m
      rcases m with ⟨rfl, rfl⟩ | ⟨rfl, rfl⟩ | ⟨rfl, rfl⟩ | ⟨rfl, rfl⟩
      · match j with
        | 0 => exact exm_of sE0 qE0 tE0 m0_0
        | 1 => exact exm_of sE0 qE0 tE0 m1_0
        | 2 => exact exm_of sE0 qE0 tE0 m2_0
        | 3 => exact exm_of sE0 qE0 tE0 m3_0
        | _ + 4 => exact exm_of sE0 qE0 tE0 m0_0
      · match j with
        | 0 => exact exm_of sE1 qE1 tE1 m0_1
        | 1 => exact exm_of sE1 qE1 tE1 m1_1
        | 2 => exact exm_of sE1 qE1 tE1 m2_1
        | 3 => exact exm_of sE1 qE1 tE1 m3_1
        | _ + 4 => exact exm_of sE1 qE1 tE1 m0_1
      · match j with
        | 0 => exact exm_of sE2 qE2 tE2 m0_2
        | 1 => exact exm_of sE2 qE2 tE2 m1_2
        | 2 => exact exm_of sE2 qE2 tE2 m2_2
        | 3 => exact exm_of sE2 qE2 tE2 m3_2
        | _ + 4 => exact exm_of sE2 qE2 tE2 m0_2
      · match j with
        | 0 => exact exm_of sE3 qE3 tE3 m0_3
        | 1 => exact exm_of sE3 qE3 tE3 m1_3
        | 2 => exact exm_of sE3 qE3 tE3 m2_3
        | 3 => exact exm_of sE3 qE3 tE3 m3_3
        | _ + 4 => exact exm_of sE3 qE3 tE3 m0_3
    exi := fun _ k => by
      match k with
      | 0 => exact ⟨E0, rfl, ⟨xg0, xk0, sE0, xd0, xa0, xhn, xht, xm0⟩⟩
      | 1 => exact ⟨E1, rfl, ⟨xg1, xk1, sE1, xd1, xa1, xhn, xht, xm1⟩⟩
      | 2 => exact ⟨E2, rfl, ⟨xg2, xk2, sE2, xd2, xa2, xhn, xht, xm2⟩⟩
      | 3 => exact ⟨E3, rfl, ⟨xg3, xk3, sE3, xd3, xa3, xhn, xht, xm3⟩⟩
      | _ + 4 => exact ⟨E0, rfl, ⟨xg0, xk0, sE0, xd0, xa0, xhn, xht, xm0⟩⟩
    kit := by
      intro _ j y ⟨x, h⟩
      have m := mem_look h
      simp only [TT, List.mem_cons, List.not_mem_nil, or_false, Prod.mk.injEq, GK.exc.injEq, reduceCtorEq, and_false, or_false, false_or] at m
      rcases m with ⟨rfl, rfl⟩ | ⟨rfl, rfl⟩ | ⟨rfl, rfl⟩ | ⟨rfl, rfl⟩
      · match j with
        | 0 => exact ki0_0
        | 1 => exact ki1_0
        | 2 => exact ki2_0
        | 3 => exact ki3_0
        | _ + 4 => exact ki0_0
      · match j with
        | 0 => exact ki0_1
        | 1 => exact ki1_1
        | 2 => exact ki2_1
        | 3 => exact ki3_1
        | _ + 4 => exact ki0_1
      · match j with
        | 0 => exact ki0_2
        | 1 => exact ki1_2
        | 2 => exact ki2_2
        | 3 => exact ki3_2
        | _ + 4 => exact ki0_2
      · match j with
        | 0 => exact ki0_3
        | 1 => exact ki1_3
        | 2 => exact ki2_3
        | 3 => exact ki3_3
        | _ + 4 => exact ki0_3
    blt := by
      intro x h
      simp only [BB, List.contains_iff_mem, List.mem_cons, List.not_mem_nil, or_false] at h
      rcases h with rfl | rfl | rfl | rfl | rfl | rfl | rfl | rfl | rfl | rfl | rfl | rfl | rfl | rfl | rfl | rfl
      · exact PySem.W.mg_none_of X G z0
      · exact PySem.W.mg_none_of X G z1
      · exact PySem.W.mg_none_of X G z2
      · exact PySem.W.mg_none_of X G z3
      · exact PySem.W.mg_none_of X G z4
      · exact PySem.W.mg_none_of X G z5
      · exact PySem.W.mg_none_of X G z6
      · exact PySem.W.mg_none_of X G z7
      · exact PySem.W.mg_none_of X G z8
      · exact PySem.W.mg_none_of X G z9
      · exact PySem.W.mg_none_of X G z10
      · exact PySem.W.mg_none_of X G z11
      · exact PySem.W.mg_none_of X G z12
      · exact PySem.W.mg_none_of X G z13
      · exact PySem.W.mg_none_of X G z14
      · exact PySem.W.mg_none_of X G z15
    fld := by
      intro f i h
      have m := mem_look h
      simp only [FF, List.mem_cons, List.not_mem_nil, or_false, Prod.mk.injEq] at m
      rcases m with ⟨rfl, rfl⟩ | ⟨rfl, rfl⟩ | ⟨rfl, rfl⟩ | ⟨rfl, rfl⟩
      · exact ⟨rfl, fun j hj => fld0 j hj⟩
      · exact ⟨rfl, fun j hj => fld1 j hj⟩
      · exact ⟨rfl, fun j hj => fld2 j hj⟩
      · exact ⟨rfl, fun j hj => fld3 j hj⟩
    att := by
      intro k A i h1 h2
      match k, h1 with
      | 0, h1 =>
        cases h1
        refine ⟨⟨pg0, hd0, po0, sa0⟩, ?_⟩
        match i, h2 with
        | 0, _ => exact n0_0
        | 1, _ => exact n0_1
        | 2, _ => exact n0_2
        | 3, _ => exact n0_3
        | _ + 4, h2 => exact absurd h2 (by simp [flP])
      | _ + 1, h1 => exact absurd h1 (by simp)
    hfs := fun _ _ h => h
    mth := by
      intro mm j k f A h1 h2 h3
      have m := mem_look h1
      simp only [MM, List.mem_cons, List.not_mem_nil, or_false, Prod.mk.injEq] at m
      obtain ⟨rfl, rfl⟩ := m
      · match k, h2, h3 with
        | 0, h2, h3 =>
          cases h2
          cases h3
          refine ⟨_, _, ⟨pg0, hd0, po0, sa0⟩, ⟨a22, i22, k22⟩, rfl, ⟨⟨_, _, _, _, _, _, _, _, F22, b22, sc22, rfl, rfl, .inl co22⟩⟩, fun i hi => ?_⟩
          match i, hi with
          | 0, _ => exact (show ¬ (FN.getD 0 "" = "numbers") from by decide +kernel)
          | 1, _ => exact (show ¬ (FN.getD 1 "" = "numbers") from by decide +kernel)
          | 2, _ => exact (show ¬ (FN.getD 2 "" = "numbers") from by decide +kernel)
          | 3, _ => exact (show ¬ (FN.getD 3 "" = "numbers") from by decide +kernel)
          | _ + 4, hi => exact absurd hi (by simp [flP])
        | _ + 1, _, h3 => exact absurd h3 (by simp) }
  exact ⟨_, fun s v => .of_eq rfl, fun base _ _ => law_ok (n := 5) M F21 sc21 rfl co21 law_plain⟩
end GK
set_option maxRecDepth 100000 in
set_option maxHeartbeats 0 in
theorem PySem.Challenge.cw_grammarforge_k31_plans_of_rules_holds : PySem.Challenge.rw_grammarforge_k31_plans_of_rules.Holds := by
  w_on; o_law; k_head; (case hw => w_witness2)
  k_fill
  refine GF.law_walk (l := PySem.Challenge.rw_grammarforge_k31_plans_of_rules) (k := 36) rfl rfl ⟨rfl, by decide, by decide⟩ (fun w h Y => PySem.W.kIn_of Y) ?F
  case F =>
    intro w mg fa h KX G hmg
    refine' GK.all_mk KX G hmg ?aC0 ?a0 ?l0 ?c0 ?k0 ?a1 ?l1 ?c1 ?k1 ?a2 ?l2 ?c2 ?k2 ?a3 ?l3 ?c3 ?k3 ?a4 ?l4 ?c4 ?k4 ?a5 ?l5 ?c5 ?k5 ?a6 ?l6 ?c6 ?k6 ?a7 ?l7 ?c7 ?k7 ?a8 ?l8 ?c8 ?k8 ?a9 ?l9 ?c9 ?k9 ?a10 ?l10 ?c10 ?k10 ?a11 ?l11 ?c11 ?k11 ?a12 ?l12 ?c12 ?k12 ?a13 ?l13 ?c13 ?k13 ?a14 ?l14 ?c14 ?k14 ?a15 ?l15 ?c15 ?k15 ?a16 ?l16 ?c16 ?k16 ?a17 ?l17 ?c17 ?k17 ?a18 ?l18 ?c18 ?k18 ?a19 ?l19 ?c19 ?k19 ?a20 ?l20 ?c20 ?k20 ?a21 ?l21 ?c21 ?k21 ?a22 ?i22 ?l22 ?c22 ?k22 ?a23 ?i23 ?l23 ?c23 ?k23 ?pg0 ?hd0 ?po0 ?sa0 ?mk0 ?kc0 ?n0_0 ?n0_1 ?n0_2 ?n0_3 ?z0 ?z1 ?z2 ?z3 ?z4 ?z5 ?z6 ?z7 ?z8 ?z9 ?z10 ?z11 ?z12 ?z13 ?z14 ?z15 ?gl0 ?gl1 ?gl2 ?gl3 ?gl4 ?gl5 ?gl6 ?aE0 ?kE0 ?sE0 ?tE0 ?xE0 ?qE0 ?aE1 ?kE1 ?sE1 ?tE1 ?xE1 ?qE1 ?aE2 ?kE2 ?sE2 ?tE2 ?xE2 ?qE2 ?aE3 ?kE3 ?sE3 ?tE3 ?xE3 ?qE3 ?xhn ?xht ?xg0 ?xk0 ?xd0 ?xa0 ?xm0 ?xg1 ?xk1 ?xd1 ?xa1 ?xm1 ?xg2 ?xk2 ?xd2 ?xa2 ?xm2 ?xg3 ?xk3 ?xd3 ?xa3 ?xm3 ?ki0_0 ?ki0_1 ?ki0_2 ?ki0_3 ?ki1_0 ?ki1_1 ?ki1_2 ?ki1_3 ?ki2_0 ?ki2_1 ?ki2_2 ?ki2_3 ?ki3_0 ?ki3_1 ?ki3_2 ?ki3_3 ?m0_0 ?m0_1 ?m0_2 ?m0_3 ?m1_0 ?m1_1 ?m1_2 ?m1_3 ?m2_0 ?m2_1 ?m2_2 ?m2_3 ?m3_0 ?m3_1 ?m3_2 ?m3_3
    (case aC0 => k_is)
    (case a0 => k_is)
    (case l0 => k_is)
    (case c0 => k_is)
    (case k0 => k_is)
    (case a1 => k_is)
    (case l1 => k_is)
    (case c1 => k_is)
    (case k1 => k_is)
    (case a2 => k_is)
    (case l2 => k_is)
    (case c2 => k_is)
    (case k2 => k_is)
    (case a3 => k_is)
    (case l3 => k_is)
    (case c3 => k_is)
    (case k3 => k_is)
    (case a4 => k_is)
    (case l4 => k_is)
    (case c4 => k_is)
    (case k4 => k_is)
    (case a5 => k_is)
    (case l5 => k_is)
    (case c5 => k_is)
    (case k5 => k_is)
    (case a6 => k_is)
    (case l6 => k_is)
    (case c6 => k_is)
    (case k6 => k_is)
    (case a7 => k_is)
    (case l7 => k_is)
    (case c7 => k_is)
    (case k7 => k_is)
    (case a8 => k_is)
    (case l8 => k_is)
    (case c8 => k_is)
    (case k8 => k_is)
    (case a9 => k_is)
    (case l9 => k_is)
    (case c9 => k_is)
    (case k9 => k_is)
    (case a10 => k_is)
    (case l10 => k_is)
    (case c10 => k_is)
    (case k10 => k_is)
    (case a11 => k_is)
    (case l11 => k_is)
    (case c11 => k_is)
    (case k11 => k_is)
    (case a12 => k_is)
    (case l12 => k_is)
    (case c12 => k_is)
    (case k12 => k_is)
    (case a13 => k_is)
    (case l13 => k_is)
    (case c13 => k_is)
    (case k13 => k_is)
    (case a14 => k_is)
    (case l14 => k_is)
    (case c14 => k_is)
    (case k14 => k_is)
    (case a15 => k_is)
    (case l15 => k_is)
    (case c15 => k_is)
    (case k15 => k_is)
    (case a16 => k_is)
    (case l16 => k_is)
    (case c16 => k_is)
    (case k16 => k_is)
    (case a17 => k_is)
    (case l17 => k_is)
    (case c17 => k_is)
    (case k17 => k_is)
    (case a18 => k_is)
    (case l18 => k_is)
    (case c18 => k_is)
    (case k18 => k_is)
    (case a19 => k_is)
    (case l19 => k_is)
    (case c19 => k_is)
    (case k19 => k_is)
    (case a20 => k_is)
    (case l20 => k_is)
    (case c20 => k_is)
    (case k20 => k_is)
    (case a21 => k_is)
    (case l21 => k_is)
    (case c21 => k_is)
    (case k21 => k_is)
    (case a22 => k_is)
    (case i22 => k_is)
    (case l22 => k_is)
    (case c22 => k_is)
    (case k22 => k_is)
    (case a23 => k_is)
    (case i23 => k_is)
    (case l23 => k_is)
    (case c23 => k_is)
    (case k23 => k_is)
    (case pg0 => k_is)
    (case hd0 => k_is)
    (case po0 => k_is)
    (case sa0 => k_is)
    (case mk0 => k_is)
    (case kc0 => k_is)
    (case n0_0 => k_is)
    (case n0_1 => k_is)
    (case n0_2 => k_is)
    (case n0_3 => k_is)
    (case z0 => k_is)
    (case z1 => k_is)
    (case z2 => k_is)
    (case z3 => k_is)
    (case z4 => k_is)
    (case z5 => k_is)
    (case z6 => k_is)
    (case z7 => k_is)
    (case z8 => k_is)
    (case z9 => k_is)
    (case z10 => k_is)
    (case z11 => k_is)
    (case z12 => k_is)
    (case z13 => k_is)
    (case z14 => k_is)
    (case z15 => k_is)
    (case gl0 => k_is)
    (case gl1 => k_is)
    (case gl2 => k_is)
    (case gl3 => k_is)
    (case gl4 => k_is)
    (case gl5 => k_is)
    (case gl6 => k_is)
    (case aE0 => k_is)
    (case kE0 => k_is)
    (case sE0 => k_is)
    (case tE0 => k_is)
    (case xE0 => k_exc)
    (case qE0 => k_is)
    (case aE1 => k_is)
    (case kE1 => k_is)
    (case sE1 => k_is)
    (case tE1 => k_is)
    (case xE1 => k_exc)
    (case qE1 => k_is)
    (case aE2 => k_is)
    (case kE2 => k_is)
    (case sE2 => k_is)
    (case tE2 => k_is)
    (case xE2 => k_exc)
    (case qE2 => k_is)
    (case aE3 => k_is)
    (case kE3 => k_is)
    (case sE3 => k_is)
    (case tE3 => k_is)
    (case xE3 => k_exc)
    (case qE3 => k_is)
    (case xhn => k_is)
    (case xht => k_is)
    (case xg0 => k_is)
    (case xk0 => k_is)
    (case xd0 => k_is)
    (case xa0 => k_is)
    (case xm0 => k_is)
    (case xg1 => k_is)
    (case xk1 => k_is)
    (case xd1 => k_is)
    (case xa1 => k_is)
    (case xm1 => k_is)
    (case xg2 => k_is)
    (case xk2 => k_is)
    (case xd2 => k_is)
    (case xa2 => k_is)
    (case xm2 => k_is)
    (case xg3 => k_is)
    (case xk3 => k_is)
    (case xd3 => k_is)
    (case xa3 => k_is)
    (case xm3 => k_is)
    (case ki0_0 => first | rfl | kit_is)
    (case ki0_1 => first | rfl | kit_is)
    (case ki0_2 => first | rfl | kit_is)
    (case ki0_3 => first | rfl | kit_is)
    (case ki1_0 => first | rfl | kit_is)
    (case ki1_1 => first | rfl | kit_is)
    (case ki1_2 => first | rfl | kit_is)
    (case ki1_3 => first | rfl | kit_is)
    (case ki2_0 => first | rfl | kit_is)
    (case ki2_1 => first | rfl | kit_is)
    (case ki2_2 => first | rfl | kit_is)
    (case ki2_3 => first | rfl | kit_is)
    (case ki3_0 => first | rfl | kit_is)
    (case ki3_1 => first | rfl | kit_is)
    (case ki3_2 => first | rfl | kit_is)
    (case ki3_3 => first | rfl | kit_is)
    (case m0_0 => first | rfl | k_is)
    (case m0_1 => k_is)
    (case m0_2 => k_is)
    (case m0_3 => k_is)
    (case m1_0 => k_is)
    (case m1_1 => first | rfl | k_is)
    (case m1_2 => k_is)
    (case m1_3 => k_is)
    (case m2_0 => k_is)
    (case m2_1 => k_is)
    (case m2_2 => first | rfl | k_is)
    (case m2_3 => k_is)
    (case m3_0 => k_is)
    (case m3_1 => k_is)
    (case m3_2 => k_is)
    (case m3_3 => first | rfl | k_is)
