import PyProof.Rows.All
import Wide.All
import OpenK.AllK
import Wide.FinOn
import PySem.Challenge.RW_soldtwice_k32_selling_by_hand
import HandS.ForMost
import HandS.Exc
import HandS.ExcOwn
import HandS.TryOnly
import HandS.Flow
import HandS.Wide
import HandS.Walk
import PySem.Syntax
import HandS.List
import HandS.More
import HandS.TupAny
import HandS.IsInst
import HandS.TupMul
import HandS.Style
import KE.DataEq
import HandS.TupLe
import HandS.Text
import HandS.Deep
import HandS.RevTup
import KE.DataFind
import KE.DataCmp
import KE.SortData
import KE.DataMinMax
import HandS.ExcIs
import KE.KRevSl
import HandS.Zip
import HandS.Iter
import HandS.SortKw
import KE.SortKeyHeap
import HandS.Defaults
import HandS.Head0
import HandS.Head1
import HandS.Head2
import HandS.HeadEnd
import HandS.HeadHook1
import HandS.HeadHook2
import Wide.Tac
section
set_option Elab.async false
set_option linter.all false
/-! MxA: plain data D, the intermediate code, the evaluator. No model in sight. -/
namespace Mx
open PySem

/-! ### data -/
inductive D where
  | non | bl (b : Bool) | int (i : Int) | str (s : Str) | lst (xs : List D) | tup (xs : List D) | dic (kvs : List (D × D)) | exc (c : Str)
  deriving Inhabited

mutual
/-- Python's == -/
def eqb : D → D → Bool
  | .non, .non => true
  | .bl a, .bl b => a == b
  | .bl a, .int j => (if a then 1 else 0) == j
  | .int i, .bl b => i == (if b then 1 else 0)
  | .int i, .int j => i == j
  | .str x, .str y => x == y
  | .lst xs, .lst ys => eqL xs ys
  | .tup xs, .tup ys => eqL xs ys
  | .dic xs, .dic ys => xs.length == ys.length && eqK xs ys
  | _, _ => false
def eqL : List D → List D → Bool
  | [], [] => true
  | x :: xs, y :: ys => eqb x y && eqL xs ys
  | _, _ => false
def eqK : List (D × D) → List (D × D) → Bool
  | [], _ => true
  | (k, v) :: r, ys => (match ys.find? (fun p => eqb k p.1) with | some p => eqb v p.2 | none => false) && eqK r ys
end

mutual
/-- the two can be compared, place by place -/
def alikeD : D → D → Bool
  | .non, .non => true
  | .bl _, .bl _ => true
  | .int _, .int _ => true
  | .str _, .str _ => true
  | .lst xs, .lst ys => alikeL xs ys
  | .tup xs, .tup ys => alikeL xs ys
  | _, _ => false
def alikeL : List D → List D → Bool
  | x :: xs, y :: ys => alikeD x y && alikeL xs ys
  | _, _ => true
end
mutual
/-- Python's < of alike data -/
def ltD : D → D → Bool
  | .bl a, .bl b => !a && b
  | .int i, .int j => decide (i < j)
  | .str x, .str y => decide (x.cps.toList < y.cps.toList)
  | .lst xs, .lst ys => ltL xs ys
  | .tup xs, .tup ys => ltL xs ys
  | _, _ => false
def ltL : List D → List D → Bool
  | [], [] => false
  | [], _ :: _ => true
  | _ :: _, [] => false
  | x :: xs, y :: ys => if eqb x y then ltL xs ys else ltD x y
end

/-- keys of dicts: intsD, texts, None, tuples of such (no truths: 1 == True) -/
def isKey : Nat → D → Bool
  | 0, _ => false
  | _ + 1, .non => true
  | _ + 1, .int _ => true
  | _ + 1, .str _ => true
  | n + 1, .tup xs => xs.all (isKey n)
  | _ + 1, _ => false
/-- lists and tuples and scalars alone, to a depth -/
def plainD : Nat → D → Bool
  | 0, _ => false
  | n + 1, .lst xs => xs.all (plainD n)
  | n + 1, .tup xs => xs.all (plainD n)
  | _ + 1, .dic _ => false
  | _ + 1, .exc _ => false
  | _ + 1, _ => true

def notNon : D → Bool
  | .non => false
  | _ => true
def ltb (a b : D) : Option Bool := if alikeD a b && notNon a && plainD 60 a && plainD 60 b then some (ltD a b) else none

def look (k : D) (kvs : List (D × D)) : Option D := (kvs.find? fun p => eqb p.1 k).map (·.2)
def put (k v : D) : List (D × D) → List (D × D)
  | [] => [(k, v)]
  | p :: r => if eqb p.1 k then (p.1, v) :: r else p :: put k v r

/-! ### slots -/
inductive Sl where
  | non
  /-- a value that nobody changes any more -/
  | shr (d : D)
  /-- a list or dict that this slot alone holds -/
  | own (d : D)
  deriving Inhabited
abbrev Env := List Sl

/-- a size that is far below every limit -/
@[irreducible] def LIM : Nat := 1000000
@[irreducible] def BIG : Nat := 2 ^ 4000

inductive Ty where | int | bool | str | tuple | list | dict deriving DecidableEq
def D.isTy : D → Ty → Bool
  | .int _, .int => true
  | .bl _, .int => true
  | .bl _, .bool => true
  | .str _, .str => true
  | .tup _, .tuple => true
  | .lst _, .list => true
  | .dic _, .dict => true
  | _, _ => false

inductive Pr where
  | add | sub | mul | fdiv | mod | pow | neg
  | eq | ne | lt | le | gt | ge | isC | isntC | inn | nin
  | abs | all | any | dict | intS | len | list | max2 | min2 | maxL | minL | sorted | strI | sum | tuple | sset | lset
  | isI (t : Ty) | isX (n : Str)
  | get2 | idx | index | count | join | split | part
  | slc (lo hi : Bool) | rev
  | sItems | sKeys | lVals | lItems
  deriving DecidableEq

def D.isExc : D → Bool
  | .exc _ => true
  | _ => false
/-- the errors that a program raises: none of them is another; what all of them are -/
def errs : List Str := ["BadHouse", "BadComers", "BadName", "BadNumber", "BadKind", "BadPaper", "BadSeen", "Full", "Nothing", "Taken", "Gone", "BadBooking", "NoBack", "BadText"]
def upE : List Str := ["SeatError", "ValueError"]
/-! ### lists at places -/
def atIx (n : Nat) (i : Int) : Option Nat := if 0 ≤ i then (if i < n then some i.toNat else none) else if -(n : Int) ≤ i then some (i + n).toNat else none
def getAt {α : Type} (xs : List α) (i : Int) : Option α := (atIx xs.length i).bind fun j => xs[j]?
def cutIx (n d : Nat) : Option Int → Nat
  | none => d
  | some v => if v < 0 then (v + (n : Int)).toNat else min v.toNat n
def cut {α : Type} (xs : List α) (lo hi : Option Int) : List α := (xs.drop (cutIx xs.length 0 lo)).take (cutIx xs.length xs.length hi - cutIx xs.length 0 lo)
def cutStr (s : Str) (lo hi : Option Int) : Str := ⟨(cut s.cps.toList lo hi).toArray⟩

/-! ### sorting: stable, by keys -/
def isTup1 : D → Bool
  | .tup (_ :: _) => true
  | _ => false
def isNoTup : D → Bool
  | .tup _ => false
  | .non => false
  | _ => true
def comparable (ks : List D) : Bool := ks.all (fun a => plainD 60 a && ks.all (alikeD a)) && (ks.all isTup1 || ks.all isNoTup)
def leK (p q : D × D) : Bool := !ltD q.1 p.1
def sortBy (ks xs : List D) : Option (List D) := if comparable ks && ks.length == xs.length && decide (xs.length < LIM) then some (((ks.zip xs).mergeSort leK).map (·.2)) else none
def minD (x : D) (xs : List D) : D := xs.foldl (fun a y => if ltD y a then y else a) x
def maxD (x : D) (xs : List D) : D := xs.foldl (fun a y => if ltD a y then y else a) x
/-- the first of the least by keys -/
def minK (p : D × D) (ps : List (D × D)) : D × D := ps.foldl (fun a y => if ltD y.1 a.1 then y else a) p

def intsD : List D → Option (List Int)
  | [] => some []
  | .int i :: r => (intsD r).map (i :: ·)
  | _ => none
def bools : List D → Option (List Bool)
  | [] => some []
  | .bl i :: r => (bools r).map (i :: ·)
  | _ => none
def strsD : List D → Option (List Str)
  | [] => some []
  | .str i :: r => (strsD r).map (i :: ·)
  | _ => none
def dedup : List D → List D → List D
  | acc, [] => acc
  | acc, x :: r => if acc.any (eqb x) then dedup acc r else dedup (acc ++ [x]) r
def pairD (p : D × D) : D := .tup [p.1, p.2]
def ofPairs : List D → List (D × D) → Option (List (D × D))
  | [], acc => some acc
  | .tup [k, v] :: r, acc => if isKey 8 k then ofPairs r (put k v acc) else none
  | _, _ => none
def isCode (n c : Nat) : Bool := n == c
def scalEq : D → D → Bool
  | .non, .non => true
  | .bl a, .bl b => a == b
  | _, _ => false
def seqOf : D → Option (List D)
  | .lst xs => some xs
  | .tup xs => some xs
  | _ => none
def okShr (d : D) : Option Sl := some (.shr d)
/-- what the primitives give -/
def pr : Pr → List D → Option Sl
  | .add, [.int i, .int j] => okShr (.int (i + j))
  | .add, [.str x, .str y] => if x.length + y.length < LIM then okShr (.str (x ++ y)) else none
  | .add, [.tup xs, .tup ys] => if xs.length + ys.length < LIM then okShr (.tup (xs ++ ys)) else none
  | .add, [.lst xs, .lst ys] => if xs.length + ys.length < LIM then some (.own (.lst (xs ++ ys))) else none
  | .sub, [.int i, .int j] => okShr (.int (i - j))
  | .mul, [.int i, .int j] => if i.natAbs < BIG ∧ j.natAbs < BIG then okShr (.int (i * j)) else none
  | .mul, [.lst xs, .int j] => if 0 ≤ j ∧ xs.length * j.toNat < LIM ∧ j < LIM then some (.own (.lst (List.replicate j.toNat xs).flatten)) else none
  | .mul, [.tup xs, .int j] => if xs ≠ [] ∧ 2 ≤ j ∧ j ≤ 1000 ∧ xs.length ≤ 1000 then okShr (.tup (List.replicate j.toNat xs).flatten) else none
  | .fdiv, [.int i, .int j] => if 0 < j ∧ j.natAbs < BIG then okShr (.int (i / j)) else none
  | .mod, [.int i, .int j] => if 0 < j then okShr (.int (i % j)) else none
  | .pow, [.int i, .int j] => if 0 ≤ j ∧ j < 100 ∧ i.natAbs < 2 ^ 64 then okShr (.int (i ^ j.toNat)) else none
  | .neg, [.int i] => okShr (.int (-i))
  | .eq, [a, b] => if plainD 60 a && plainD 60 b then okShr (.bl (eqb a b)) else none
  | .ne, [a, b] => if plainD 60 a && plainD 60 b then okShr (.bl (!eqb a b)) else none
  | .lt, [a, b] => (ltb a b).bind fun c => okShr (.bl c)
  | .gt, [a, b] => (ltb b a).bind fun c => okShr (.bl c)
  | .le, [.int i, .int j] => okShr (.bl (decide (i ≤ j)))
  | .ge, [.int i, .int j] => okShr (.bl (decide (j ≤ i)))
  | .isC, [a, b] => if scalEq b b then okShr (.bl (scalEq a b)) else none
  | .isntC, [a, .non] => okShr (.bl (!scalEq a .non))
  | .isntC, [.bl a, .bl b] => okShr (.bl (!(a == b)))
  | .inn, [a, .lst xs] => if plainD 60 a && xs.all (plainD 60) then okShr (.bl (xs.any fun y => eqb y a)) else none
  | .inn, [a, .tup xs] => if plainD 60 a && xs.all (plainD 60) then okShr (.bl (xs.any fun y => eqb y a)) else none
  | .inn, [.str x, .str y] => match x.cps.toList with
    | [c] => okShr (.bl (y.cps.toList.contains c))
    | _ => none
  | .nin, [a, .lst xs] => if plainD 60 a && xs.all (plainD 60) then okShr (.bl (!xs.any fun y => eqb y a)) else none
  | .nin, [a, .tup xs] => if plainD 60 a && xs.all (plainD 60) then okShr (.bl (!xs.any fun y => eqb y a)) else none
  | .abs, [.int i] => okShr (.int i.natAbs)
  | .all, [.lst xs] => (bools xs).bind fun bs => okShr (.bl (bs.all id))
  | .any, [.lst xs] => (bools xs).bind fun bs => okShr (.bl (bs.any id))
  | .dict, [.lst xs] => (ofPairs xs []).bind fun kvs => some (.own (.dic kvs))
  | .dict, [.tup xs] => (ofPairs xs []).bind fun kvs => some (.own (.dic kvs))
  | .dict, [.dic kvs] => some (.own (.dic kvs))
  | .len, [.lst xs] => okShr (.int xs.length)
  | .len, [.tup xs] => okShr (.int xs.length)
  | .len, [.dic xs] => okShr (.int xs.length)
  | .len, [.str x] => if x.length < LIM then okShr (.int x.length) else none
  | .list, [.lst xs] => some (.own (.lst xs))
  | .list, [.tup xs] => some (.own (.lst xs))
  | .tuple, [.lst xs] => okShr (.tup xs)
  | .tuple, [.tup xs] => okShr (.tup xs)
  | .max2, [.int i, .int j] => okShr (.int (if j > i then j else i))
  | .min2, [.int i, .int j] => okShr (.int (if j < i then j else i))
  | .maxL, [.lst (x :: xs)] => if comparable (x :: xs) then okShr (maxD x xs) else none
  | .minL, [.lst (x :: xs)] => if comparable (x :: xs) then okShr (minD x xs) else none
  | .sum, [.lst xs] => (intsD xs).bind fun ns => okShr (.int ns.sum)
  | .sorted, [.lst xs] => (sortBy xs xs).bind fun ys => some (.own (.lst ys))
  | .sset, [.lst xs] => if xs.all (isKey 8) then (sortBy (dedup [] xs) (dedup [] xs)).bind fun ys => some (.own (.lst ys)) else none
  | .sset, [.tup xs] => if xs.all (isKey 8) then (sortBy (dedup [] xs) (dedup [] xs)).bind fun ys => some (.own (.lst ys)) else none
  | .lset, [.lst xs] => if xs.all (isKey 8) then okShr (.int (dedup [] xs).length) else none
  | .lset, [.tup xs] => if xs.all (isKey 8) then okShr (.int (dedup [] xs).length) else none
  | .isI t, [a] => if a.isExc then none else okShr (.bl (a.isTy t))
  | .isX n, [.exc c] => if errs.contains c then okShr (.bl (upE.contains n || n == c)) else none
  | .get2, [.dic kvs, k, x] => if isKey 8 k then okShr ((look k kvs).getD x) else none
  | .idx, [.lst xs, .int i] => (getAt xs i).bind okShr
  | .idx, [.tup xs, .int i] => (getAt xs i).bind okShr
  | .idx, [.str x, .int i] => if LIM ≤ x.length then none else (getAt x.cps.toList i).bind fun c => okShr (.str ⟨#[c]⟩)
  | .index, [.lst xs, a] => if plainD 60 a && xs.all (plainD 60) then (xs.findIdx? fun y => eqb y a).bind fun j => okShr (.int j) else none
  | .count, [.lst xs, a] => if plainD 60 a && xs.all (plainD 60) then okShr (.int (xs.countP fun y => eqb y a : Nat)) else none
  | .slc true true, [.lst xs, .int i, .int j] => some (.own (.lst (cut xs (some i) (some j))))
  | .slc true false, [.lst xs, .int i] => some (.own (.lst (cut xs (some i) none)))
  | .slc false true, [.lst xs, .int j] => some (.own (.lst (cut xs none (some j))))
  | .slc true true, [.tup xs, .int i, .int j] => okShr (.tup (cut xs (some i) (some j)))
  | .slc true false, [.tup xs, .int i] => okShr (.tup (cut xs (some i) none))
  | .slc false true, [.tup xs, .int j] => okShr (.tup (cut xs none (some j)))
  | .slc true true, [.str x, .int i, .int j] => if x.length < LIM then okShr (.str (cutStr x (some i) (some j))) else none
  | .slc true false, [.str x, .int i] => if x.length < LIM then okShr (.str (cutStr x (some i) none)) else none
  | .slc false true, [.str x, .int j] => if x.length < LIM then okShr (.str (cutStr x none (some j))) else none
  | .rev, [.lst xs] => some (.own (.lst xs.reverse))
  | .rev, [.tup xs] => okShr (.tup xs.reverse)
  | .sItems, [.dic kvs] => (sortBy (kvs.map pairD) (kvs.map pairD)).bind fun ys => some (.own (.lst ys))
  | .sKeys, [.dic kvs] => (sortBy (kvs.map (·.1)) (kvs.map (·.1))).bind fun ys => some (.own (.lst ys))
  | .lVals, [.dic kvs] => some (.own (.lst (kvs.map (·.2))))
  | .lItems, [.dic kvs] => some (.own (.lst (kvs.map pairD)))
  | _, _ => none

/-! ### the code -/
/-- targets -/
inductive T where
  | nm (i : Nat)
  | tp (ts : T)
  | nil
  | cons (a r : T)
/-- what is walked -/
inductive K where | val | rng | rng2 | enum | zip | items | vals deriving DecidableEq
/-- what changes a slot's own list or dict -/
inductive MM where | append | extend | pop | update deriving DecidableEq
inductive E where
  | var (i : Nat)
  | cst (d : D)
  | pr (p : Pr) (args : E)
  | and2 (a b : E) | or2 (a b : E) | not (a : E) | ifx (c a b : E)
  | chain (p q : Pr) (a b c : E)
  | sl3 (a b c : E)
  | met (p : Pr) (t : Ty) (o args : E)
  | tv (a : E)
  | tup (args : E) | lst (args : E) | dct (args : E)
  | call (f : Nat) (args : E)
  | comp (own : List Nat) (t : T) (k : K) (src cnd elt : E)
  | comp2 (own : List Nat) (t : T) (k : K) (src : E) (t2 : T) (k2 : K) (src2 elt : E)
  | dcomp (own : List Nat) (t : T) (k : K) (src cnd key elt : E)
  | mut (m : MM) (i : Nat) (args : E)
  | srt (f : Nat) (src : E) | srtL (own : Nat) (body src : E) | mnk (f : Nat) (src : E)
  | fstr (args : E)
  | nil | cons (a r : E)
inductive C where
  | done
  | asg (t : T) (e : E) (k : C)
  | par (i j : Nat) (a b : E) (k : C)
  | star (i j : Nat) (e : E) (k : C)
  | setI (i : Nat) (ix e : E) (k : C)
  | augI (i : Nat) (p : Pr) (e : E) (k : C)
  | exp (e : E) (k : C)
  | ret (e : E)
  | retN
  | ife (c : E) (a b k : C)
  | for_ (t : T) (kd : K) (src : E) (body k : C)
  | whl (c : E) (body k : C)
  | rse (c : Str)
  | tryE (j i : Nat) (body k : C)

/-! ### the evaluator -/
inductive R (α : Type) where
  | ok (a : α)
  | exc (c : Str) (ρ : Env)
  | bad
def R.bind {α β : Type} (r : R α) (f : α → R β) : R β := match r with
  | .ok a => f a
  | .exc c ρ => .exc c ρ
  | .bad => .bad
/-- a call's end: the value, the arguments as they are behind -/
inductive FR where
  | ok (v : Sl) (outs : List Sl)
  | exc (c : Str) (outs : List Sl)
  | bad
abbrev Tab := Nat → List Sl → FR
inductive Opd where
  | val (d : D)
  | bor (i : Nat)
def Opd.get (ρ : Env) : Opd → Option D
  | .val d => some d
  | .bor i => match ρ[i]? with
    | some (.own d) => some d
    | _ => none
def gets (ρ : Env) : List Opd → Option (List D)
  | [] => some []
  | o :: r => (o.get ρ).bind fun d => (gets ρ r).map (d :: ·)
def Sl.d? : Sl → Option D
  | .shr d => some d
  | .own d => some d
  | .non => none
def setT : T → D → Env → Option Env
  | .nm i, d, ρ => if i < ρ.length then some (ρ.set i (.shr d)) else none
  | .tp ts, .tup ds, ρ => setTs ts ds ρ
  | .tp ts, .lst ds, ρ => setTs ts ds ρ
  | _, _, _ => none
where setTs : T → List D → Env → Option Env
  | .nil, [], ρ => some ρ
  | .cons a r, d :: ds, ρ => (setT a d ρ).bind (setTs r ds)
  | _, _, _ => none
/-- the items that are walked -/
def itemsOf : K → List D → Option (List D)
  | .val, [.lst xs] => some xs
  | .val, [.tup xs] => some xs
  | .val, [.str x] => some (x.cps.toList.map fun c => .str ⟨#[c]⟩)
  | .rng, [.int n] => if -LIM < n ∧ n < LIM then some ((List.range n.toNat).map fun i => .int (i : Nat)) else none
  | .rng2, [.int a, .int b] => if (-LIM < a ∧ a < LIM) ∧ (-LIM < b ∧ b < LIM) then some ((List.range (b - a).toNat).map fun i => .int (a + (i : Nat))) else none
  | .enum, [.lst xs] => some (xs.zipIdx.map fun p => .tup [.int (p.2 : Nat), p.1])
  | .zip, [.lst xs, .lst ys] => some ((xs.zip ys).map pairD)
  | .zip, [.tup xs, .tup ys] => some ((xs.zip ys).map pairD)
  | _, _ => none
def wipeE (ρ : Env) : List Nat → Env
  | [] => ρ
  | v :: vs => (wipeE ρ vs).set v .non
/-- behind a comprehension: its own names as they were ahead -/
def unwipe (ρ0 : Env) : List Nat → Env → Env
  | [], ρ => ρ
  | v :: vs, ρ => (unwipe ρ0 vs ρ).set v (ρ0.getD v .non)
/-- a comprehension's turns: every turn begins with its own names forgotten -/
def compG (own : List Nat) (t : T) (fc : Env → R (Bool × Env)) (fe : Env → R (Sl × Env)) : List D → Env → List D → R (List D × Env)
  | [], ρ, acc => .ok (acc, ρ)
  | d :: ds, ρ, acc => match setT t d (wipeE ρ own) with
    | none => .bad
    | some ρ1 => match fc ρ1 with
      | .ok (false, ρ2) => compG own t fc fe ds ρ2 acc
      | .ok (true, ρ2) => (match fe ρ2 with
        | .ok (s, ρ3) => (match s.d? with
          | some e => compG own t fc fe ds ρ3 (acc ++ [e])
          | none => .bad)
        | _ => .bad)
      | _ => .bad
def dcompG (own : List Nat) (t : T) (fc : Env → R (Bool × Env)) (fk fe : Env → R (Sl × Env)) : List D → Env → List (D × D) → R (List (D × D) × Env)
  | [], ρ, acc => .ok (acc, ρ)
  | d :: ds, ρ, acc => match setT t d (wipeE ρ own) with
    | none => .bad
    | some ρ1 => match fc ρ1 with
      | .ok (false, ρ2) => dcompG own t fc fk fe ds ρ2 acc
      | .ok (true, ρ2) => (match fk ρ2 with
        | .ok (.shr k, ρ3) => (match fe ρ3 with
          | .ok (s, ρ4) => (match s.d? with
            | some e => if isKey 8 k && decide (acc.length < LIM) then dcompG own t fc fk fe ds ρ4 (put k e acc) else .bad
            | none => .bad)
          | _ => .bad)
        | _ => .bad)
      | _ => .bad
/-- keys by a function that changes nothing -/
def keysBy (f : D → R (Sl × Env)) : List D → Option (List D)
  | [] => some []
  | d :: ds => match f d with
    | .ok (.shr k, _) => (keysBy f ds).map (k :: ·)
    | _ => none
def frE : FR → R (Sl × Env)
  | .ok v _ => .ok (v, [])
  | _ => .bad
/-- the arguments of a call: a slot that is its own list goes itself, where the def does not bind the name anew -/
inductive Ar where
  | val (s : Sl)
  | mov (i : Nat) (d : D)
def Ar.sl : Ar → Sl
  | .val s => s
  | .mov _ d => .own d
def backA : List Ar → List Sl → Env → Option Env
  | [], [], ρ => some ρ
  | .val _ :: r, _ :: os, ρ => backA r os ρ
  | .mov i _ :: r, .own d :: os, ρ => backA r os (ρ.set i (.own d))
  | .mov i _ :: r, .shr d :: os, ρ => backA r os (ρ.set i (.shr d))
  | _, _, _ => none
def strOfD : D → Option Str
  | .str x => some x
  | .int i => if i.natAbs < 10 ^ 18 then some (Str.ofString (toString i)) else none
  | _ => none
def joinS : List D → Option Str
  | [] => some Str.empty
  | d :: ds => (strOfD d).bind fun x => (joinS ds).bind fun y => if x.length + y.length < LIM then some (x ++ y) else none
def mutD : MM → D → List D → Option (D × D)
  | .append, .lst xs, [x] => if xs.length < LIM then some (.non, .lst (xs ++ [x])) else none
  | .extend, .lst xs, [.lst ys] => if xs.length + ys.length < LIM then some (.non, .lst (xs ++ ys)) else none
  | .pop, .lst xs, [] => (getAt xs (-1)).map fun x => (x, .lst xs.dropLast)
  | .update, .dic kvs, [.dic more] => if kvs.length + more.length < LIM then some (.non, .dic (more.foldl (fun a p => put p.1 p.2 a) kvs)) else none
  | _, _, _ => none
def mutOk (m : MM) (s : Option Sl) : Bool := match m, s with
  | .update, some (.own (.dic _)) => true
  | .append, some (.own (.lst _)) => true
  | .extend, some (.own (.lst _)) => true
  | .pop, some (.own (.lst _)) => true
  | _, _ => false
def ownAt (ρ : Env) (i : Nat) : Bool := match ρ[i]? with
  | some (.own _) => true
  | _ => false
def pairsUp : List D → Option (List (D × D))
  | [] => some []
  | k :: v :: r => (pairsUp r).map ((k, v) :: ·)
  | _ => none

section
variable (Γ : Tab) (asg : Nat → List Bool)
/-- the readings of one piece of code: as a value, a test, operands (a slot's own list is looked at where it stands), kept values, a call's arguments -/
structure Sm where
  e : Env → R (Sl × Env)
  t : Env → R (Bool × Env)
  o : Env → R (List Opd × Env) := fun _ => .bad
  l : Env → R (List D × Env) := fun _ => .bad
  a : List Bool → Env → R (List Opd × Env) := fun _ _ => .bad
def tst (v : Env → R (Sl × Env)) (ρ : Env) : R (Bool × Env) := (v ρ).bind fun (s, ρ1) => match s with
  | .shr (.bl c) => .ok (c, ρ1)
  | _ => .bad
def Sm.of (v : Env → R (Sl × Env)) : Sm := { e := v, t := tst v }
def isVar : E → Option Nat
  | .var i => some i
  | _ => none
def opd (x : Option Nat) (v : Env → R (Sl × Env)) (ρ : Env) : R (Opd × Env) := match x with
  | some i => (match ρ[i]? with
    | some (.shr d) => .ok (.val d, ρ)
    | some (.own _) => .ok (.bor i, ρ)
    | _ => .bad)
  | none => (v ρ).bind fun (s, ρ1) => match s.d? with
    | some d => .ok (.val d, ρ1)
    | none => .bad
def kep (v : Env → R (Sl × Env)) (ρ : Env) : R (D × Env) := (v ρ).bind fun (s, ρ1) => match s.d? with
  | some d => .ok (d, ρ1)
  | none => .bad
def arg (x : Option Nat) (b : Bool) (v : Env → R (Sl × Env)) (ρ : Env) : R (Opd × Env) := if b then (kep v ρ).bind fun (d, ρ1) => .ok (.val d, ρ1) else opd x v ρ
/-- when all arguments are there, the own ones go -/
def takeA : List Opd → Env → Option (List Ar × Env)
  | [], ρ => some ([], ρ)
  | .val d :: r, ρ => (takeA r ρ).map fun (as, ρ1) => (.val (.shr d) :: as, ρ1)
  | .bor i :: r, ρ => match ρ[i]? with
    | some (.own d) => (takeA r (ρ.set i .non)).map fun (as, ρ1) => (.mov i d :: as, ρ1)
    | some (.shr d) => (takeA r ρ).map fun (as, ρ1) => (.val (.shr d) :: as, ρ1)
    | _ => none
def mutK (m : MM) (i : Nat) (x : List D × Env) : R (Sl × Env) := match x.2[i]? with
  | some (.own d) => (match mutD m d x.1 with
    | some (v, d') => .ok (.shr v, x.2.set i (.own d'))
    | none => .bad)
  | _ => .bad
def prE (p : Pr) (os : List Opd) (ρ : Env) : R (Sl × Env) := match (gets ρ os).bind (pr p) with
  | some s => .ok (s, ρ)
  | none => .bad
def ev : E → Sm
  | .var i => .of fun ρ => match ρ[i]? with
    | some (.shr d) => .ok (.shr d, ρ)
    | some (.own d) => .ok (.shr d, ρ.set i (.shr d))
    | _ => .bad
  | .cst d => .of fun ρ => .ok (.shr d, ρ)
  | .pr p args => .of fun ρ => ((ev args).o ρ).bind fun (os, ρ1) => prE p os ρ1
  | .and2 a b => { e := fun ρ => (tst (ev a).e ρ).bind fun (c, ρ1) => if c then (ev b).e ρ1 else .ok (.shr (.bl false), ρ1), t := fun ρ => ((ev a).t ρ).bind fun (c, ρ1) => if c then (ev b).t ρ1 else .ok (false, ρ1) }
  | .or2 a b => { e := fun ρ => (tst (ev a).e ρ).bind fun (c, ρ1) => if c then .ok (.shr (.bl true), ρ1) else (ev b).e ρ1, t := fun ρ => ((ev a).t ρ).bind fun (c, ρ1) => if c then .ok (true, ρ1) else (ev b).t ρ1 }
  | .not a => { e := fun ρ => (tst (ev a).e ρ).bind fun (c, ρ1) => .ok (.shr (.bl (!c)), ρ1), t := fun ρ => ((ev a).t ρ).bind fun (c, ρ1) => .ok (!c, ρ1) }
  | .ifx c a b => { e := fun ρ => ((ev c).t ρ).bind fun (t, ρ1) => if t then (ev a).e ρ1 else (ev b).e ρ1, t := fun ρ => ((ev c).t ρ).bind fun (t, ρ1) => if t then (ev a).t ρ1 else (ev b).t ρ1 }
  | .chain p q a b c => .of fun ρ => (opd (isVar a) (ev a).e ρ).bind fun (oa, ρ1) => (opd (isVar b) (ev b).e ρ1).bind fun (ob, ρ2) => match gets ρ2 [oa, ob] with
    | some [x, y] => (match pr p [x, y] with
      | some (.shr (.bl true)) => (opd (isVar c) (ev c).e ρ2).bind fun (oc, ρ3) => (match gets ρ3 [ob, oc] with
        | some [y, z] => (match pr q [y, z] with
          | some (.shr (.bl r)) => .ok (.shr (.bl r), ρ3)
          | _ => .bad)
        | _ => .bad)
      | some (.shr (.bl false)) => .ok (.shr (.bl false), ρ2)
      | _ => .bad)
    | _ => .bad
  | .sl3 a b c => .of fun ρ => (opd (isVar a) (ev a).e ρ).bind fun (oa, ρ1) => (opd (isVar b) (ev b).e ρ1).bind fun (ob, ρ2) => match ob with
    | .val (.int i) => (opd (isVar c) (ev c).e ρ2).bind fun (oc, ρ3) => prE (.slc true true) [oa, .val (.int i), oc] ρ3
    | _ => .bad
  | .tv a => { e := (ev a).e, t := tst (ev a).e }
  | .met p t o args => .of fun ρ => (opd (isVar o) (ev o).e ρ).bind fun (oo, ρ1) => match oo.get ρ1 with
    | some d => if d.isTy t then ((ev args).o ρ1).bind fun (os, ρ2) => prE p (oo :: os) ρ2 else .bad
    | none => .bad
  | .tup args => .of fun ρ => ((ev args).l ρ).bind fun (ds, ρ1) => if ds.length < LIM then .ok (.shr (.tup ds), ρ1) else .bad
  | .lst args => .of fun ρ => ((ev args).l ρ).bind fun (ds, ρ1) => if ds.length < LIM then .ok (.own (.lst ds), ρ1) else .bad
  | .dct args => .of fun ρ => ((ev args).l ρ).bind fun (ds, ρ1) => match pairsUp ds with
    | some ps => if ps.all (fun p => isKey 8 p.1) then .ok (.own (.dic (ps.foldl (fun a p => put p.1 p.2 a) [])), ρ1) else .bad
    | none => .bad
  | .call f args => .of fun ρ => ((ev args).a (asg f) ρ).bind fun (os, ρ0) => match takeA os ρ0 with
    | some (as, ρ1) => (match Γ f (as.map Ar.sl) with
      | .ok v outs => (match backA as outs ρ1 with
        | some ρ2 => .ok (v, ρ2)
        | none => .bad)
      | .exc c outs => (match backA as outs ρ1 with
        | some ρ2 => .exc c ρ2
        | none => .bad)
      | .bad => .bad)
    | none => .bad
  | .comp own t k src cnd elt => .of fun ρ => ((ev src).l ρ).bind fun (ds, ρ1) => match itemsOf k ds with
    | some xs => if xs.length < LIM then (compG own t (ev cnd).t (ev elt).e xs ρ1 []).bind fun (ys, ρ2) => .ok (.own (.lst ys), unwipe ρ1 own ρ2) else .bad
    | none => .bad
  | .comp2 own t k src t2 k2 src2 elt => .of fun ρ => .bad
  | .dcomp own t k src cnd key elt => .of fun ρ => ((ev src).l ρ).bind fun (ds, ρ1) => match itemsOf k ds with
    | some xs => if xs.length < LIM then (dcompG own t (ev cnd).t (ev key).e (ev elt).e xs ρ1 []).bind fun (ys, ρ2) => .ok (.own (.dic ys), unwipe ρ1 own ρ2) else .bad
    | none => .bad
  | .mut m i args => .of fun ρ => if mutOk m ρ[i]? then ((ev args).l ρ).bind (mutK m i) else .bad
  | .srt f src => .of fun ρ => ((ev src).l ρ).bind fun (ds, ρ1) => match ds with
    | [.lst xs] => (match (keysBy (fun x => frE (Γ f [.shr x])) xs).bind fun ks => sortBy ks xs with
      | some ys => .ok (.own (.lst ys), ρ1)
      | none => .bad)
    | _ => .bad
  | .srtL own body src => .of fun ρ => ((ev src).l ρ).bind fun (ds, ρ1) => match ds with
    | [d] => (match seqOf d with
      | some xs => (match (keysBy (fun x => (ev body).e [.shr x]) xs).bind fun ks => sortBy ks xs with
        | some ys => .ok (.own (.lst ys), ρ1)
        | none => .bad)
      | none => .bad)
    | _ => .bad
  | .mnk f src => .of fun ρ => ((ev src).l ρ).bind fun (ds, ρ1) => match ds with
    | [.lst (x :: xs)] => (match keysBy (fun x => frE (Γ f [.shr x])) (x :: xs) with
      | some (k :: ks) => if comparable (k :: ks) then .ok (.shr (minK (k, x) (ks.zip xs)).2, ρ1) else .bad
      | _ => .bad)
    | _ => .bad
  | .fstr args => .of fun ρ => ((ev args).l ρ).bind fun (ds, ρ1) => match joinS ds with
    | some x => .ok (.shr (.str x), ρ1)
    | none => .bad
  | .nil => { e := fun _ => .bad, t := fun _ => .bad, o := fun ρ => .ok ([], ρ), l := fun ρ => .ok ([], ρ), a := fun bs ρ => match bs with
    | [] => .ok ([], ρ)
    | _ => .bad }
  | .cons a r => { e := fun _ => .bad, t := fun _ => .bad
                   o := fun ρ => (opd (isVar a) (ev a).e ρ).bind fun (o, ρ1) => ((ev r).o ρ1).bind fun (os, ρ2) => .ok (o :: os, ρ2)
                   l := fun ρ => (kep (ev a).e ρ).bind fun (d, ρ1) => ((ev r).l ρ1).bind fun (ds, ρ2) => .ok (d :: ds, ρ2)
                   a := fun bs ρ => match bs with
                     | [] => .bad
                     | b :: bs => (arg (isVar a) b (ev a).e ρ).bind fun (s, ρ1) => ((ev r).a bs ρ1).bind fun (ss, ρ2) => .ok (s :: ss, ρ2) }
abbrev evE (a : E) : Env → R (Sl × Env) := (ev Γ asg a).e
abbrev evT (a : E) : Env → R (Bool × Env) := (ev Γ asg a).t
abbrev evO (a : E) : Env → R (List Opd × Env) := (ev Γ asg a).o
abbrev evL (a : E) : Env → R (List D × Env) := (ev Γ asg a).l
abbrev evA (a : E) : List Bool → Env → R (List Opd × Env) := (ev Γ asg a).a

/-- a block's end -/
inductive O where
  | nx (ρ : Env)
  | ret (v : Sl) (ρ : Env)
  | exc (c : Str) (ρ : Env)
  | bad
def O.then (o : O) (f : Env → O) : O := match o with
  | .nx ρ => f ρ
  | .ret v ρ => .ret v ρ
  | .exc c ρ => .exc c ρ
  | .bad => .bad
def ofR {α : Type} (r : R α) (f : α → O) : O := match r with
  | .ok a => f a
  | .exc c ρ => .exc c ρ
  | .bad => .bad
def forG (t : T) (fb : Env → O) : List D → Env → O
  | [], ρ => .nx ρ
  | d :: ds, ρ => match setT t d ρ with
    | none => .bad
    | some ρ1 => (fb ρ1).then (forG t fb ds)
def whlG (fc : Env → R (Bool × Env)) (fb : Env → O) : Nat → Env → O
  | 0, _ => .bad
  | n + 1, ρ => ofR (fc ρ) fun (c, ρ1) => if c then (fb ρ1).then (whlG fc fb n) else .nx ρ1
/-- turns that a while may take -/
@[irreducible] def FUEL : Nat := 2 ^ 5000
def asgT : T → Sl → Env → O
  | .nm i, s, ρ => if i < ρ.length then .nx (ρ.set i s) else .bad
  | t, s, ρ => match s.d? with
    | some d => (match setT t d ρ with
      | some ρ1 => .nx ρ1
      | none => .bad)
    | none => .bad
def setD : D → D → D → Option D
  | .lst xs, .int i, v => (atIx xs.length i).map fun j => .lst (xs.set j v)
  | _, _, _ => none
def augP : Pr → Int → Int → Option Int
  | .add, x, y => some (x + y)
  | .sub, x, y => some (x - y)
  | _, _, _ => none
def evC : C → Env → O
  | .done, ρ => .nx ρ
  | .asg t e k, ρ => ofR (evE Γ asg e ρ) fun (s, ρ1) => (asgT t s ρ1).then (evC k)
  | .par i j a b k, ρ => ofR (evL Γ asg (.cons a (.cons b .nil)) ρ) fun (ds, ρ1) => match ds with
    | [x, y] => if i < ρ1.length ∧ j < ρ1.length then evC k ((ρ1.set i (.shr x)).set j (.shr y)) else .bad
    | _ => .bad
  | .star i j e k, ρ => ofR (evL Γ asg (.cons e .nil) ρ) fun (ds, ρ1) => match ds with
    | [.lst xs] => (match getAt xs (-1) with
      | some y => if i < ρ1.length ∧ j < ρ1.length then evC k ((ρ1.set i (.own (.lst xs.dropLast))).set j (.shr y)) else .bad
      | none => .bad)
    | _ => .bad
  | .setI i ix e k, ρ => if !ownAt ρ i then .bad else ofR (evL Γ asg (.cons e (.cons ix .nil)) ρ) fun (ds, ρ1) => match ds with
    | [v, x] => (match ρ1[i]? with
      | some (.own d) => (match setD d x v with
        | some d' => evC k (ρ1.set i (.own d'))
        | none => .bad)
      | _ => .bad)
    | _ => .bad
  | .augI i p e k, ρ => match ρ[i]? with
    | some (.shr (.int x)) => ofR (evL Γ asg (.cons e .nil) ρ) fun (ds, ρ1) => match ds with
      | [.int y] => (match augP p x y with
        | some z => evC k (ρ1.set i (.shr (.int z)))
        | none => .bad)
      | _ => .bad
    | _ => .bad
  | .exp e k, ρ => ofR (evE Γ asg e ρ) fun (_, ρ1) => evC k ρ1
  | .ret (.var i), ρ => match ρ[i]? with
    | some (.shr d) => .ret (.shr d) ρ
    | some (.own d) => .ret (.own d) (ρ.set i .non)
    | _ => .bad
  | .ret e, ρ => ofR (evE Γ asg e ρ) fun (s, ρ1) => .ret s ρ1
  | .retN, ρ => .ret (.shr .non) ρ
  | .ife c a b k, ρ => ofR (evT Γ asg c ρ) fun (t, ρ1) => (if t then evC a ρ1 else evC b ρ1).then (evC k)
  | .for_ t kd src body k, ρ => ofR (evL Γ asg src ρ) fun (ds, ρ1) => match itemsOf kd ds with
    | some xs => (forG t (evC body) xs ρ1).then (evC k)
    | none => .bad
  | .whl c body k, ρ => (whlG (evT Γ asg c) (evC body) FUEL ρ).then (evC k)
  | .rse c, ρ => .exc c ρ
  | .tryE j i body k, ρ => match evC body ρ with
    | .exc c ρ1 => if errs.contains c && decide (i < ρ1.length) && decide (j < ρ1.length) then evC k ((ρ1.set j (.shr (.exc c))).set i .non) else .bad
    | o => o.then (evC k)
end

/-! ### defs -/
structure Fd where
  name : Str
  np : Nat
  ns : Nat
  asg : List Bool
  body : C
/-- the arguments behind: those that went themselves are still there -/
def outsOf : List Sl → Env → Option (List Sl)
  | [], _ => some []
  | .own _ :: r, .own d :: ρ => (outsOf r ρ).map (.own d :: ·)
  | .own _ :: r, .shr d :: ρ => (outsOf r ρ).map (.shr d :: ·)
  | .shr _ :: r, _ :: ρ => (outsOf r ρ).map (.non :: ·)
  | _, _ => none
def startE (fd : Fd) (as : List Sl) : Env := as ++ List.replicate (fd.ns - as.length) .non
def finish (as : List Sl) : O → FR
  | .nx ρ => match outsOf as ρ with
    | some os => .ok (.shr .non) os
    | none => .bad
  | .ret v ρ => match outsOf as ρ with
    | some os => .ok v os
    | none => .bad
  | .exc c ρ => match outsOf as ρ with
    | some os => .exc c os
    | none => .bad
  | .bad => .bad
/-- an own thing goes where the def does not bind the name anew -/
def okAr : List Bool → List Sl → Bool
  | [], [] => true
  | b :: bs, .own _ :: ss => !b && okAr bs ss
  | _ :: bs, .shr _ :: ss => okAr bs ss
  | _, _ => false
def asgOf (fs : List Fd) (g : Nat) : List Bool := (fs[g]?).elim [] (·.asg)
def tabAt (fs : List Fd) : Nat → Tab
  | 0, _, _ => .bad
  | n + 1, f, as => match fs[f]? with
    | some fd => if as.length = fd.np ∧ fd.np ≤ fd.ns ∧ okAr fd.asg as = true then finish as (evC (tabAt fs n) (asgOf fs) fd.body (startE fd as)) else .bad
    | none => .bad
end Mx

end
section
set_option Elab.async false
set_option linter.all false
set_option maxRecDepth 100000
set_option maxHeartbeats 4000000
/-! MxB: data on the abstract heap: what a value stands for, what a slot holds, how states grow. -/
namespace Mx
open PySem L2

def kD : Key → D
  | .inl i => .int i
  | .inr x => .str x
/-- where the error classes stand -/
class CA where
  ca : Str → Addr
/-- an error that is held as a value -/
def ExV (C a : Addr) : HO := .ext fun h => ∃ (oe : Obj) (vs : Array Value), h.get? a = some oe ∧ Zc (.ref C) none oe ∧ oe.data = .fields vs
variable [CA]
mutual
/-- v stands for d; F: the part of the heap that nobody changes any more -/
inductive Rp [CA] (F : Hp) : V → D → Prop
  | non : Rp F .non .non
  | bl (b : Bool) : Rp F (.bl b) (.bl b)
  | int (i : Int) : Rp F (.int i) (.int i)
  | str (x : Str) : Rp F (.str x) (.str x)
  | lst {a : Addr} {xs : List V} {ds : List D} : Rd F a (.lst xs) → RpL F xs ds → Rp F (.ref a) (.lst ds)
  | tup {a : Addr} {xs : List V} {ds : List D} : F a = some (.tup xs) → RpL F xs ds → Rp F (.ref a) (.tup ds)
  | dic {a : Addr} {ks : List (Key × V)} {kvs : List (D × D)} : F a = some (.dK ks) → RpK F ks kvs → Rp F (.ref a) (.dic kvs)
  | exc {a : Addr} {c : Str} : F a = some (ExV (CA.ca c) a) → Rp F (.ref a) (.exc c)
inductive RpL [CA] (F : Hp) : List V → List D → Prop
  | nil : RpL F [] []
  | cons {v : V} {vs : List V} {d : D} {ds : List D} : Rp F v d → RpL F vs ds → RpL F (v :: vs) (d :: ds)
inductive RpK [CA] (F : Hp) : List (Key × V) → List (D × D) → Prop
  | nil : RpK F [] []
  | cons {k : Key} {v : V} {ks : List (Key × V)} {d : D} {kvs : List (D × D)} : Rp F v d → RpK F ks kvs → RpK F ((k, v) :: ks) ((kD k, d) :: kvs)
end
/-- F is a part of F' -/
def Le (F F' : Hp) : Prop := ∀ a o, F a = some o → F' a = some o
theorem Le.refl {F : Hp} : Le F F := fun _ _ e => e
theorem Le.trans {F G H : Hp} (h : Le F G) (k : Le G H) : Le F H := fun a o e => k a o (h a o e)
theorem Le.rd {F F' : Hp} (h : Le F F') {a : Addr} {o : HO} (r : Rd F a o) : Rd F' a o := r.elim (fun e => .inl (h _ _ e)) fun ⟨ob, e⟩ => .inr ⟨ob, h _ _ e⟩
theorem Le.upd {F : Hp} {a : Addr} {o : HO} (h : F a = none) : Le F (upd F a o) := fun b u e => by rw [upd_ne (ne_of_none e h)]; exact e
mutual
theorem Rp.mono {F F' : Hp} (k : Le F F') : ∀ {v : V} {d : D}, Rp F v d → Rp F' v d
  | _, _, .non => .non
  | _, _, .bl b => .bl b
  | _, _, .int i => .int i
  | _, _, .str x => .str x
  | _, _, .lst e r => .lst (k.rd e) (RpL.mono k r)
  | _, _, .tup e r => .tup (k _ _ e) (RpL.mono k r)
  | _, _, .dic e r => .dic (k _ _ e) (RpK.mono k r)
  | _, _, .exc e => .exc (k _ _ e)
theorem RpL.mono {F F' : Hp} (k : Le F F') : ∀ {vs : List V} {ds : List D}, RpL F vs ds → RpL F' vs ds
  | _, _, .nil => .nil
  | _, _, .cons r t => .cons (Rp.mono k r) (RpL.mono k t)
theorem RpK.mono {F F' : Hp} (k : Le F F') : ∀ {vs : List (Key × V)} {ds : List (D × D)}, RpK F vs ds → RpK F' vs ds
  | _, _, .nil => .nil
  | _, _, .cons r t => .cons (Rp.mono k r) (RpK.mono k t)
end
theorem RpL.len {F : Hp} : ∀ {vs : List V} {ds : List D}, RpL F vs ds → vs.length = ds.length
  | _, _, .nil => rfl
  | _, _, .cons _ t => by simp [RpL.len t]
theorem RpK.len {F : Hp} : ∀ {vs : List (Key × V)} {ds : List (D × D)}, RpK F vs ds → vs.length = ds.length
  | _, _, .nil => rfl
  | _, _, .cons _ t => by simp [RpK.len t]
theorem RpL.get {F : Hp} : ∀ {vs : List V} {ds : List D} {i : Nat} {d : D}, RpL F vs ds → ds[i]? = some d → ∃ v, vs[i]? = some v ∧ Rp F v d
  | _, _, _, _, .nil, e => by simp at e
  | _, _, 0, _, .cons r _, e => by simp at e; subst e; exact ⟨_, rfl, r⟩
  | _, _, i + 1, _, .cons _ t, e => by
    obtain ⟨v, h1, h2⟩ := RpL.get (i := i) t (by simpa using e)
    exact ⟨v, by simpa using h1, h2⟩
theorem RpL.getV {F : Hp} : ∀ {vs : List V} {ds : List D} {i : Nat} {v : V}, RpL F vs ds → vs[i]? = some v → ∃ d, ds[i]? = some d ∧ Rp F v d
  | _, _, _, _, .nil, e => by simp at e
  | _, _, 0, _, .cons r _, e => by simp at e; subst e; exact ⟨_, rfl, r⟩
  | _, _, i + 1, _, .cons _ t, e => by
    obtain ⟨v, h1, h2⟩ := RpL.getV (i := i) t (by simpa using e)
    exact ⟨v, by simpa using h1, h2⟩
theorem RpL.app {F : Hp} : ∀ {vs ws : List V} {ds es : List D}, RpL F vs ds → RpL F ws es → RpL F (vs ++ ws) (ds ++ es)
  | _, _, _, _, .nil, s => s
  | _, _, _, _, .cons r t, s => .cons r (RpL.app t s)
theorem RpL.take {F : Hp} : ∀ {vs : List V} {ds : List D} (n : Nat), RpL F vs ds → RpL F (vs.take n) (ds.take n)
  | _, _, 0, _ => by simpa using RpL.nil
  | _, _, _ + 1, .nil => by simpa using RpL.nil
  | _, _, n + 1, .cons r t => by simpa using RpL.cons r (RpL.take n t)
theorem RpL.drop {F : Hp} : ∀ {vs : List V} {ds : List D} (n : Nat), RpL F vs ds → RpL F (vs.drop n) (ds.drop n)
  | _, _, 0, r => by simpa using r
  | _, _, _ + 1, .nil => by simpa using RpL.nil
  | _, _, n + 1, .cons _ t => by simpa using RpL.drop n t
theorem RpL.set {F : Hp} {v : V} {d : D} (r : Rp F v d) : ∀ {vs : List V} {ds : List D} (i : Nat), RpL F vs ds → RpL F (vs.set i v) (ds.set i d)
  | _, _, _, .nil => .nil
  | _, _, 0, .cons _ t => .cons r t
  | _, _, i + 1, .cons q t => .cons q (RpL.set r i t)
theorem RpL.reverse {F : Hp} {vs : List V} {ds : List D} (h : RpL F vs ds) : RpL F vs.reverse ds.reverse := by
  induction vs generalizing ds with
  | nil => cases h; exact .nil
  | cons v vs ih =>
    cases h with
    | cons r t => rw [List.reverse_cons, List.reverse_cons]; exact RpL.app (ih t) (.cons r .nil)

/-! ### slots -/
/-- the own list, dict at a -/
def OwnAt (F H : Hp) (a : Addr) (d : D) : Prop := F a = none ∧ match d with
  | .lst ds => ∃ xs, H a = some (.lst xs) ∧ RpL F xs ds
  | .dic kvs => ∃ ks, H a = some (.dK ks) ∧ RpK F ks kvs
  | _ => False
abbrev En : Type := Option V × Sl
abbrev Lt : Type := List En
def EntR (F H : Hp) (p : En) : Prop := match p.2 with
  | .non => True
  | .shr d => ∃ v, p.1 = some v ∧ Rp F v d
  | .own d => ∃ a, p.1 = some (.ref a) ∧ OwnAt F H a d
def isOwn (p : En) (a : Addr) : Prop := p.1 = some (.ref a) ∧ ∃ d, p.2 = .own d
def Own (L : Lt) (a : Addr) : Prop := ∃ p ∈ L, isOwn p a
def Apart (p q : En) : Prop := ∀ a, isOwn p a → isOwn q a → False
theorem Apart.symm {p q : En} (h : Apart p q) : Apart q p := fun a x y => h a y x
structure ER (F H : Hp) (L : Lt) : Prop where
  le : Le F H
  each : ∀ p ∈ L, EntR F H p
  inj : L.Pairwise Apart
/-- from (F, H, L) to (F', H', L') -/
structure Rel (F H : Hp) (L : Lt) (F' H' : Hp) (L' : Lt) : Prop where
  mono : Le F F'
  dom : ∀ a, H' a = none → H a = none
  keep : ∀ a o, H a = some o → ¬ Own L a → H' a = some o
  frz : ∀ a, H a ≠ none → ¬ Own L a → F a = none → F' a = none
  mine : ∀ a, Own L' a → Own L a ∨ H a = none
  er : ER F' H' L'

theorem OwnAt.there {F H : Hp} {a : Addr} {d : D} (h : OwnAt F H a d) : ∃ o, H a = some o := by
  obtain ⟨_, h⟩ := h
  cases d <;> first | exact h.elim | (obtain ⟨_, e, _⟩ := h; exact ⟨_, e⟩)
theorem OwnAt.stay {F H F' H' : Hp} {a : Addr} {d : D} (h : OwnAt F H a d) (m : Le F F') (f : F' a = none) (k : ∀ o, H a = some o → H' a = some o) : OwnAt F' H' a d := by
  obtain ⟨_, h⟩ := h
  refine ⟨f, ?_⟩
  cases d with
  | lst ds => obtain ⟨xs, e, r⟩ := h; exact ⟨xs, k _ e, RpL.mono m r⟩
  | dic kvs => obtain ⟨xs, e, r⟩ := h; exact ⟨xs, k _ e, RpK.mono m r⟩
  | _ => exact h.elim
theorem EntR.own {F H : Hp} {p : En} {a : Addr} (h : EntR F H p) (o : isOwn p a) : ∃ d, p.2 = .own d ∧ OwnAt F H a d := by
  obtain ⟨e, d, q⟩ := o
  unfold EntR at h
  rw [q] at h
  obtain ⟨b, e2, w⟩ := h
  rw [e] at e2
  cases e2
  exact ⟨d, q, w⟩
theorem ER.own_some {F H : Hp} {L : Lt} (h : ER F H L) {a : Addr} (o : Own L a) : H a ≠ none := by
  obtain ⟨p, hp, o⟩ := o
  obtain ⟨d, _, w⟩ := (h.each p hp).own o
  obtain ⟨u, e⟩ := w.there
  rw [e]; simp
theorem ER.own_none {F H : Hp} {L : Lt} (h : ER F H L) {a : Addr} (o : Own L a) : F a = none := by
  obtain ⟨p, hp, o⟩ := o
  obtain ⟨d, _, w⟩ := (h.each p hp).own o
  exact w.1
theorem Own.perm {L L' : Lt} (p : L.Perm L') {a : Addr} (o : Own L a) : Own L' a := let ⟨q, h, w⟩ := o; ⟨q, p.mem_iff.mp h, w⟩
theorem Own.sub {L L' : Lt} (p : L.Sublist L') {a : Addr} (o : Own L a) : Own L' a := let ⟨q, h, w⟩ := o; ⟨q, p.subset h, w⟩
theorem own_app {L G : Lt} {a : Addr} : Own (L ++ G) a ↔ Own L a ∨ Own G a := by
  constructor
  · rintro ⟨p, h, w⟩
    rcases List.mem_append.mp h with h | h
    · exact .inl ⟨p, h, w⟩
    · exact .inr ⟨p, h, w⟩
  · rintro (⟨p, h, w⟩ | ⟨p, h, w⟩)
    · exact ⟨p, List.mem_append_left _ h, w⟩
    · exact ⟨p, List.mem_append_right _ h, w⟩
theorem own_cons {p : En} {G : Lt} {a : Addr} : Own (p :: G) a ↔ isOwn p a ∨ Own G a := by
  constructor
  · rintro ⟨q, h, w⟩
    rcases List.mem_cons.mp h with rfl | h
    · exact .inl w
    · exact .inr ⟨q, h, w⟩
  · rintro (w | ⟨q, h, w⟩)
    · exact ⟨p, List.mem_cons_self, w⟩
    · exact ⟨q, List.mem_cons_of_mem _ h, w⟩
theorem ER.perm {F H : Hp} {L L' : Lt} (h : ER F H L) (p : L.Perm L') : ER F H L' :=
  ⟨h.le, fun q hq => h.each q (p.mem_iff.mpr hq), (p.pairwise_iff (fun h => h.symm)).mp h.inj⟩
theorem ER.sub {F H : Hp} {L L' : Lt} (h : ER F H L) (p : L'.Sublist L) : ER F H L' :=
  ⟨h.le, fun q hq => h.each q (p.subset hq), h.inj.sublist p⟩
theorem Rel.refl {F H : Hp} {L : Lt} (h : ER F H L) : Rel F H L F H L :=
  ⟨.refl, fun _ e => e, fun _ _ e _ => e, fun _ _ _ e => e, fun _ o => .inl o, h⟩
theorem Rel.trans {F H F1 H1 F2 H2 : Hp} {L L1 L2 : Lt} (x : Rel F H L F1 H1 L1) (y : Rel F1 H1 L1 F2 H2 L2) : Rel F H L F2 H2 L2 := by
  have nown : ∀ a, H a ≠ none → ¬ Own L a → ¬ Own L1 a := fun a n h o => (x.mine a o).elim h n
  refine ⟨x.mono.trans y.mono, fun a e => x.dom a (y.dom a e), fun a o e n => ?_, fun a s n f => ?_, fun a o => ?_, y.er⟩
  · exact y.keep a o (x.keep a o e n) (nown a (by rw [e]; simp) n)
  · exact y.frz a (fun e => s (x.dom a e)) (nown a s n) (x.frz a s n f)
  · rcases y.mine a o with o | e
    · exact x.mine a o
    · exact .inr (x.dom a e)
theorem Rel.permR {F H F1 H1 : Hp} {L L1 L2 : Lt} (x : Rel F H L F1 H1 L1) (p : L1.Perm L2) : Rel F H L F1 H1 L2 :=
  ⟨x.mono, x.dom, x.keep, x.frz, fun a o => x.mine a (o.perm p.symm), x.er.perm p⟩
theorem Rel.permL {F H F1 H1 : Hp} {L L1 L2 : Lt} (x : Rel F H L F1 H1 L1) (p : L.Perm L2) : Rel F H L2 F1 H1 L1 :=
  ⟨x.mono, x.dom, fun a o e n => x.keep a o e fun w => n (w.perm p), fun a s n => x.frz a s fun w => n (w.perm p), fun a o => (x.mine a o).imp_left fun w => w.perm p, x.er⟩
theorem Rel.subR {F H F1 H1 : Hp} {L L1 L2 : Lt} (x : Rel F H L F1 H1 L1) (p : L2.Sublist L1) : Rel F H L F1 H1 L2 :=
  ⟨x.mono, x.dom, x.keep, x.frz, fun a o => x.mine a (o.sub p), x.er.sub p⟩
/-- more is owned ahead -/
theorem Rel.subL {F H F1 H1 : Hp} {L L1 L2 : Lt} (x : Rel F H L F1 H1 L1) (p : L.Sublist L2) : Rel F H L2 F1 H1 L1 :=
  ⟨x.mono, x.dom, fun a o e n => x.keep a o e fun w => n (w.sub p), fun a s n => x.frz a s fun w => n (w.sub p), fun a o => (x.mine a o).imp_left fun w => w.sub p, x.er⟩
/-- THE FRAME: what is held aside stays -/
theorem Rel.frame {F H F1 H1 : Hp} {L L1 G : Lt} (x : Rel F H L F1 H1 L1) (e : ER F H (L ++ G)) : Rel F H (L ++ G) F1 H1 (L1 ++ G) := by
  have ap : ∀ a, Own L a → Own G a → False := fun a o g => by
    obtain ⟨p, hp, wp⟩ := o
    obtain ⟨q, hq, wq⟩ := g
    exact (List.pairwise_append.mp e.inj).2.2 p hp q hq a wp wq
  have eG : ER F H G := e.sub (List.sublist_append_right _ _)
  refine ⟨x.mono, x.dom, fun a o h n => x.keep a o h fun w => n (own_app.mpr (.inl w)), fun a s n => x.frz a s fun w => n (own_app.mpr (.inl w)), fun a o => ?_, x.er.le, fun p hp => ?_, ?_⟩
  · rcases own_app.mp o with o | o
    · exact (x.mine a o).imp_left fun w => own_app.mpr (.inl w)
    · exact .inl (own_app.mpr (.inr o))
  · rcases List.mem_append.mp hp with h | h
    · exact x.er.each p h
    · have w := eG.each p h
      unfold EntR at w ⊢
      cases q : p.2 with
      | non => trivial
      | shr d =>
        rw [q] at w
        obtain ⟨v, e1, r⟩ := w
        exact ⟨v, e1, r.mono x.mono⟩
      | own d =>
        rw [q] at w
        obtain ⟨a, e1, r⟩ := w
        have og : Own G a := ⟨p, h, e1, d, q⟩
        have nl : ¬ Own L a := fun o => ap a o og
        exact ⟨a, e1, OwnAt.stay r x.mono (x.frz a (eG.own_some og) nl r.1) fun o h1 => x.keep a o h1 nl⟩
  · refine List.pairwise_append.mpr ⟨x.er.inj, eG.inj, fun p hp q hq a wp wq => ?_⟩
    have og : Own G a := ⟨q, hq, wq⟩
    rcases x.mine a ⟨p, hp, wp⟩ with o | o
    · exact ap a o og
    · exact eG.own_some og o
theorem Rel.frameC {F H F1 H1 : Hp} {L L1 : Lt} {g : En} (x : Rel F H L F1 H1 L1) (e : ER F H (g :: L)) : Rel F H (g :: L) F1 H1 (g :: L1) :=
  ((x.frame (G := [g]) (e.perm (List.perm_append_comm (l₁ := [g]) (l₂ := L)))).permL (List.perm_append_comm (l₁ := L) (l₂ := [g]))).permR (List.perm_append_comm (l₁ := L1) (l₂ := [g]))
/-- an own thing is given to all -/
theorem ER.freeze {F H : Hp} {v : Option V} {d : D} {L : Lt} (h : ER F H ((v, .own d) :: L)) : ∃ F', Rel F H ((v, .own d) :: L) F' H ((v, .shr d) :: L) := by
  obtain ⟨a, e, w⟩ := h.each (v, .own d) List.mem_cons_self
  have ev : v = some (.ref a) := e
  subst ev
  have ho : isOwn (some (V.ref a), Sl.own d) a := ⟨rfl, d, rfl⟩
  obtain ⟨o, he⟩ := w.there
  have le : Le F (upd F a o) := Le.upd w.1
  have ap : ∀ q ∈ L, ∀ b, isOwn q b → b ≠ a := fun q hq b wq z => by
    subst z
    exact (List.pairwise_cons.mp h.inj).1 q hq b ho wq
  refine ⟨upd F a o, le, fun _ e => e, fun _ _ e _ => e, fun b s n f => ?_, fun b o' => ?_, ?_, fun p hp => ?_, ?_⟩
  · rw [upd_ne (fun z => n (by subst z; exact ⟨_, List.mem_cons_self, ho⟩))]; exact f
  · rcases own_cons.mp o' with ⟨_, d', z⟩ | o'
    · cases z
    · exact .inl (own_cons.mpr (.inr o'))
  · intro b u e2
    by_cases hb : b = a
    · subst hb; rw [upd_same] at e2; cases e2; exact he
    · rw [upd_ne hb] at e2; exact h.le b u e2
  · rcases List.mem_cons.mp hp with rfl | hp
    · refine ⟨.ref a, rfl, ?_⟩
      obtain ⟨_, w⟩ := w
      cases d with
      | lst ds =>
        obtain ⟨xs, e1, r⟩ := w
        rw [e1] at he; cases he
        exact .lst (.inl upd_same) (r.mono le)
      | dic kvs =>
        obtain ⟨xs, e1, r⟩ := w
        rw [e1] at he; cases he
        exact .dic upd_same (r.mono le)
      | _ => exact w.elim
    · have z := h.each p (List.mem_cons_of_mem _ hp)
      unfold EntR at z ⊢
      cases q : p.2 with
      | non => trivial
      | shr d' =>
        rw [q] at z
        obtain ⟨v, e1, r⟩ := z
        exact ⟨v, e1, r.mono le⟩
      | own d' =>
        rw [q] at z
        obtain ⟨b, e1, r⟩ := z
        exact ⟨b, e1, OwnAt.stay r le (by rw [upd_ne (ap p hp b ⟨e1, d', q⟩)]; exact r.1) fun _ e => e⟩
  · refine List.pairwise_cons.mpr ⟨fun q hq b w1 w2 => ?_, (List.pairwise_cons.mp h.inj).2⟩
    obtain ⟨_, d', z⟩ := w1
    cases z
/-- a slot is forgotten -/
theorem ER.forget {F H : Hp} {p : En} {v : Option V} {L : Lt} (h : ER F H (p :: L)) : ER F H ((v, .non) :: L) :=
  ⟨h.le, fun q hq => (List.mem_cons.mp hq).elim (fun e => by subst e; trivial) fun hq => h.each q (List.mem_cons_of_mem _ hq),
    List.pairwise_cons.mpr ⟨fun q hq b w1 w2 => (by obtain ⟨_, d', z⟩ := w1; cases z), (List.pairwise_cons.mp h.inj).2⟩⟩
theorem ER.non {F H : Hp} {v : Option V} {L : Lt} (h : ER F H L) : ER F H ((v, .non) :: L) :=
  ⟨h.le, fun q hq => (List.mem_cons.mp hq).elim (fun e => by subst e; trivial) fun hq => h.each q hq,
    List.pairwise_cons.mpr ⟨fun q hq b w1 w2 => (by obtain ⟨_, d', z⟩ := w1; cases z), h.inj⟩⟩
theorem ER.shr {F H : Hp} {v : V} {d : D} {L : Lt} (h : ER F H L) (r : Rp F v d) : ER F H ((some v, .shr d) :: L) :=
  ⟨h.le, fun q hq => (List.mem_cons.mp hq).elim (fun e => by subst e; exact ⟨v, rfl, r⟩) fun hq => h.each q hq,
    List.pairwise_cons.mpr ⟨fun q hq b w1 w2 => (by obtain ⟨_, d', z⟩ := w1; cases z), h.inj⟩⟩
theorem Rel.shr {F H F' H' : Hp} {v : V} {d : D} {L L' : Lt} (h : Rel F H L F' H' L') (r : Rp F' v d) : Rel F H L F' H' ((some v, .shr d) :: L') :=
  ⟨h.mono, h.dom, h.keep, h.frz, fun a o => (own_cons.mp o).elim (fun w => by obtain ⟨_, d', z⟩ := w; cases z) (h.mine a), h.er.shr r⟩
theorem Rel.non {F H F' H' : Hp} {v : Option V} {L L' : Lt} (h : Rel F H L F' H' L') : Rel F H L F' H' ((v, .non) :: L') :=
  ⟨h.mono, h.dom, h.keep, h.frz, fun a o => (own_cons.mp o).elim (fun w => by obtain ⟨_, d', z⟩ := w; cases z) (h.mine a), h.er.non⟩
theorem Rel.freeze {F H F' H' : Hp} {v : Option V} {d : D} {L L' : Lt} (h : Rel F H L F' H' ((v, .own d) :: L')) : ∃ F'', Rel F H L F'' H' ((v, .shr d) :: L') :=
  let ⟨F'', x⟩ := h.er.freeze
  ⟨F'', h.trans x⟩
theorem Rel.tail {F H F' H' : Hp} {p : En} {L L' : Lt} (h : Rel F H L F' H' (p :: L')) : Rel F H L F' H' L' := h.subR (List.sublist_cons_self _ _)
theorem ER.tail {F H : Hp} {p : En} {L : Lt} (h : ER F H (p :: L)) : ER F H L := h.sub (List.sublist_cons_self _ _)
/-- whatever it was, it is now a value -/
theorem Rel.dval {F H F' H' : Hp} {v : Option V} {s : Sl} {d : D} {L L' : Lt} (h : Rel F H L F' H' ((v, s) :: L')) (e : s.d? = some d) : ∃ F'', Rel F H L F'' H' ((v, .shr d) :: L') := by
  cases s with
  | non => cases e
  | shr d' => cases e; exact ⟨F', h⟩
  | own d' => cases e; exact h.freeze
theorem ER.rp {F H : Hp} {v : Option V} {d : D} {L : Lt} (h : ER F H ((v, .shr d) :: L)) : ∃ u, v = some u ∧ Rp F u d := h.each _ List.mem_cons_self
theorem ER.rpv {F H : Hp} {v : V} {d : D} {L : Lt} (h : ER F H ((some v, .shr d) :: L)) : Rp F v d := by
  obtain ⟨u, e, r⟩ := h.rp
  cases e; exact r

/-! ### slots of a frame -/
abbrev zp (σ : St) (ρ : Env) : Lt := σ.zip ρ
theorem zp_split : ∀ {σ : St} {ρ : Env} {i : Nat} {s : Sl} {v : Option V}, σ[i]? = some v → ρ[i]? = some s →
    ∃ R : Lt, (zp σ ρ).Perm ((v, s) :: R) ∧ ∀ v' s', (zp (σ.set i v') (ρ.set i s')).Perm ((v', s') :: R)
  | v :: σ, s :: ρ, 0, _, _, h1, h2 => by
    simp at h1 h2; subst h1; subst h2
    exact ⟨zp σ ρ, by simp [zp], fun v' s' => by simp [zp]⟩
  | v :: σ, s :: ρ, i + 1, s0, v0, h1, h2 => by
    obtain ⟨R, p, q⟩ := zp_split (σ := σ) (ρ := ρ) (i := i) (by simpa using h1) (by simpa using h2)
    refine ⟨(v, s) :: R, ?_, fun v' s' => ?_⟩
    · show ((v, s) :: zp σ ρ).Perm _
      exact (p.cons _).trans (.swap _ _ _)
    · show ((v, s) :: zp (σ.set i v') (ρ.set i s')).Perm _
      exact ((q v' s').cons _).trans (.swap _ _ _)
  | [], _, _, _, _, h1, _ => by simp at h1
  | _ :: _, [], _, _, _, _, h2 => by simp at h2
theorem zp_at {σ : St} {ρ : Env} {i : Nat} {s : Sl} (hl : ρ.length = σ.length) (h : ρ[i]? = some s) : ∃ v, σ[i]? = some v := by
  have hi : i < σ.length := by rw [← hl]; exact (List.getElem?_eq_some_iff.mp h).1
  exact ⟨σ[i], List.getElem?_eq_getElem hi⟩
/-- only the slot's knowledge changes -/
theorem zp_split1 {σ : St} {ρ : Env} {i : Nat} {s : Sl} {v : Option V} (h1 : σ[i]? = some v) (h2 : ρ[i]? = some s) :
    ∃ R : Lt, (zp σ ρ).Perm ((v, s) :: R) ∧ (∀ s', (zp σ (ρ.set i s')).Perm ((v, s') :: R)) ∧ ∀ v' s', (zp (σ.set i v') (ρ.set i s')).Perm ((v', s') :: R) := by
  obtain ⟨R, p, q⟩ := zp_split h1 h2
  refine ⟨R, p, fun s' => ?_, q⟩
  have e := q v s'
  have hi : i < σ.length := (List.getElem?_eq_some_iff.mp h1).1
  have : σ.set i v = σ := by
    apply List.ext_getElem?
    intro j
    by_cases hj : j = i
    · subst hj; rw [List.getElem?_set_self hi, h1]
    · rw [List.getElem?_set_ne (fun z => hj z.symm)]
  rw [this] at e
  exact e
end Mx

end
section
set_option Elab.async false
set_option linter.all false
set_option maxRecDepth 100000
set_option maxHeartbeats 4000000
/-! MxC: readings out of the evaluator, and the expressions' forms. -/
namespace Mx
open PySem PySem.Spec L2
variable [CA]

abbrev WE : Type := Str → St → Hp → Prop
/-- what is wanted of an end r -/
def gR {α β : Type} (W : WE) (en : β → α → Lt) (ok : St → β → α → Prop) (r : R (α × Env)) (F H : Hp) (σ : St) (ρ : Env) (Q : β → Hp → Prop) : Prop := match r with
  | .ok (x, ρ') => ∀ b F' H', ρ'.length = σ.length → ok σ b x → Rel F H (zp σ ρ) F' H' (en b x ++ zp σ ρ') → Q b H'
  | .exc c ρ' => ∀ F' H', ρ'.length = σ.length → Rel F H (zp σ ρ) F' H' (zp σ ρ') → W c σ H'
  | .bad => False
/-- the reading of a piece of code -/
def tG {α β : Type} (W : WE) (en : β → α → Lt) (ok : St → β → α → Prop) (r : Env → R (α × Env)) : St → Hp → (β → Hp → Prop) → Prop := fun σ H Q =>
  ∃ F ρ, ρ.length = σ.length ∧ ER F H (zp σ ρ) ∧ gR W en ok (r ρ) F H σ ρ Q
def enE (v : V) (s : Sl) : Lt := [(some v, s)]
def okE (_ : St) (_ : V) (_ : Sl) : Prop := True
def enO (v : V) : Opd → Lt
  | .val d => [(some v, .shr d)]
  | .bor _ => []
def okO (σ : St) (v : V) : Opd → Prop
  | .val _ => True
  | .bor i => σ[i]? = some (some v)
def enOs : List V → List Opd → Lt
  | v :: vs, o :: os => enO v o ++ enOs vs os
  | _, _ => []
def okOs (σ : St) : List V → List Opd → Prop
  | v :: vs, o :: os => okO σ v o ∧ okOs σ vs os
  | [], [] => True
  | _, _ => False
def enK (v : V) (d : D) : Lt := [(some v, .shr d)]
def okK (_ : St) (_ : V) (_ : D) : Prop := True
def enL : List V → List D → Lt
  | v :: vs, d :: ds => (some v, .shr d) :: enL vs ds
  | _, _ => []
def okL (_ : St) (vs : List V) (ds : List D) : Prop := vs.length = ds.length
def enA (v : V) (s : Ar) : Lt := [(some v, s.sl)]
def okA (σ : St) (v : V) : Ar → Prop
  | .val _ => True
  | .mov i _ => σ[i]? = some (some v)
def enAs : List V → List Ar → Lt
  | v :: vs, d :: ds => (some v, d.sl) :: enAs vs ds
  | _, _ => []
def okAs (σ : St) : List V → List Ar → Prop
  | v :: vs, o :: os => okA σ v o ∧ okAs σ vs os
  | [], [] => True
  | _, _ => False
def enT (_ : Bool) (_ : Bool) : Lt := []
def okT (_ : St) (b : Bool) (x : Bool) : Prop := b = x
abbrev tE (W : WE) (r : Env → R (Sl × Env)) : TE := tG W enE okE r
abbrev tO (W : WE) (r : Env → R (Opd × Env)) : TE := tG W enO okO r
abbrev tOs (W : WE) (r : Env → R (List Opd × Env)) : TA := tG W enOs okOs r
abbrev tK (W : WE) (r : Env → R (D × Env)) : TE := tG W enK okK r
abbrev tL (W : WE) (r : Env → R (List D × Env)) : TA := tG W enL okL r
abbrev tA (W : WE) (r : Env → R (Ar × Env)) : TE := tG W enA okA r
abbrev tAs (W : WE) (r : Env → R (List Ar × Env)) : TA := tG W enAs okAs r
abbrev tT (W : WE) (r : Env → R (Bool × Env)) : TT := tG W enT okT r

section
variable {α β γ δ : Type} {W : WE} {en : β → α → Lt} {ok : St → β → α → Prop} {en2 : δ → γ → Lt} {ok2 : St → δ → γ → Prop}
/-- one piece within another: G are held aside -/
theorem step {r : Env → R (α × Env)} {f : α × Env → R (γ × Env)} {F0 H0 F H : Hp} {σ : St} {ρ0 ρ : Env} {G : Lt} {Q : β → Hp → Prop} {Q' : δ → Hp → Prop}
    (x : Rel F0 H0 (zp σ ρ0) F H (G ++ zp σ ρ)) (hl : ρ.length = σ.length) (h : gR W en2 ok2 ((r ρ).bind f) F0 H0 σ ρ0 Q')
    (k : ∀ b y ρ' F' H', r ρ = .ok (y, ρ') → ρ'.length = σ.length → ok σ b y → Rel F0 H0 (zp σ ρ0) F' H' (en b y ++ (G ++ zp σ ρ')) → gR W en2 ok2 (f (y, ρ')) F0 H0 σ ρ0 Q' → Q b H') :
    tG W en ok r σ H Q := by
  have e0 : ER F H (zp σ ρ ++ G) := x.er.perm List.perm_append_comm
  refine ⟨F, ρ, hl, e0.sub (List.sublist_append_left _ _), ?_⟩
  cases q : r ρ with
  | bad => rw [q] at h; exact h
  | exc c ρ' =>
    rw [q] at h
    intro F' H' hl' y
    refine h F' H' hl' ((x.trans ((y.frame e0).permL List.perm_append_comm)).subR (List.sublist_append_left _ _))
  | ok p =>
    obtain ⟨y, ρ'⟩ := p
    rw [q] at h
    intro b F' H' hl' ho z
    refine k b y ρ' F' H' q hl' ho ?_ h
    have z2 := (z.frame e0).permL List.perm_append_comm
    refine (x.trans z2).permR ?_
    rw [List.append_assoc]
    exact List.Perm.append_left _ List.perm_append_comm
/-- from the very start -/
theorem step0 {r : Env → R (α × Env)} {f : α × Env → R (γ × Env)} {σ : St} {H : Hp} {Q : β → Hp → Prop} {Q' : δ → Hp → Prop}
    (h : tG W en2 ok2 (fun ρ => (r ρ).bind f) σ H Q')
    (k : ∀ F ρ, ρ.length = σ.length → ER F H (zp σ ρ) → ∀ b y ρ' F' H', r ρ = .ok (y, ρ') → ρ'.length = σ.length → ok σ b y → Rel F H (zp σ ρ) F' H' (en b y ++ zp σ ρ') → gR W en2 ok2 (f (y, ρ')) F H σ ρ Q' → Q b H') :
    tG W en ok r σ H Q := by
  obtain ⟨F, ρ, hl, er, h⟩ := h
  exact step (G := []) (Rel.refl er) hl h (k F ρ hl er)
/-- the last piece is the whole's end -/
theorem gR_ok {x : α} {ρ' : Env} {F H : Hp} {σ : St} {ρ : Env} {Q : β → Hp → Prop} (h : gR W en ok (.ok (x, ρ')) F H σ ρ Q) {b : β} {F' H' : Hp} (hl : ρ'.length = σ.length) (ho : ok σ b x)
    (r : Rel F H (zp σ ρ) F' H' (en b x ++ zp σ ρ')) : Q b H' := h b F' H' hl ho r
/-- the tail of the code is the whole's -/
theorem tailG {r : Env → R (α × Env)} {F0 H0 F H : Hp} {σ : St} {ρ0 ρ : Env} {Q : β → Hp → Prop} (x : Rel F0 H0 (zp σ ρ0) F H (zp σ ρ)) (hl : ρ.length = σ.length) (h : gR W en ok (r ρ) F0 H0 σ ρ0 Q) : tG W en ok r σ H Q := by
  refine ⟨F, ρ, hl, x.er, ?_⟩
  cases q : r ρ with
  | bad => rw [q] at h; exact h
  | exc c ρ' => rw [q] at h; exact fun F' H' hl' y => h F' H' hl' (x.trans y)
  | ok p => obtain ⟨y, ρ'⟩ := p; rw [q] at h; exact fun b F' H' hl' ho z => h b F' H' hl' ho (x.trans z)
end

section
variable {X : Cx} {e : Expr} {t t' : TE}
theorem pe_imp (h : PE X e t) (k : ∀ σ H Q, t' σ H Q → t σ H Q) : PE X e t' := ⟨fun pins s σ H Q I hw => h.run pins s σ H Q I (k σ H Q hw)⟩
theorem pa_imp {es : List Expr} {t t' : TA} (h : PA X es t) (k : ∀ σ H Q, t' σ H Q → t σ H Q) : PA X es t' := ⟨fun pos pins s σ H Q I hw => h.run pos pins s σ H Q I (k σ H Q hw)⟩
theorem pt_imp {t t' : TT} (h : PT X e t) (k : ∀ σ H Q, t' σ H Q → t σ H Q) : PT X e t' := ⟨fun pins s σ H Q I hw => h.run pins s σ H Q I (k σ H Q hw)⟩
theorem pw_imp {t t' : TT} (h : PW X e t) (k : ∀ σ H Q, t' σ H Q → t σ H Q) : PW X e t' := ⟨fun wh pins s σ H Q I hw => h.run wh pins s σ H Q I (k σ H Q hw)⟩
theorem ps_imp {st : Stmt} {t t' : TS} (h : PS X st t) (k : ∀ D σ H, t' D σ H → t D σ H) : PS X st t' := ⟨fun pins s σ H D I hw => h.run pins s σ H D I (k D σ H hw)⟩
theorem pss_imp {st : List Stmt} {t t' : TS} (h : PSs X st t) (k : ∀ D σ H, t' D σ H → t D σ H) : PSs X st t' := ⟨fun pins s σ H D I hw => h.run pins s σ H D I (k D σ H hw)⟩
end

/-! ### operands, by what they stand for -/
def Bp (F H : Hp) (v : V) (d : D) : Prop := Rp F v d ∨ ∃ a, v = .ref a ∧ OwnAt F H a d
inductive BpL (F H : Hp) : List V → List D → Prop
  | nil : BpL F H [] []
  | cons {v : V} {vs : List V} {d : D} {ds : List D} : Bp F H v d → BpL F H vs ds → BpL F H (v :: vs) (d :: ds)
theorem bp_of {F H : Hp} {L : Lt} {σ : St} {ρ : Env} {v : V} {o : Opd} {d : D} (er : ER F H L) (h1 : ∀ p ∈ enO v o, p ∈ L) (h2 : ∀ p ∈ zp σ ρ, p ∈ L) (ok : okO σ v o) (g : o.get ρ = some d) : Bp F H v d := by
  cases o with
  | val d' =>
    cases g
    obtain ⟨u, e, r⟩ := er.each _ (h1 _ List.mem_cons_self)
    cases e
    exact .inl r
  | bor i =>
    have ok : σ[i]? = some (some v) := ok
    have g : (match ρ[i]? with | some (.own d) => some d | _ => none) = some d := g
    cases q : ρ[i]? with
    | none => rw [q] at g; cases g
    | some s =>
      rw [q] at g
      cases s with
      | own d' =>
        cases g
        obtain ⟨R, p, _⟩ := zp_split ok q
        obtain ⟨a, e, w⟩ := er.each _ (h2 _ (p.mem_iff.mpr List.mem_cons_self))
        cases e
        exact .inr ⟨a, rfl, w⟩
      | _ => cases g
theorem bpL_of {F H : Hp} {L : Lt} {σ : St} {ρ : Env} (er : ER F H L) (h2 : ∀ p ∈ zp σ ρ, p ∈ L) : ∀ {vs : List V} {os : List Opd} {ds : List D}, (∀ p ∈ enOs vs os, p ∈ L) → okOs σ vs os → gets ρ os = some ds → BpL F H vs ds
  | [], [], _, _, _, g => by cases g; exact .nil
  | [], _ :: _, _, _, o, _ => o.elim
  | _ :: _, [], _, _, o, _ => o.elim
  | v :: vs, o :: os, ds, h1, ok, g => by
    have g' : ((o.get ρ).bind fun d => (gets ρ os).map (d :: ·)) = some ds := g
    cases e : o.get ρ with
    | none => rw [e] at g'; cases g'
    | some d =>
      rw [e] at g'
      have g2 : ((gets ρ os).map (d :: ·)) = some ds := g'
      obtain ⟨dr, e2, rfl⟩ := Option.map_eq_some_iff.mp g2
      exact .cons (bp_of er (fun p hp => h1 p (List.mem_append_left _ hp)) h2 ok.1 e) (bpL_of er h2 (fun p hp => h1 p (List.mem_append_right _ hp)) ok.2 e2)
/-- what a primitive may do: new things alone -/
structure New (F H F' H' : Hp) (v : V) (s : Sl) : Prop where
  mono : Le F F'
  keep : Le H H'
  le : Le F' H'
  frz : ∀ a, H a ≠ none → F a = none → F' a = none
  en : EntR F' H' (some v, s)
  own : ∀ a, isOwn (some v, s) a → H a = none
theorem New.rel {F H F' H' : Hp} {v : V} {s : Sl} {L : Lt} (n : New F H F' H' v s) (e : ER F H L) : Rel F H L F' H' ((some v, s) :: L) := by
  have dom : ∀ a, H' a = none → H a = none := fun a z => by
    cases q : H a with
    | none => rfl
    | some o => rw [n.keep a o q] at z; cases z
  refine ⟨n.mono, dom, fun a o q _ => n.keep a o q, fun a s _ f => n.frz a s f, fun a o => ?_, n.le, fun p hp => ?_, ?_⟩
  · rcases own_cons.mp o with o | o
    · exact .inr (n.own a o)
    · exact .inl o
  · rcases List.mem_cons.mp hp with rfl | hp
    · exact n.en
    · have w := e.each p hp
      unfold EntR at w ⊢
      cases q : p.2 with
      | non => trivial
      | shr d =>
        rw [q] at w
        obtain ⟨v, e1, r⟩ := w
        exact ⟨v, e1, r.mono n.mono⟩
      | own d =>
        rw [q] at w
        obtain ⟨a, e1, r⟩ := w
        have hs : H a ≠ none := e.own_some ⟨p, hp, e1, d, q⟩
        exact ⟨a, e1, OwnAt.stay r n.mono (n.frz a hs r.1) fun o h1 => n.keep a o h1⟩
  · refine List.pairwise_cons.mpr ⟨fun q hq a wp wq => ?_, e.inj⟩
    exact e.own_some ⟨q, hq, wq⟩ (n.own a wp)
/-- nothing new: a value that stands already -/
theorem New.old {F H : Hp} {v : V} {d : D} (le : Le F H) (r : Rp F v d) : New F H F H v (.shr d) :=
  ⟨.refl, .refl, le, fun _ _ e => e, ⟨v, rfl, r⟩, fun a o => by obtain ⟨_, _, z⟩ := o; cases z⟩
/-- a new tuple, a new list that all may have -/
theorem New.at {F H : Hp} {p : Addr} {o : HO} {d : D} (le : Le F H) (hp : H p = none) (r : ∀ F', Le F F' → F' p = some o → Rp F' (.ref p) d) : New F H (upd F p o) (upd H p o) (.ref p) (.shr d) := by
  have hF : F p = none := by
    cases q : F p with
    | none => rfl
    | some u => rw [le p u q] at hp; cases hp
  refine ⟨.upd hF, .upd hp, fun a u e => ?_, fun a s f => ?_, ⟨_, rfl, r _ (.upd hF) upd_same⟩, fun a o => by obtain ⟨_, _, z⟩ := o; cases z⟩
  · by_cases ha : a = p
    · subst ha; rw [upd_same] at e ⊢; exact e
    · rw [upd_ne ha] at e ⊢; exact le a u e
  · have ha : a ≠ p := fun z => s (by rw [z]; exact hp)
    rw [upd_ne ha]; exact f
/-- a new list, dict of its own -/
theorem New.own_ {F H : Hp} {p : Addr} {o : HO} {d : D} (le : Le F H) (hp : H p = none) (r : ∀ H', H' p = some o → OwnAt F H' p d) : New F H F (upd H p o) (.ref p) (.own d) := by
  have hF : F p = none := by
    cases q : F p with
    | none => rfl
    | some u => rw [le p u q] at hp; cases hp
  refine ⟨.refl, .upd hp, fun a u e => ?_, fun a s f => f, ⟨p, rfl, r _ upd_same⟩, fun a o => ?_⟩
  · rw [upd_ne (ne_of_none e hF)]; exact le a u e
  · obtain ⟨e, _⟩ := o
    cases e
    exact hp
theorem le_none {F H : Hp} {p : Addr} (le : Le F H) (hp : H p = none) : F p = none := by
  cases q : F p with
  | none => rfl
  | some u => rw [le p u q] at hp; cases hp
theorem New.ownL {F H : Hp} {p : Addr} {xs : List V} {ds : List D} (le : Le F H) (hp : H p = none) (r : RpL F xs ds) : New F H F (upd H p (.lst xs)) (.ref p) (.own (.lst ds)) :=
  .own_ le hp fun H' e => ⟨le_none le hp, xs, e, r⟩
theorem New.ownK {F H : Hp} {p : Addr} {xs : List (Key × V)} {ds : List (D × D)} (le : Le F H) (hp : H p = none) (r : RpK F xs ds) : New F H F (upd H p (.dK xs)) (.ref p) (.own (.dic ds)) :=
  .own_ le hp fun H' e => ⟨le_none le hp, xs, e, r⟩
theorem New.tup {F H : Hp} {p : Addr} {xs : List V} {ds : List D} (le : Le F H) (hp : H p = none) (r : RpL F xs ds) : New F H (upd F p (.tup xs)) (upd H p (.tup xs)) (.ref p) (.shr (.tup ds)) :=
  .at le hp fun F' k e => .tup e (r.mono k)

/-- a primitive's reading by values -/
def rD (g : List D → Option Sl) : List V → Hp → VK → Prop := fun xs H Q => ∃ F ds s, Le F H ∧ BpL F H xs ds ∧ g ds = some s ∧ ∀ v F' H', New F H F' H' v s → Q v H'
def rD1 (g : List D → Option Sl) : V → Hp → VK → Prop := fun x H Q => rD g [x] H Q
def rD2 (g : List D → Option Sl) : R2 := fun x y H Q => rD g [x, y] H Q
def rDm (g : List D → Option Sl) : V → List V → Hp → VK → Prop := fun x xs H Q => rD g (x :: xs) H Q

section
variable {Γ : Tab} {asg : Nat → List Bool} {X : Cx} {W : WE} {a b c : Expr} {e a' b' c' : E} {pos : Pos}
/-- a value that is kept -/
theorem pe_kep {r : Env → R (Sl × Env)} (h : PE X a (tE W r)) : PE X a (tK W (kep r)) := by
  refine pe_imp h fun σ H Q q => ?_
  refine step0 q fun F ρ hl er v s ρ' F' H' e1 hl' _ rel g => ?_
  cases e2 : s.d? with
  | none =>
    have g2 : gR W enK okK (match s.d? with | some d => R.ok (d, ρ') | none => .bad) F H σ ρ Q := g
    rw [e2] at g2; exact g2.elim
  | some d =>
    have g2 : gR W enK okK (match s.d? with | some d => R.ok (d, ρ') | none => .bad) F H σ ρ Q := g
    rw [e2] at g2
    obtain ⟨F'', r2⟩ := Rel.dval rel e2
    exact g2 v F'' H' hl' trivial r2
/-- an operand -/
theorem pe_opd {r : Env → R (Sl × Env)} (hv : ∀ i, isVar e = some i → PE X a (tVar i)) (h : isVar e = none → PE X a (tE W r)) : PE X a (tO W (opd (isVar e) r)) := by
  cases q : isVar e with
  | none =>
    refine pe_imp (h q) fun σ H Q z => ?_
    refine step0 z fun F ρ hl er v s ρ' F' H' e1 hl' _ rel g => ?_
    cases e2 : s.d? with
    | none =>
      have g2 : gR W enO okO (match s.d? with | some d => R.ok (Opd.val d, ρ') | none => .bad) F H σ ρ Q := g
      rw [e2] at g2; exact g2.elim
    | some d =>
      have g2 : gR W enO okO (match s.d? with | some d => R.ok (Opd.val d, ρ') | none => .bad) F H σ ρ Q := g
      rw [e2] at g2
      obtain ⟨F'', r2⟩ := Rel.dval rel e2
      exact g2 v F'' H' hl' trivial r2
  | some i =>
    refine pe_imp (hv i q) fun σ H Q z => ?_
    obtain ⟨F, ρ, hl, er, g⟩ := z
    have g2 : gR W enO okO (match ρ[i]? with | some (.shr d) => R.ok (Opd.val d, ρ) | some (.own _) => .ok (.bor i, ρ) | _ => .bad) F H σ ρ Q := g
    cases e2 : ρ[i]? with
    | none => rw [e2] at g2; exact g2.elim
    | some s =>
      rw [e2] at g2
      obtain ⟨v, e3⟩ := zp_at hl e2
      obtain ⟨R, p, _⟩ := zp_split e3 e2
      have w := er.each _ (p.mem_iff.mpr List.mem_cons_self)
      cases s with
      | non => exact g2.elim
      | shr d =>
        obtain ⟨u, e4, rp⟩ := w
        cases e4
        exact ⟨u, e3, g2 u F H hl trivial ((Rel.refl er).shr rp)⟩
      | own d =>
        obtain ⟨u, e4, rp⟩ := w
        cases e4
        exact ⟨_, e3, g2 _ F H hl e3 (Rel.refl er)⟩
/-- a name that is handed on: its own list is everybody's from now on -/
theorem pe_evar {i : Nat} (hv : PE X a (tVar i)) : PE X a (tE W (evE Γ asg (.var i))) := by
  refine pe_imp hv fun σ H Q z => ?_
  obtain ⟨F, ρ, hl, er, g⟩ := z
  have g2 : gR W enE okE (match ρ[i]? with | some (.shr d) => R.ok (Sl.shr d, ρ) | some (.own d) => .ok (.shr d, ρ.set i (.shr d)) | _ => .bad) F H σ ρ Q := g
  cases e2 : ρ[i]? with
  | none => rw [e2] at g2; exact g2.elim
  | some s =>
    rw [e2] at g2
    obtain ⟨v, e3⟩ := zp_at hl e2
    obtain ⟨R, p, q, _⟩ := zp_split1 e3 e2
    have w := er.each _ (p.mem_iff.mpr List.mem_cons_self)
    cases s with
    | non => exact g2.elim
    | shr d =>
      obtain ⟨u, e4, rp⟩ := w
      cases e4
      exact ⟨u, e3, g2 u F H hl trivial ((Rel.refl er).shr rp)⟩
    | own d =>
      obtain ⟨u, e4, rp⟩ := w
      cases e4
      obtain ⟨F', r⟩ := (er.perm p).freeze
      have r2 : Rel F H (zp σ ρ) F' H (zp σ (ρ.set i (.shr d))) := (r.permL p.symm).permR (q _).symm
      exact ⟨_, e3, g2 _ F' H (by rw [List.length_set]; exact hl) trivial (r2.shr r.er.rpv)⟩
theorem pe_cst {v : V} {d : D} (h : PE X a (tC v)) (r : ∀ F, Rp F v d) : PE X a (tE W (evE Γ asg (.cst d))) := by
  refine pe_imp h fun σ H Q z => ?_
  obtain ⟨F, ρ, hl, er, g⟩ := z
  exact gR_ok g hl trivial ((Rel.refl er).shr (r F))

/-! ### lists of operands, kept values, arguments -/
theorem pa_os_nil : PA X [] (tOs W (evO Γ asg .nil)) := by
  refine pa_imp pa_nil fun σ H Q z => ?_
  obtain ⟨F, ρ, hl, er, g⟩ := z
  exact gR_ok g (b := []) hl trivial (Rel.refl er)
theorem pa_os_cons {es : List Expr} {r : E} (ha : PE X a (tO W (opd (isVar e) (evE Γ asg e)))) (hr : PA X es (tOs W (evO Γ asg r))) (hs : starEach (a :: es) X.env = (false, eval a X.env) :: starEach es X.env) :
    PA X (a :: es) (tOs W (evO Γ asg (.cons e r))) := by
  refine pa_imp (pa_cons ha hr hs) fun σ H Q z => ?_
  refine step0 z fun F ρ hl er v o ρ1 F1 H1 e1 hl1 ok1 rel1 g1 => ?_
  refine step rel1 hl1 g1 fun vs os ρ2 F2 H2 e2 hl2 ok2 rel2 g2 => ?_
  refine gR_ok g2 (b := v :: vs) hl2 ⟨ok1, ok2⟩ (rel2.permR ?_)
  show (enOs vs os ++ (enO v o ++ zp σ ρ2)).Perm ((enO v o ++ enOs vs os) ++ zp σ ρ2)
  rw [← List.append_assoc]
  exact List.Perm.append_right _ List.perm_append_comm
theorem pa_l_nil : PA X [] (tL W (evL Γ asg .nil)) := by
  refine pa_imp pa_nil fun σ H Q z => ?_
  obtain ⟨F, ρ, hl, er, g⟩ := z
  exact gR_ok g (b := []) hl rfl (Rel.refl er)
theorem pa_l_cons {es : List Expr} {r : E} (ha : PE X a (tE W (evE Γ asg e))) (hr : PA X es (tL W (evL Γ asg r))) (hs : starEach (a :: es) X.env = (false, eval a X.env) :: starEach es X.env) :
    PA X (a :: es) (tL W (evL Γ asg (.cons e r))) := by
  refine pa_imp (pa_cons (pe_kep ha) hr hs) fun σ H Q z => ?_
  refine step0 z fun F ρ hl er v o ρ1 F1 H1 e1 hl1 ok1 rel1 g1 => ?_
  refine step rel1 hl1 g1 fun vs os ρ2 F2 H2 e2 hl2 ok2 rel2 g2 => ?_
  refine gR_ok g2 (b := v :: vs) hl2 (by have : vs.length = os.length := ok2; show vs.length + 1 = os.length + 1; rw [this]) (rel2.permR ?_)
  show (enL vs os ++ ((some v, Sl.shr o) :: zp σ ρ2)).Perm ((some v, .shr o) :: (enL vs os ++ zp σ ρ2))
  exact List.perm_middle
/-- kept values lie in F -/
theorem rpL_of {F H : Hp} {L : Lt} (er : ER F H L) : ∀ {vs : List V} {ds : List D}, vs.length = ds.length → (∀ p ∈ enL vs ds, p ∈ L) → RpL F vs ds
  | [], [], _, _ => .nil
  | [], _ :: _, h, _ => by simp at h
  | _ :: _, [], h, _ => by simp at h
  | v :: vs, d :: ds, h, m => by
    obtain ⟨u, e, r⟩ := er.each _ (m _ List.mem_cons_self)
    cases e
    exact .cons r (rpL_of er (by simpa using h) fun p hp => m p (List.mem_cons_of_mem _ hp))

/-! ### primitives -/
/-- the end of a primitive -/
theorem prim_end {g : List D → Option Sl} {F0 H0 F H : Hp} {σ : St} {ρ0 ρ : Env} {vs : List V} {os : List Opd} {G : Lt} {Q : VK} (hl : ρ.length = σ.length) (ok : okOs σ vs os) (rel : Rel F0 H0 (zp σ ρ0) F H (G ++ zp σ ρ)) (hG : ∀ p ∈ enOs vs os, p ∈ G)
    (h : gR W enE okE (match (gets ρ os).bind g with | some s => R.ok (s, ρ) | none => .bad) F0 H0 σ ρ0 Q) : rD g vs H Q := by
  cases e : gets ρ os with
  | none => rw [e] at h; exact h.elim
  | some ds =>
    rw [e] at h
    have h1 : gR W enE okE (match g ds with | some s => R.ok (s, ρ) | none => .bad) F0 H0 σ ρ0 Q := h
    cases e2 : g ds with
    | none => rw [e2] at h1; exact h1.elim
    | some s =>
      rw [e2] at h1
      refine ⟨F, ds, s, rel.er.le, bpL_of rel.er (fun p hp => List.mem_append_right _ hp) (fun p hp => List.mem_append_left _ (hG p hp)) ok e, e2, fun v F' H' n => ?_⟩
      have er : ER F H (zp σ ρ) := rel.er.sub (List.sublist_append_right _ _)
      exact gR_ok h1 hl trivial ((rel.subR (List.sublist_append_right _ _)).trans (n.rel er))
theorem bind_assoc {α β γ : Type} (r : R α) (f : α → R β) (g : β → R γ) : (r.bind f).bind g = r.bind fun x => (f x).bind g := by cases r <;> rfl
theorem bind_ok {α β : Type} (x : α) (f : α → R β) : (R.ok x).bind f = f x := rfl
theorem ev_pr {p : Pr} {args : E} : evE Γ asg (.pr p args) = fun ρ => (evO Γ asg args ρ).bind fun x => prE p x.1 x.2 := rfl
theorem ev_pr2 {p : Pr} : evE Γ asg (.pr p (.cons a' (.cons b' .nil))) = fun ρ => (opd (isVar a') (evE Γ asg a') ρ).bind fun x => (opd (isVar b') (evE Γ asg b') x.2).bind fun y => prE p [x.1, y.1] y.2 := by
  funext ρ
  show (((opd (isVar a') (evE Γ asg a') ρ).bind fun x => ((opd (isVar b') (evE Γ asg b') x.2).bind fun y => (R.ok ([], y.2)).bind fun (os, ρ2) => R.ok (y.1 :: os, ρ2)).bind fun (os, ρ2) => R.ok (x.1 :: os, ρ2))).bind (fun x => prE p x.1 x.2) = _
  rw [bind_assoc]
  congr 1
  funext x
  rw [bind_assoc, bind_assoc]
  congr 1
theorem pe_pr2 {p : Pr} {op : Operator} (ho : OpR X (binaryOp op) (rD2 (pr p))) (ha : PE X a (tO W (opd (isVar a') (evE Γ asg a')))) (hb : PE X b (tO W (opd (isVar b') (evE Γ asg b')))) :
    PE X (.BinOp a op b pos) (tE W (evE Γ asg (.pr p (.cons a' (.cons b' .nil))))) := by
  refine pe_imp (pe_op ho ha hb) fun σ H Q z => ?_
  rw [ev_pr2] at z
  refine step0 z fun F ρ hl er x o ρ1 F1 H1 e1 hl1 ok1 rel1 g1 => ?_
  refine step rel1 hl1 g1 fun y o2 ρ2 F2 H2 e2 hl2 ok2 rel2 g2 => ?_
  refine prim_end (g := pr p) (os := [o, o2]) (G := enO y o2 ++ enO x o) hl2 ⟨ok1, ok2, trivial⟩ (rel2.permR (by rw [List.append_assoc])) (fun q hq => ?_) g2
  have hq : q ∈ enO x o ++ (enO y o2 ++ []) := hq
  simp only [List.append_nil, List.mem_append] at hq ⊢
  exact hq.symm
end
end Mx

end
section
set_option Elab.async false
set_option linter.all false
set_option maxRecDepth 100000
set_option maxHeartbeats 4000000
/-! MxP0: list rules that read a list that is known from without, too. -/
namespace L2
open PySem PySem.Spec PyProof.Rows
section
variable {X : Cx} {pins : List (Addr × Obj)} {σ : St} {H : Hp} {s : Shared} {l : Addr} {xs : List V}
theorem Inv.lstR (I : Inv X pins σ H s) (h : Rd H l (.lst xs)) : ∃ (its : List Value) (n : Nat), xs.length ≤ sizeLine ∧ Vals xs its ∧ xs.length = its.length ∧ s.heap.get? l = some { cls := .type "list", data := .seq its.toArray n } := by
  obtain ⟨z, its, n, r, e⟩ := h.ok I.hok
  exact ⟨its, n, z, r, r.length, e⟩
end
section
variable {X : Cx}
def rCatR : R2 := fun x y H Q => ∃ l b xs zs, x = .ref l ∧ y = .ref b ∧ Rd H l (.lst xs) ∧ Rd H b (.lst zs) ∧ xs.length + zs.length ≤ sizeLine ∧ ∀ p, H p = none → Q (.ref p) (upd H p (.lst (xs ++ zs)))
theorem op_catR : OpR X (binaryOp .Add) rCatR := by
  intro pins s σ H x y v u Q I ra rb w
  obtain ⟨l, b, xs, zs, rfl, rfl, hA, hB, hz, q⟩ := w
  cases ra
  cases rb
  obtain ⟨ia, na, za, va, la, ea⟩ := I.lstR hA
  obtain ⟨ib, nb, zb, vb, lb, eb⟩ := I.lstR hB
  refine PySem.P.add_list ea eb ?_ (by rw [List.size_toArray, List.size_toArray]; omega)
  have glue : ia.toArray ++ ib.toArray = (ia ++ ib).toArray := by simp
  rw [glue]
  exact ⟨.ref _, _, I.lnew (t' := s.toks) (va.append vb) (by rw [List.length_append]; omega), rfl, q _ I.fresh⟩
def rRepR : R2 := fun x y H Q => ∃ l k xs, x = .ref l ∧ y = .int k ∧ Rd H l (.lst xs) ∧ -(2 ^ 63) ≤ k ∧ k < 2 ^ 63 ∧ xs.length * k.toNat ≤ sizeLine ∧
  ∀ p, H p = none → Q (.ref p) (upd H p (.lst (List.replicate k.toNat xs).flatten))
theorem op_repR : OpR X (binaryOp .Mult) rRepR := by
  intro pins s σ H x y v u Q I ra rb w
  obtain ⟨l, k, xs, rfl, rfl, hA, lo, up, hz, q⟩ := w
  cases ra
  obtain ⟨t, rfl⟩ := rb
  obtain ⟨ia, na, za, va, la, ea⟩ := I.lstR hA
  have fits : ia.toArray.size * k.toNat ≤ sizeLine := by rw [List.size_toArray, ← la]; exact hz
  have cap : ¬ ia.toArray.size * k.toNat > (2 ^ 63 - 1) / 8 := by
    have line : (sizeLine : Nat) ≤ (2 ^ 63 - 1) / 8 := by decide
    omega
  have fit : ¬ (!Builtin.List.listFitsIndex k) = true := by
    rw [fitsIndex_both lo up]
    simp
  have long : ¬ Builtin.List.listTooLong (ia.toArray.size * k.toNat) = true := by
    rw [notLongL fits]
    simp
  have made : List.foldl (fun x1 x2 => x1 ++ x2) #[] (List.replicate (if ia.toArray.isEmpty = true then 0 else k.toNat) ia.toArray) = (List.replicate k.toNat ia).flatten.toArray := by
    have fold : ∀ m : Nat, List.foldl (fun x1 x2 => x1 ++ x2) #[] (List.replicate m ia.toArray) = (List.replicate m ia).flatten.toArray := fun m => by
      have e := foldl_rep ia m []
      rwa [List.nil_append] at e
    rw [fold]
    cases ia with
    | nil => simp
    | cons a r' => rw [if_neg (by simp)]
  refine wpAny_binaryOp_repeat_ref (T := "list") (U := "int") (by decide) ⟨_, ea, rfl⟩ (fun s' => typeIs_int s' k t) noFill_list_mul F.fills_int_mul F.slot_int_rmul repeat_list F.slot_int_index.lookup (call_meets F.slot_int_rmul
    (typeIs_int s k t) F.entry_int_rmul (F.args_int_rmul_2 _ _) (int___rmul___int_list k t l ia.toArray na) ⟨ea, rfl, ⟨_, ea, rfl⟩, call_meets F.slot_list_mul ⟨_, ea, rfl⟩ F.entry_list_mul (F.args_list_mul_2 _ _)
      (AutoListH.list___mul___list_int_3 l ia.toArray na k t fit cap long) ⟨ea, ?_⟩⟩)
  rw [made]
  refine ⟨.ref _, _, I.lnew (t' := s.toks) (va.rep k.toNat) ?_, rfl, q _ I.fresh⟩
  rw [PyProof.Rows.lm_len_rep_flat, Nat.mul_comm]
  exact hz
def rExtR : V → List V → Hp → VK → Prop := fun x vs H Q => ∃ l b xs zs, x = .ref l ∧ vs = [.ref b] ∧ H l = some (.lst xs) ∧ Rd H b (.lst zs) ∧ xs.length + zs.length ≤ sizeLine ∧ Q .non (upd H l (.lst (xs ++ zs)))
theorem mt_extR : MtM X "list.extend" rExtR := by
  intro pins s σ H x vs v us Q I ra rv w
  obtain ⟨l, b, xs, zs, rfl, rfl, hA, hB, hz, q⟩ := w
  cases ra
  obtain ⟨u, rfl, ru⟩ := rv.one
  cases ru
  obtain ⟨ia, na, za, va, la, ea⟩ := I.lstR (.inl hA)
  obtain ⟨ib, nb, zb, vb, lb, eb⟩ := I.lstR hB
  have fits : ia.toArray.size + ib.toArray.size ≤ sizeLine := by rw [List.size_toArray, List.size_toArray]; omega
  have long : ¬ (!ia.toArray.isEmpty && Builtin.List.listTooLong (ia.toArray.size + ib.toArray.size)) = true := by
    rw [notLongL fits, Bool.and_false]
    simp
  refine call_meets F.slot_list_extend ⟨_, ea, rfl⟩ F.entry_list_extend (F.args_list_extend_2 _ _) (AutoSeq1.list_extend_list_list_0 l ia.toArray na b ib.toArray nb long (by rw [List.size_toArray]; omega) (by omega)) ⟨ea, eb, ?_⟩
  exact ⟨.non, _, I.lset (its' := ia ++ ib) hA ea (by simp) (va.append vb) (by rw [List.length_append]; omega), rfl, q⟩
end
end L2

end
section
set_option Elab.async false
set_option linter.all false
set_option maxRecDepth 100000
set_option maxHeartbeats 4000000
set_option exponentiation.threshold 5000
/-! MxP1: primitives: numbers, comparisons, sequences. -/
namespace Mx
open PySem PySem.Spec L2
variable [CA]

section
variable {F H : Hp} {x : V}
theorem Bp.non (h : Bp F H x .non) : x = .non := by rcases h with h | ⟨a, rfl, h⟩; cases h; rfl; exact h.2.elim
theorem Bp.bl {b : Bool} (h : Bp F H x (.bl b)) : x = .bl b := by rcases h with h | ⟨a, rfl, h⟩; cases h; rfl; exact h.2.elim
theorem Bp.int {i : Int} (h : Bp F H x (.int i)) : x = .int i := by rcases h with h | ⟨a, rfl, h⟩; cases h; rfl; exact h.2.elim
theorem Bp.str {s : Str} (h : Bp F H x (.str s)) : x = .str s := by rcases h with h | ⟨a, rfl, h⟩; cases h; rfl; exact h.2.elim
theorem Bp.tup {ds : List D} (h : Bp F H x (.tup ds)) : ∃ a xs, x = .ref a ∧ F a = some (.tup xs) ∧ RpL F xs ds := by
  rcases h with h | ⟨a, rfl, h⟩
  · cases h with
    | tup e r => exact ⟨_, _, rfl, e, r⟩
  · exact h.2.elim
theorem Bp.lst {ds : List D} (le : Le F H) (h : Bp F H x (.lst ds)) : ∃ a xs, x = .ref a ∧ Rd H a (.lst xs) ∧ RpL F xs ds := by
  rcases h with h | ⟨a, rfl, h⟩
  · cases h with
    | lst e r => exact ⟨_, _, rfl, le.rd e, r⟩
  · obtain ⟨_, xs, e, r⟩ := h
    exact ⟨a, xs, rfl, .inl e, r⟩
theorem sqL_rd {K : PySem.W.Frag} {a : Addr} {xs : List V} (h : Rd H a (.lst xs)) : SqL K H a xs := .inl h
theorem Bp.dic {ds : List (D × D)} (le : Le F H) (h : Bp F H x (.dic ds)) : ∃ a xs, x = .ref a ∧ H a = some (.dK xs) ∧ RpK F xs ds := by
  rcases h with h | ⟨a, rfl, h⟩
  · cases h with
    | dic e r => exact ⟨_, _, rfl, le _ _ e, r⟩
  · obtain ⟨_, xs, e, r⟩ := h
    exact ⟨a, xs, rfl, e, r⟩
end
theorem BpL.one {F H : Hp} {x : V} {ds : List D} (h : BpL F H [x] ds) : ∃ d, ds = [d] ∧ Bp F H x d := by
  cases h with
  | cons h t => cases t; exact ⟨_, rfl, h⟩
theorem BpL.two {F H : Hp} {x y : V} {ds : List D} (h : BpL F H [x, y] ds) : ∃ d e, ds = [d, e] ∧ Bp F H x d ∧ Bp F H y e := by
  cases h with
  | cons h t =>
    cases t with
    | cons h2 t => cases t; exact ⟨_, _, rfl, h, h2⟩
theorem BpL.three {F H : Hp} {x y z : V} {ds : List D} (h : BpL F H [x, y, z] ds) : ∃ d e f, ds = [d, e, f] ∧ Bp F H x d ∧ Bp F H y e ∧ Bp F H z f := by
  cases h with
  | cons h t =>
    cases t with
    | cons h2 t =>
      cases t with
      | cons h3 t => cases t; exact ⟨_, _, _, rfl, h, h2, h3⟩
theorem opr_imp {X : Cx} {f : Value → Value → Sem Value} {r r' : R2} (h : OpR X f r) (k : ∀ x y H Q, r' x y H Q → r x y H Q) : OpR X f r' := fun pins s σ H x y v u Q I rx ry w => h pins s σ H x y v u Q I rx ry (k x y H Q w)
theorem unr_imp {X : Cx} {f : Value → Sem Value} {r r' : V → Hp → VK → Prop} (h : UnR X f r) (k : ∀ x H Q, r' x H Q → r x H Q) : UnR X f r' := fun pins s σ H x v Q I rx w => h pins s σ H x v Q I rx (k x H Q w)
theorem callr_imp {X : Cx} {f : Value} {r r' : List V → Hp → VK → Prop} (h : CallR X f r) (k : ∀ xs H Q, r' xs H Q → r xs H Q) : CallR X f r' := fun pins s σ H xs us Q I rx w => h pins s σ H xs us Q I rx (k xs H Q w)
theorem ixr_imp {X : Cx} {r r' : R2} (h : IxR X r) (k : ∀ x y H Q, r' x y H Q → r x y H Q) : IxR X r' := by
  intro value slice pins s σ H x y v u Q I rx ry w hs
  exact h value slice pins s σ H x y v u Q I rx ry (k x y H Q w) hs
theorem slr_imp {X : Cx} {r r' : V → Option Int → Option Int → Hp → VK → Prop} (h : SlR X r) (k : ∀ x lo hi H Q, r' x lo hi H Q → r x lo hi H Q) : SlR X r' := by
  intro pins s σ H x v vl vu lo hi sl Q I rx hs pl pu w
  exact h pins s σ H x v vl vu lo hi sl Q I rx hs pl pu (k x lo hi H Q w)
/-- two arguments, told by their data -/
theorem rd2 {g : List D → Option Sl} {x y : V} {H : Hp} {Q : VK} (h : rD2 g x y H Q) : ∃ F d e s, Le F H ∧ Bp F H x d ∧ Bp F H y e ∧ g [d, e] = some s ∧ ∀ v F' H', New F H F' H' v s → Q v H' := by
  obtain ⟨F, ds, s, le, b, e, k⟩ := h
  obtain ⟨d, e', rfl, b1, b2⟩ := b.two
  exact ⟨F, d, e', s, le, b1, b2, e, k⟩
theorem rd1 {g : List D → Option Sl} {x : V} {H : Hp} {Q : VK} (h : rD g [x] H Q) : ∃ F d s, Le F H ∧ Bp F H x d ∧ g [d] = some s ∧ ∀ v F' H', New F H F' H' v s → Q v H' := by
  obtain ⟨F, ds, s, le, b, e, k⟩ := h
  obtain ⟨d, rfl, b1⟩ := b.one
  exact ⟨F, d, s, le, b1, e, k⟩
/-- an old value is given -/
theorem give {F H : Hp} {Q : VK} {d : D} {s : Sl} (k : ∀ v F' H', New F H F' H' v s → Q v H') (e : okShr d = some s) (le : Le F H) {v : V} (r : Rp F v d) : Q v H := by
  cases e
  exact k v F H (.old le r)
section
variable {X : Cx}
theorem lim_le {n : Nat} (h : n < LIM) : n ≤ sizeLine := by
  rw [sizeLine_eq]
  have : LIM = 1000000 := by unfold LIM; rfl
  omega
theorem rpl_nil {F : Hp} {xs : List V} {ds : List D} (h : RpL F xs ds) : xs = [] ↔ ds = [] := by
  cases h <;> simp

/-! ### operators -/
theorem od_add : OpR X (binaryOp .Add) (rD2 (pr .add)) := by
  refine opr_imp (op_add.or (op_add_str.or (op_catA.or op_catR))) fun x y H Q h => ?_
  obtain ⟨F, d, e, s, le, b1, b2, g, k⟩ := rd2 h
  cases d <;> cases e <;> first | (have g' : (none : Option Sl) = some s := g; cases g'; done) | skip
  · obtain rfl := b1.int; obtain rfl := b2.int
    exact .inl ⟨_, _, rfl, rfl, give k g le (.int _)⟩
  · obtain rfl := b1.str; obtain rfl := b2.str
    rename_i x y
    have g : (if x.length + y.length < LIM then okShr (.str (x ++ y)) else none) = some s := g
    by_cases hz : x.length + y.length < LIM
    · rw [if_pos hz] at g
      exact .inr (.inl ⟨_, _, rfl, rfl, lim_le hz, give k g le (.str _)⟩)
    · rw [if_neg hz] at g; cases g
  · rename_i xs ys
    have g : (if xs.length + ys.length < LIM then some (Sl.own (.lst (xs ++ ys))) else none) = some s := g
    by_cases hz : xs.length + ys.length < LIM
    · rw [if_pos hz] at g
      cases g
      obtain ⟨a, us, rfl, ha, ra⟩ := b1.lst le
      obtain ⟨b, ws, rfl, hb, rb⟩ := b2.lst le
      exact .inr (.inr (.inr ⟨a, b, us, ws, rfl, rfl, ha, hb, by rw [ra.len, rb.len]; exact lim_le hz, fun p hp => k _ _ _ (.ownL le hp (ra.app rb))⟩))
    · rw [if_neg hz] at g; cases g
  · rename_i xs ys
    have g : (if xs.length + ys.length < LIM then okShr (.tup (xs ++ ys)) else none) = some s := g
    by_cases hz : xs.length + ys.length < LIM
    · rw [if_pos hz] at g
      cases g
      obtain ⟨a, us, rfl, ha, ra⟩ := b1.tup
      obtain ⟨b, ws, rfl, hb, rb⟩ := b2.tup
      refine .inr (.inr (.inl ⟨a, b, us, ws, rfl, rfl, SqT.of (le _ _ ha), SqT.of (le _ _ hb), by rw [ra.len, rb.len]; exact lim_le hz, fun z => ?_, fun _ z => ?_, fun _ _ p hp => k _ _ _ (.tup le hp (ra.app rb))⟩))
      · have z2 := (rpl_nil ra).mp z
        subst z2
        exact k _ _ _ (.old le (.tup hb rb))
      · have z2 := (rpl_nil rb).mp z
        subst z2
        rw [List.append_nil] at k
        exact k _ _ _ (.old le (.tup ha ra))
    · rw [if_neg hz] at g; cases g
theorem od_sub : OpR X (binaryOp .Sub) (rD2 (pr .sub)) := by
  refine opr_imp op_sub fun x y H Q h => ?_
  obtain ⟨F, d, e, s, le, b1, b2, g, k⟩ := rd2 h
  cases d <;> cases e <;> first | (have g' : (none : Option Sl) = some s := g; cases g'; done) | skip
  obtain rfl := b1.int; obtain rfl := b2.int
  exact ⟨_, _, rfl, rfl, give k g le (.int _)⟩
theorem big_log {i : Int} (h : i.natAbs < BIG) : i.natAbs.log2 < 4000 := PySem.Flt.log2_lt_of (by decide) (by unfold BIG at h; exact h)
theorem od_mul : OpR X (binaryOp .Mult) (rD2 (pr .mul)) := by
  refine opr_imp (op_mulW.or (op_repR.or op_repT)) fun x y H Q h => ?_
  obtain ⟨F, d, e, s, le, b1, b2, g, k⟩ := rd2 h
  cases d <;> cases e <;> first | (have g' : (none : Option Sl) = some s := g; cases g'; done) | skip
  · obtain rfl := b1.int; obtain rfl := b2.int
    rename_i i j
    have g : (if i.natAbs < BIG ∧ j.natAbs < BIG then okShr (.int (i * j)) else none) = some s := g
    by_cases hz : i.natAbs < BIG ∧ j.natAbs < BIG
    · rw [if_pos hz] at g
      have h1 := big_log hz.1
      have h2 := big_log hz.2
      exact .inl ⟨i, j, rfl, rfl, (by show i.natAbs.log2 + j.natAbs.log2 < 1000000; omega), give k g le (.int _)⟩
    · rw [if_neg hz] at g; cases g
  · rename_i xs j
    have g : (if 0 ≤ j ∧ xs.length * j.toNat < LIM ∧ j < LIM then some (Sl.own (.lst (List.replicate j.toNat xs).flatten)) else none) = some s := g
    by_cases hz : 0 ≤ j ∧ xs.length * j.toNat < LIM ∧ j < LIM
    · rw [if_pos hz] at g
      cases g
      obtain ⟨a, us, rfl, ha, ra⟩ := b1.lst le
      obtain rfl := b2.int
      have hl : (LIM : Int) = 1000000 := by unfold LIM; rfl
      refine .inr (.inl ⟨a, j, us, rfl, rfl, ha, by omega, by omega, by rw [ra.len]; exact lim_le hz.2.1, fun p hp => k _ _ _ (.ownL le hp ?_)⟩)
      generalize j.toNat = n
      induction n with
      | zero => exact .nil
      | succ n ih => rw [List.replicate_succ, List.replicate_succ, List.flatten_cons, List.flatten_cons]; exact ra.app ih
    · rw [if_neg hz] at g; cases g
  · rename_i xs j
    have g : (if xs ≠ [] ∧ 2 ≤ j ∧ j ≤ 1000 ∧ xs.length ≤ 1000 then okShr (.tup (List.replicate j.toNat xs).flatten) else none) = some s := g
    by_cases hz : xs ≠ [] ∧ 2 ≤ j ∧ j ≤ 1000 ∧ xs.length ≤ 1000
    · rw [if_pos hz] at g
      cases g
      obtain ⟨a, us, rfl, ha, ra⟩ := b1.tup
      obtain rfl := b2.int
      refine .inr (.inr ⟨a, j, us, rfl, rfl, SqT.of (le _ _ ha), fun z => hz.1 ((rpl_nil ra).mp z), hz.2.1, hz.2.2.1, by rw [ra.len]; exact hz.2.2.2, fun p hp => k _ _ _ (.tup le hp ?_)⟩)
      generalize j.toNat = n
      induction n with
      | zero => exact .nil
      | succ n ih => rw [List.replicate_succ, List.replicate_succ, List.flatten_cons, List.flatten_cons]; exact ra.app ih
    · rw [if_neg hz] at g; cases g
theorem od_fdiv : OpR X (binaryOp .FloorDiv) (rD2 (pr .fdiv)) := by
  refine opr_imp op_fdivW fun x y H Q h => ?_
  obtain ⟨F, d, e, s, le, b1, b2, g, k⟩ := rd2 h
  cases d <;> cases e <;> first | (have g' : (none : Option Sl) = some s := g; cases g'; done) | skip
  obtain rfl := b1.int; obtain rfl := b2.int
  rename_i i j
  have g : (if 0 < j ∧ j.natAbs < BIG then okShr (.int (i / j)) else none) = some s := g
  by_cases hz : 0 < j ∧ j.natAbs < BIG
  · rw [if_pos hz] at g
    have h1 := big_log hz.2
    exact ⟨i, j, rfl, rfl, ⟨hz.1, by omega⟩, give k g le (.int _)⟩
  · rw [if_neg hz] at g; cases g
theorem od_mod : OpR X (binaryOp .Mod) (rD2 (pr .mod)) := by
  refine opr_imp op_mod fun x y H Q h => ?_
  obtain ⟨F, d, e, s, le, b1, b2, g, k⟩ := rd2 h
  cases d <;> cases e <;> first | (have g' : (none : Option Sl) = some s := g; cases g'; done) | skip
  obtain rfl := b1.int; obtain rfl := b2.int
  rename_i i j
  have g : (if 0 < j then okShr (.int (i % j)) else none) = some s := g
  by_cases hz : 0 < j
  · rw [if_pos hz] at g
    exact ⟨i, j, rfl, rfl, hz, give k g le (.int _)⟩
  · rw [if_neg hz] at g; cases g
theorem od_pow : OpR X (binaryOp .Pow) (rD2 (pr .pow)) := by
  refine opr_imp op_pow fun x y H Q h => ?_
  obtain ⟨F, d, e, s, le, b1, b2, g, k⟩ := rd2 h
  cases d <;> cases e <;> first | (have g' : (none : Option Sl) = some s := g; cases g'; done) | skip
  obtain rfl := b1.int; obtain rfl := b2.int
  rename_i i j
  have g : (if 0 ≤ j ∧ j < 100 ∧ i.natAbs < 2 ^ 64 then okShr (.int (i ^ j.toNat)) else none) = some s := g
  by_cases hz : 0 ≤ j ∧ j < 100 ∧ i.natAbs < 2 ^ 64
  · rw [if_pos hz] at g
    exact ⟨i, j, rfl, rfl, ⟨hz.1, by omega, hz.2.2⟩, give k g le (.int _)⟩
  · rw [if_neg hz] at g; cases g
theorem od_neg : UnR X (unaryOp .USub) (rD1 (pr .neg)) := by
  refine unr_imp un_neg fun x H Q h => ?_
  obtain ⟨F, d, s, le, b1, g, k⟩ := rd1 h
  cases d <;> first | (have g' : (none : Option Sl) = some s := g; cases g'; done) | skip
  obtain rfl := b1.int
  exact ⟨_, rfl, give k g le (.int _)⟩

/-! ### comparisons of numbers -/
theorem od_le : OpR X (compareOp .LtE) (rD2 (pr .le)) := by
  refine opr_imp op_le fun x y H Q h => ?_
  obtain ⟨F, d, e, s, le, b1, b2, g, k⟩ := rd2 h
  cases d <;> cases e <;> first | (have g' : (none : Option Sl) = some s := g; cases g'; done) | skip
  obtain rfl := b1.int; obtain rfl := b2.int
  exact ⟨_, _, rfl, rfl, give k g le (.bl _)⟩
theorem od_ge : OpR X (compareOp .GtE) (rD2 (pr .ge)) := by
  refine opr_imp op_ge fun x y H Q h => ?_
  obtain ⟨F, d, e, s, le, b1, b2, g, k⟩ := rd2 h
  cases d <;> cases e <;> first | (have g' : (none : Option Sl) = some s := g; cases g'; done) | skip
  obtain rfl := b1.int; obtain rfl := b2.int
  exact ⟨_, _, rfl, rfl, give k g le (.bl _)⟩
theorem od_is : OpR X (compareOp .Is) (rD2 (pr .isC)) := by
  have isb : OpR X (compareOp .Is) (fun x y H Q => ∃ b, y = .bl b ∧ Q (.bl (decide (x = .bl b))) H) := by
    intro pins s σ H x y v u Q I rx ry h
    obtain ⟨b, rfl, q⟩ := h
    cases ry
    have fin : wpAny (model X.prog X.w) X.A (compareOp .Is v (.bool b)) (EP X pins σ Q) X.xe s := by
      cases x with
      | non => cases rx; exact wpAny_pure ⟨.bl _, H, I, rfl, q⟩
      | bl c =>
        cases rx
        have e : decide (V.bl c = V.bl b) = decide (c = b) := by simp
        rw [e] at q
        exact op_isBl pins s σ H (.bl c) (.bl b) _ _ Q I rfl rfl ⟨c, b, rfl, rfl, q⟩
      | int i => obtain ⟨t, rfl⟩ := rx; exact wpAny_pure ⟨.bl _, H, I, rfl, q⟩
      | str i => obtain ⟨t, rfl⟩ := rx; exact wpAny_pure ⟨.bl _, H, I, rfl, q⟩
      | byt i => obtain ⟨t, rfl⟩ := rx; exact wpAny_pure ⟨.bl _, H, I, rfl, q⟩
      | flt i => obtain ⟨t, rfl⟩ := rx; exact wpAny_pure ⟨.bl _, H, I, rfl, q⟩
      | ref a => cases rx; exact wpAny_pure ⟨.bl _, H, I, rfl, q⟩
      | ty n => cases rx; exact wpAny_pure ⟨.bl _, H, I, rfl, q⟩
    exact fin
  refine opr_imp (op_isN.or isb) fun x y H Q h => ?_
  obtain ⟨F, d, e, s, le, b1, b2, g, k⟩ := rd2 h
  have g : (if scalEq e e then okShr (.bl (scalEq d e)) else none) = some s := g
  cases e <;> first | (have g' : (none : Option Sl) = some s := g; cases g'; done) | skip
  · obtain rfl := b2.non
    refine .inl ⟨rfl, ?_⟩
    have e1 : scalEq d .non = decide (x = .non) := by
      rcases b1 with b1 | ⟨a, rfl, b1⟩
      · cases b1 <;> simp [scalEq]
      · cases d <;> first | exact b1.2.elim | simp [scalEq]
    rw [← e1]
    exact give k g le (.bl _)
  · rename_i b g0
    obtain rfl := b2.bl
    refine .inr ⟨b, rfl, ?_⟩
    have e0 : scalEq (.bl b) (.bl b) = true := by simp [scalEq]
    rw [e0, if_pos rfl] at g
    have e1 : scalEq d (.bl b) = decide (x = .bl b) := by
      rcases b1 with b1 | ⟨a, rfl, b1⟩
      · cases b1 with
        | bl c =>
          by_cases z : c = b
          · subst z; simp [scalEq]
          · simp [scalEq, z]
        | _ => simp [scalEq]
      · cases d <;> first | exact b1.2.elim | simp [scalEq]
    rw [← e1]
    exact give k g le (.bl _)
end
end Mx

end
section
set_option Elab.async false
set_option linter.all false
set_option maxRecDepth 100000
set_option maxHeartbeats 4000000
set_option exponentiation.threshold 5000
/-! MxP2: primitives: == and < of data, in, len and the like. -/
namespace Mx
open PySem PySem.Spec L2
variable [CA]

/-! ### data as the library has it -/
mutual
def toPy : D → PyData
  | .non => .none
  | .bl b => .bool b
  | .int i => .int i
  | .str s => .str s
  | .lst xs => .list (toPyL xs)
  | .tup xs => .tuple (toPyL xs)
  | .dic _ => .none
  | .exc _ => .none
def toPyL : List D → List PyData
  | [] => []
  | x :: xs => toPy x :: toPyL xs
end
theorem toPyL_len : ∀ xs : List D, (toPyL xs).length = xs.length
  | [] => rfl
  | x :: xs => by simp [toPyL, toPyL_len xs]
theorem plain_cons {n : Nat} {x : D} {xs : List D} (h : (x :: xs).all (plainD n) = true) : plainD n x = true ∧ xs.all (plainD n) = true := by simpa using h
mutual
theorem eqv_eqb : ∀ (n m : Nat) (a b : D), plainD n a = true → plainD m b = true → PyData.eqv (toPy a) (toPy b) = eqb a b
  | 0, _, _, _, h, _ => by simp [plainD] at h
  | _ + 1, 0, _, _, _, h => by simp [plainD] at h
  | n + 1, m + 1, .lst xs, .lst ys, h, k => by
    show PyData.eqvAll (toPyL xs) (toPyL ys) = eqL xs ys
    exact eqv_eqL n m xs ys (by simpa [plainD] using h) (by simpa [plainD] using k)
  | n + 1, m + 1, .tup xs, .tup ys, h, k => by
    show PyData.eqvAll (toPyL xs) (toPyL ys) = eqL xs ys
    exact eqv_eqL n m xs ys (by simpa [plainD] using h) (by simpa [plainD] using k)
  | _ + 1, _ + 1, .dic _, _, h, _ => by simp [plainD] at h
  | _ + 1, _ + 1, _, .dic _, _, h => by simp [plainD] at h
  | _ + 1, _ + 1, .exc _, _, h, _ => by simp [plainD] at h
  | _ + 1, _ + 1, _, .exc _, _, h => by simp [plainD] at h
  | _ + 1, _ + 1, .non, b, _, _ => by cases b <;> simp_all [toPy, PyData.eqv, eqb, plainD]
  | _ + 1, _ + 1, .bl _, b, _, _ => by cases b <;> simp_all [toPy, PyData.eqv, eqb, plainD]
  | _ + 1, _ + 1, .int _, b, _, _ => by cases b <;> simp_all [toPy, PyData.eqv, eqb, plainD]
  | _ + 1, _ + 1, .str _, b, _, _ => by cases b <;> simp_all [toPy, PyData.eqv, eqb, plainD]
  | _ + 1, _ + 1, .lst _, .non, _, _ => by simp [toPy, PyData.eqv, eqb]
  | _ + 1, _ + 1, .lst _, .bl _, _, _ => by simp [toPy, PyData.eqv, eqb]
  | _ + 1, _ + 1, .lst _, .int _, _, _ => by simp [toPy, PyData.eqv, eqb]
  | _ + 1, _ + 1, .lst _, .str _, _, _ => by simp [toPy, PyData.eqv, eqb]
  | _ + 1, _ + 1, .lst _, .tup _, _, _ => by simp [toPy, PyData.eqv, eqb]
  | _ + 1, _ + 1, .tup _, .non, _, _ => by simp [toPy, PyData.eqv, eqb]
  | _ + 1, _ + 1, .tup _, .bl _, _, _ => by simp [toPy, PyData.eqv, eqb]
  | _ + 1, _ + 1, .tup _, .int _, _, _ => by simp [toPy, PyData.eqv, eqb]
  | _ + 1, _ + 1, .tup _, .str _, _, _ => by simp [toPy, PyData.eqv, eqb]
  | _ + 1, _ + 1, .tup _, .lst _, _, _ => by simp [toPy, PyData.eqv, eqb]
theorem eqv_eqL : ∀ (n m : Nat) (xs ys : List D), xs.all (plainD n) = true → ys.all (plainD m) = true → PyData.eqvAll (toPyL xs) (toPyL ys) = eqL xs ys
  | _, _, [], [], _, _ => rfl
  | _, _, [], _ :: _, _, _ => rfl
  | _, _, _ :: _, [], _, _ => rfl
  | n, m, x :: xs, y :: ys, h, k => by
    obtain ⟨h1, h2⟩ := plain_cons h
    obtain ⟨k1, k2⟩ := plain_cons k
    show (PyData.eqv (toPy x) (toPy y) && PyData.eqvAll (toPyL xs) (toPyL ys)) = (eqb x y && eqL xs ys)
    rw [eqv_eqb n m x y h1 k1, eqv_eqL n m xs ys h2 k2]
end
mutual
theorem plain_py : ∀ (n : Nat) (a : D), plainD n a = true → (toPy a).plain = true ∧ (toPy a).depth ≤ n
  | 0, _, h => by simp [plainD] at h
  | n + 1, .lst xs, h => by
    obtain ⟨a, b⟩ := plain_pyL n xs (by simpa [plainD] using h)
    exact ⟨a, by show PyData.depthAll (toPyL xs) + 1 ≤ n + 1; omega⟩
  | n + 1, .tup xs, h => by
    obtain ⟨a, b⟩ := plain_pyL n xs (by simpa [plainD] using h)
    exact ⟨a, by show PyData.depthAll (toPyL xs) + 1 ≤ n + 1; omega⟩
  | n + 1, .dic _, h => by simp [plainD] at h
  | n + 1, .exc _, h => by simp [plainD] at h
  | n + 1, .non, _ => ⟨rfl, by simp [toPy, PyData.depth]⟩
  | n + 1, .bl _, _ => ⟨rfl, by simp [toPy, PyData.depth]⟩
  | n + 1, .int _, _ => ⟨rfl, by simp [toPy, PyData.depth]⟩
  | n + 1, .str _, _ => ⟨rfl, by simp [toPy, PyData.depth]⟩
theorem plain_pyL : ∀ (n : Nat) (xs : List D), xs.all (plainD n) = true → PyData.plainAll (toPyL xs) = true ∧ PyData.depthAll (toPyL xs) ≤ n
  | n, [], _ => ⟨rfl, Nat.zero_le _⟩
  | n, x :: xs, h => by
    obtain ⟨h1, h2⟩ := plain_cons h
    obtain ⟨a1, b1⟩ := plain_py n x h1
    obtain ⟨a2, b2⟩ := plain_pyL n xs h2
    refine ⟨?_, ?_⟩
    · show ((toPy x).plain && PyData.plainAll (toPyL xs)) = true
      rw [a1, a2]; rfl
    · show max (toPy x).depth (PyData.depthAll (toPyL xs)) ≤ n
      omega
end
mutual
theorem rp_dp {K : PySem.W.Frag} {F H : Hp} (le : Le F H) : ∀ (n : Nat) (d : D) (v : V), plainD n d = true → Rp F v d → Dp K H v (toPy d)
  | 0, _, _, h, _ => by simp [plainD] at h
  | n + 1, .lst xs, _, h, r => by
    cases r with
    | lst e r => exact .lst (.inl (le.rd e)) (rp_dpL le n xs _ (by simpa [plainD] using h) r)
  | n + 1, .tup xs, _, h, r => by
    cases r with
    | tup e r => exact .tup (SqT.of (le _ _ e)) (rp_dpL le n xs _ (by simpa [plainD] using h) r)
  | n + 1, .dic _, _, h, _ => by simp [plainD] at h
  | n + 1, .exc _, _, h, _ => by simp [plainD] at h
  | n + 1, .non, _, _, r => by cases r; exact .non
  | n + 1, .bl _, _, _, r => by cases r; exact .bl _
  | n + 1, .int _, _, _, r => by cases r; exact .int _
  | n + 1, .str _, _, _, r => by cases r; exact .str _
theorem rp_dpL {K : PySem.W.Frag} {F H : Hp} (le : Le F H) : ∀ (n : Nat) (ds : List D) (vs : List V), ds.all (plainD n) = true → RpL F vs ds → DpAll K H vs (toPyL ds)
  | n, [], _, _, r => by cases r; exact .nil
  | n, d :: ds, _, h, r => by
    cases r with
    | cons r1 r2 =>
      obtain ⟨h1, h2⟩ := plain_cons h
      exact .cons (rp_dp le n d _ h1 r1) (rp_dpL le n ds _ h2 r2)
end
theorem bp_dp {K : PySem.W.Frag} {F H : Hp} (le : Le F H) {n : Nat} {d : D} {v : V} (h : plainD n d = true) (b : Bp F H v d) : Dp K H v (toPy d) := by
  rcases b with b | ⟨a, rfl, b⟩
  · exact rp_dp le n d v h b
  · cases d with
    | lst ds =>
      obtain ⟨_, xs, e, r⟩ := b
      cases n with
      | zero => simp [plainD] at h
      | succ n => exact .lst (SqL.of e) (rp_dpL le n ds xs (by simpa [plainD] using h) r)
    | dic _ => cases n <;> simp [plainD] at h
    | _ => exact b.2.elim

section
variable {X : Cx} {pins : List (Addr × Obj)} {σ : St} {H F : Hp} {s : Shared}
theorem reads_of (I : Inv X pins σ H s) (le : Le F H) {n : Nat} {d : D} {v : V} {u : Value} (h : plainD n d = true) (b : Bp F H v d) (r : RelV v u) : ∃ as, Reads s.heap u (toPy d) as :=
  Dp.reads I (toPy d) v u (bp_dp le h b) r
theorem rc_eq (I : Inv X pins σ H s) (hu : X.A.units + 64 < cLine) (le : Le F H) {n m : Nat} (hn : n ≤ 60) {d e : D} {x y : V} {u v : Value} (h : plainD n d = true) (k : plainD m e = true) (bx : Bp F H x d) (by_ : Bp F H y e) (rx : RelV x u) (ry : RelV y v) :
    PySem.SeqAt.RcAt X.A s u v (eqb d e) := by
  obtain ⟨as, r1⟩ := reads_of I le h bx rx
  obtain ⟨bs, r2⟩ := reads_of I le k by_ ry
  obtain ⟨p1, q1⟩ := plain_py n d h
  obtain ⟨p2, q2⟩ := plain_py m e k
  rw [← eqv_eqb n m d e h k]
  exact PySem.SeqAt.rcAt_plain r1 r2 p1 p2 (by omega)
theorem eq_at {A : Around} (I : Inv X pins σ H s) (le : Le F H) {n m : Nat} (hu : A.units + n < cLine) {d e : D} {x y : V} {u v : Value} (h : plainD n d = true) (k : plainD m e = true) (bx : Bp F H x d) (by_ : Bp F H y e) (rx : RelV x u) (ry : RelV y v) :
    PySem.SeqAt.EqAt A s u v (eqb d e) := by
  obtain ⟨as, r1⟩ := reads_of I le h bx rx
  obtain ⟨bs, r2⟩ := reads_of I le k by_ ry
  obtain ⟨p1, q1⟩ := plain_py n d h
  obtain ⟨p2, q2⟩ := plain_py m e k
  rw [← eqv_eqb n m d e h k]
  exact PySem.SeqAt.eqAt_plain _ _ A s u v as bs r1 r2 p1 p2 (by omega)
end
section
variable {X : Cx}
theorem od_eq (hu : X.A.units + 64 < cLine) : OpR X (compareOp .Eq) (rD2 (pr .eq)) := by
  intro pins s σ H x y v u Q I rx ry h
  obtain ⟨F, d, e, z, le, b1, b2, g, k⟩ := rd2 h
  have g : (if plainD 60 d && plainD 60 e then okShr (.bl (eqb d e)) else none) = some z := g
  by_cases hp : (plainD 60 d && plainD 60 e) = true
  · rw [if_pos hp] at g
    obtain ⟨h1, h2⟩ := Bool.and_eq_true_iff.mp hp
    have c := rc_eq I hu le (by omega) h1 h2 b1 b2 rx ry
    exact c X.prog X.w _ _ ⟨.bl _, H, I, rfl, give k g le (.bl _)⟩
  · rw [if_neg hp] at g; cases g
theorem od_ne (hu : X.A.units + 64 < cLine) : OpR X (compareOp .NotEq) (rD2 (pr .ne)) := by
  intro pins s σ H x y v u Q I rx ry h
  obtain ⟨F, d, e, z, le, b1, b2, g, k⟩ := rd2 h
  have g : (if plainD 60 d && plainD 60 e then okShr (.bl (!eqb d e)) else none) = some z := g
  by_cases hp : (plainD 60 d && plainD 60 e) = true
  · rw [if_pos hp] at g
    obtain ⟨h1, h2⟩ := Bool.and_eq_true_iff.mp hp
    obtain ⟨as, r1⟩ := reads_of I le h1 b1 rx
    obtain ⟨bs, r2⟩ := reads_of I le h2 b2 ry
    obtain ⟨p1, q1⟩ := plain_py 60 d h1
    obtain ⟨p2, q2⟩ := plain_py 60 e h2
    rw [← eqv_eqb 60 60 d e h1 h2] at g
    exact PySem.SeqAt.ne_plain r1 r2 p1 p2 (by omega) ⟨.bl _, H, I, rfl, give k g le (.bl _)⟩
  · rw [if_neg hp] at g; cases g

theorem any_py {n m : Nat} {d : D} (hd : plainD m d = true) : ∀ {xs : List D}, xs.all (plainD n) = true → (toPyL xs).any (fun z => PyData.eqv z (toPy d)) = xs.any fun z => eqb z d
  | [], _ => rfl
  | x :: xs, h => by
    obtain ⟨h1, h2⟩ := plain_cons h
    show (PyData.eqv (toPy x) (toPy d) || (toPyL xs).any _) = (eqb x d || xs.any _)
    rw [eqv_eqb n m x d h1 hd, any_py hd h2]
theorem od_in (hu : X.A.units + 65 < cLine) : OpR X (compareOp .In) (rD2 (pr .inn)) := by
  have seqs : OpR X (compareOp .In) (fun x y H Q => ∃ F d xs z, Le F H ∧ Bp F H x d ∧ (Bp F H y (.lst xs) ∨ Bp F H y (.tup xs)) ∧ plainD 60 d = true ∧ xs.all (plainD 60) = true ∧ okShr (.bl (xs.any fun y => eqb y d)) = some z ∧ ∀ v F' H', New F H F' H' v z → Q v H') := by
    intro pins s σ H x y v u Q I rx ry h
    obtain ⟨F, d, xs, z, le, b1, b2, h1, h2, g, k⟩ := h
    obtain ⟨as, r1⟩ := reads_of I le h1 b1 rx
    obtain ⟨p1, q1⟩ := plain_py 60 d h1
    obtain ⟨p2, q2⟩ := plain_pyL 60 xs h2
    rw [← any_py h1 h2] at g
    rcases b2 with b2 | b2
    · obtain ⟨bs, r2⟩ := reads_of I le (n := 61) (by simpa [plainD] using h2) b2 ry
      exact PySem.SeqAt.in_list_data r2 r1 p2 p1 (by omega) ⟨.bl _, H, I, rfl, give k g le (.bl _)⟩
    · obtain ⟨bs, r2⟩ := reads_of I le (n := 61) (by simpa [plainD] using h2) b2 ry
      exact PySem.SeqAt.in_tuple_data r2 r1 p2 p1 (by omega) ⟨.bl _, H, I, rfl, give k g le (.bl _)⟩
  refine opr_imp (op_in_sign.or seqs) fun x y H Q h => ?_
  obtain ⟨F, d, e, z, le, b1, b2, g, k⟩ := rd2 h
  cases e with
  | lst xs =>
    have g : (if plainD 60 d && xs.all (plainD 60) then okShr (.bl (xs.any fun y => eqb y d)) else none) = some z := by cases d <;> exact g
    by_cases hp : (plainD 60 d && xs.all (plainD 60)) = true
    · rw [if_pos hp] at g
      obtain ⟨h1, h2⟩ := Bool.and_eq_true_iff.mp hp
      exact .inr ⟨F, d, xs, z, le, b1, .inl b2, h1, h2, g, k⟩
    · rw [if_neg hp] at g; cases g
  | tup xs =>
    have g : (if plainD 60 d && xs.all (plainD 60) then okShr (.bl (xs.any fun y => eqb y d)) else none) = some z := by cases d <;> exact g
    by_cases hp : (plainD 60 d && xs.all (plainD 60)) = true
    · rw [if_pos hp] at g
      obtain ⟨h1, h2⟩ := Bool.and_eq_true_iff.mp hp
      exact .inr ⟨F, d, xs, z, le, b1, .inr b2, h1, h2, g, k⟩
    · rw [if_neg hp] at g; cases g
  | str t =>
    cases d <;> first | (have g' : (none : Option Sl) = some z := g; cases g'; done) | skip
    rename_i c
    obtain rfl := b1.str
    obtain rfl := b2.str
    have g : (match c.cps.toList with | [c] => okShr (.bl (t.cps.toList.contains c)) | _ => none) = some z := g
    split at g
    · rename_i n hn
      have ec : c = ⟨#[n]⟩ := by
        obtain ⟨cs⟩ := c
        have : cs = [n].toArray := by rw [← hn]
        rw [this]
      refine .inl ⟨n, t, by rw [ec], rfl, ?_⟩
      have e1 : t.cps.toList.contains n = decide (n ∈ t.cps.toList) := by simp
      rw [e1] at g
      exact give k g le (.bl _)
    · cases g
  | _ => cases d <;> (have g' : (none : Option Sl) = some z := g; cases g')
theorem od_nin (hu : X.A.units + 65 < cLine) : OpR X (compareOp .NotIn) (rD2 (pr .nin)) := by
  have seqs : OpR X (compareOp .NotIn) (fun x y H Q => ∃ F d xs z, Le F H ∧ Bp F H x d ∧ (Bp F H y (.lst xs) ∨ Bp F H y (.tup xs)) ∧ plainD 60 d = true ∧ xs.all (plainD 60) = true ∧ okShr (.bl (!xs.any fun y => eqb y d)) = some z ∧ ∀ v F' H', New F H F' H' v z → Q v H') := by
    intro pins s σ H x y v u Q I rx ry h
    obtain ⟨F, d, xs, z, le, b1, b2, h1, h2, g, k⟩ := h
    obtain ⟨as, r1⟩ := reads_of I le h1 b1 rx
    obtain ⟨p1, q1⟩ := plain_py 60 d h1
    obtain ⟨p2, q2⟩ := plain_pyL 60 xs h2
    rw [← any_py h1 h2] at g
    rcases b2 with b2 | b2
    · obtain ⟨bs, r2⟩ := reads_of I le (n := 61) (by simpa [plainD] using h2) b2 ry
      exact PySem.SeqAt.notIn_list_data r2 r1 p2 p1 (by omega) ⟨.bl _, H, I, rfl, give k g le (.bl _)⟩
    · obtain ⟨bs, r2⟩ := reads_of I le (n := 61) (by simpa [plainD] using h2) b2 ry
      exact PySem.SeqAt.notIn_tuple_data r2 r1 p2 p1 (by omega) ⟨.bl _, H, I, rfl, give k g le (.bl _)⟩
  refine opr_imp seqs fun x y H Q h => ?_
  obtain ⟨F, d, e, z, le, b1, b2, g, k⟩ := rd2 h
  cases e with
  | lst xs =>
    have g : (if plainD 60 d && xs.all (plainD 60) then okShr (.bl (!xs.any fun y => eqb y d)) else none) = some z := by cases d <;> exact g
    by_cases hp : (plainD 60 d && xs.all (plainD 60)) = true
    · rw [if_pos hp] at g
      obtain ⟨h1, h2⟩ := Bool.and_eq_true_iff.mp hp
      exact ⟨F, d, xs, z, le, b1, .inl b2, h1, h2, g, k⟩
    · rw [if_neg hp] at g; cases g
  | tup xs =>
    have g : (if plainD 60 d && xs.all (plainD 60) then okShr (.bl (!xs.any fun y => eqb y d)) else none) = some z := by cases d <;> exact g
    by_cases hp : (plainD 60 d && xs.all (plainD 60)) = true
    · rw [if_pos hp] at g
      obtain ⟨h1, h2⟩ := Bool.and_eq_true_iff.mp hp
      exact ⟨F, d, xs, z, le, b1, .inr b2, h1, h2, g, k⟩
    · rw [if_neg hp] at g; cases g
  | _ => cases d <;> (have g' : (none : Option Sl) = some z := g; cases g')
end
end Mx

end
section
set_option Elab.async false
set_option linter.all false
set_option maxRecDepth 100000
set_option maxHeartbeats 4000000
set_option exponentiation.threshold 5000
/-! MxP3: primitives: len and the like, places, slices, isinstance. -/
namespace Mx
open PySem PySem.Spec L2
variable [CA]
section
variable {X : Cx}
theorem Bp.seqs {F H : Hp} {x : V} {K : PySem.W.Frag} {xs : List D} (le : Le F H) (h : Bp F H x (.lst xs) ∨ Bp F H x (.tup xs)) : ∃ a us, x = .ref a ∧ (SqL K H a us ∨ SqT K H a us) ∧ RpL F us xs := by
  rcases h with h | h
  · obtain ⟨a, us, rfl, e, r⟩ := h.lst le
    exact ⟨a, us, rfl, .inl (.inl e), r⟩
  · obtain ⟨a, us, rfl, e, r⟩ := h.tup
    exact ⟨a, us, rfl, .inr (.of (le _ _ e)), r⟩
theorem od_isnt : OpR X (compareOp .IsNot) (rD2 (pr .isntC)) := by
  refine opr_imp (op_notN.or op_notBl) fun x y H Q h => ?_
  obtain ⟨F, d, e, s, le, b1, b2, g, k⟩ := rd2 h
  cases e <;> first | (cases d <;> (have g' : (none : Option Sl) = some s := g; cases g'); done) | skip
  · obtain rfl := b2.non
    have g : okShr (.bl (!scalEq d .non)) = some s := (by cases d <;> exact g)
    refine .inl ⟨rfl, ?_⟩
    have e1 : scalEq d .non = decide (x = .non) := by
      rcases b1 with b1 | ⟨a, rfl, b1⟩
      · cases b1 <;> simp [scalEq]
      · cases d <;> first | exact b1.2.elim | simp [scalEq]
    rw [← e1]
    exact give k g le (.bl _)
  · rename_i b
    obtain rfl := b2.bl
    cases d <;> first | (have g' : (none : Option Sl) = some s := g; cases g'; done) | skip
    rename_i a
    obtain rfl := b1.bl
    refine .inr ⟨a, b, rfl, rfl, ?_⟩
    have g : okShr (.bl (!(a == b))) = some s := g
    have e1 : decide (a = b) = (a == b) := by cases a <;> cases b <;> rfl
    rw [e1]
    exact give k g le (.bl _)
theorem ob_len : CallR X (.builtin "len") (rD (pr .len)) := by
  have h1 : CallR X (.builtin "len") (fun xs H Q => (∃ p ys, xs = [.ref p] ∧ (SqL X.K H p ys ∨ SqT X.K H p ys) ∧ Q (.int ys.length) H) ∨ (∃ a kvs, xs = [V.ref a] ∧ H a = some (.dK kvs) ∧ Q (.int kvs.length) H) ∨ ∃ z, xs = [.str z] ∧ z.length ≤ sizeLine ∧ Q (.int z.length) H) := by
    intro pins s σ H xs us Q I r h
    rcases h with h | h | h
    · exact call_len_seq pins s σ H xs us Q I r h
    · exact call_lenD pins s σ H xs us Q I r h
    · exact call_len_str pins s σ H xs us Q I r h
  refine callr_imp h1 fun xs H Q h => ?_
  obtain ⟨F, ds, s, le, b, g, k⟩ := h
  cases b with
  | nil => cases g
  | cons b1 bt =>
    cases bt with
    | cons b2 _ => rename_i d _ _ _ _ _; cases d <;> (have g' : (none : Option Sl) = some s := g; cases g')
    | nil =>
      rename_i d
      cases d <;> first | (have g' : (none : Option Sl) = some s := g; cases g'; done) | skip
      · rename_i z
        obtain rfl := b1.str
        have g : (if z.length < LIM then okShr (.int z.length) else none) = some s := g
        by_cases hz : z.length < LIM
        · rw [if_pos hz] at g
          exact .inr (.inr ⟨z, rfl, lim_le hz, give k g le (.int _)⟩)
        · rw [if_neg hz] at g; cases g
      · obtain ⟨a, us, rfl, hs, r⟩ := Bp.seqs (K := X.K) le (.inl b1)
        have g : okShr (.int _) = some s := g
        rw [← r.len] at g
        exact .inl ⟨a, us, rfl, hs, give k g le (.int _)⟩
      · obtain ⟨a, us, rfl, hs, r⟩ := Bp.seqs (K := X.K) le (.inr b1)
        have g : okShr (.int _) = some s := g
        rw [← r.len] at g
        exact .inl ⟨a, us, rfl, hs, give k g le (.int _)⟩
      · obtain ⟨a, us, rfl, hs, r⟩ := b1.dic le
        have g : okShr (.int _) = some s := g
        rw [← r.len] at g
        exact .inr (.inl ⟨a, us, rfl, hs, give k g le (.int _)⟩)
theorem rd_one {g : List D → Option Sl} {xs : List V} {H : Hp} {Q : VK} (h : rD g xs H Q) (hn : ∀ ds s, g ds = some s → ds.length = 1) : ∃ x, xs = [x] ∧ ∃ F d s, Le F H ∧ Bp F H x d ∧ g [d] = some s ∧ ∀ v F' H', New F H F' H' v s → Q v H' := by
  obtain ⟨F, ds, s, le, b, g', k⟩ := h
  have := hn ds s g'
  cases b with
  | nil => simp at this
  | cons b1 bt =>
    cases bt with
    | cons _ _ => simp at this
    | nil => exact ⟨_, rfl, F, _, s, le, b1, g', k⟩
theorem rd_two {g : List D → Option Sl} {xs : List V} {H : Hp} {Q : VK} (h : rD g xs H Q) (hn : ∀ ds s, g ds = some s → ds.length = 2) : ∃ x y, xs = [x, y] ∧ ∃ F d e s, Le F H ∧ Bp F H x d ∧ Bp F H y e ∧ g [d, e] = some s ∧ ∀ v F' H', New F H F' H' v s → Q v H' := by
  obtain ⟨F, ds, s, le, b, g', k⟩ := h
  have := hn ds s g'
  cases b with
  | nil => simp at this
  | cons b1 bt =>
    cases bt with
    | nil => simp at this
    | cons b2 bt =>
      cases bt with
      | cons _ _ => simp at this
      | nil => exact ⟨_, _, rfl, F, _, _, s, le, b1, b2, g', k⟩
theorem ob_abs : CallR X (.builtin "abs") (rD (pr .abs)) := by
  refine callr_imp call_abs fun xs H Q h => ?_
  obtain ⟨x, rfl, F, d, s, le, b, g, k⟩ := rd_one h (by (intro ds s h; rcases ds with _ | ⟨d, _ | ⟨e, r⟩⟩ <;> first | rfl | (have h' : (none : Option Sl) = some s := h; cases h'; done) | (cases d <;> (have h' : (none : Option Sl) = some s := h; cases h'; done)) | (cases d <;> rename_i xs <;> first | (have h' : (none : Option Sl) = some s := h; cases h'; done) | (cases xs <;> (have h' : (none : Option Sl) = some s := h; cases h'; done)))))
  cases d <;> first | (have g' : (none : Option Sl) = some s := g; cases g'; done) | skip
  rename_i i
  obtain rfl := b.int
  have g : okShr (.int i.natAbs) = some s := g
  have e : ((i.natAbs : Nat) : Int) = if i < 0 then -i else i := by omega
  rw [e] at g
  exact ⟨i, rfl, give k g le (.int _)⟩
theorem bools_rp {F : Hp} : ∀ {xs : List D} {us : List V} {bs : List Bool}, bools xs = some bs → RpL F us xs → us = bs.map V.bl
  | [], _, _, h, r => by cases r; cases h; rfl
  | x :: xs, _, bs, h, r => by
    cases r with
    | cons r1 rr =>
      cases x <;> first | (have h' : (none : Option (List Bool)) = some bs := h; cases h'; done) | skip
      rename_i b
      have h : (bools xs).map (b :: ·) = some bs := h
      cases e : bools xs with
      | none => rw [e] at h; cases h
      | some bs' =>
        rw [e] at h; cases h
        cases r1
        rw [bools_rp e rr]; rfl
theorem intsR_rp {F : Hp} : ∀ {xs : List D} {us : List V} {bs : List Int}, «intsD» xs = some bs → RpL F us xs → us = bs.map V.int
  | [], _, _, h, r => by cases r; cases h; rfl
  | x :: xs, _, bs, h, r => by
    cases r with
    | cons r1 rr =>
      cases x <;> first | (have h' : (none : Option (List Int)) = some bs := h; cases h'; done) | skip
      rename_i b
      have h : («intsD» xs).map (b :: ·) = some bs := h
      cases e : «intsD» xs with
      | none => rw [e] at h; cases h
      | some bs' =>
        rw [e] at h; cases h
        cases r1
        rw [intsR_rp e rr]; rfl
theorem ob_all (hc : X.calm = true) : CallR X (.builtin "all") (rD (pr .all)) := by
  refine callr_imp (cr_all hc) fun xs H Q h => ?_
  obtain ⟨x, rfl, F, d, s, le, b, g, k⟩ := rd_one h (by (intro ds s h; rcases ds with _ | ⟨d, _ | ⟨e, r⟩⟩ <;> first | rfl | (have h' : (none : Option Sl) = some s := h; cases h'; done) | (cases d <;> (have h' : (none : Option Sl) = some s := h; cases h'; done)) | (cases d <;> rename_i xs <;> first | (have h' : (none : Option Sl) = some s := h; cases h'; done) | (cases xs <;> (have h' : (none : Option Sl) = some s := h; cases h'; done)))))
  cases d <;> first | (have g' : (none : Option Sl) = some s := g; cases g'; done) | skip
  rename_i ds
  obtain ⟨a, us, rfl, e, r⟩ := b.lst le
  have g : ((bools ds).bind fun bs => okShr (.bl (bs.all id))) = some s := g
  cases eb : bools ds with
  | none => rw [eb] at g; cases g
  | some bs =>
    rw [eb] at g
    rw [bools_rp eb r] at e
    exact ⟨a, bs, rfl, .inl e, give k g le (.bl _)⟩
theorem ob_any (hc : X.calm = true) : CallR X (.builtin "any") (rD (pr .any)) := by
  refine callr_imp (cr_any hc) fun xs H Q h => ?_
  obtain ⟨x, rfl, F, d, s, le, b, g, k⟩ := rd_one h (by (intro ds s h; rcases ds with _ | ⟨d, _ | ⟨e, r⟩⟩ <;> first | rfl | (have h' : (none : Option Sl) = some s := h; cases h'; done) | (cases d <;> (have h' : (none : Option Sl) = some s := h; cases h'; done)) | (cases d <;> rename_i xs <;> first | (have h' : (none : Option Sl) = some s := h; cases h'; done) | (cases xs <;> (have h' : (none : Option Sl) = some s := h; cases h'; done)))))
  cases d <;> first | (have g' : (none : Option Sl) = some s := g; cases g'; done) | skip
  rename_i ds
  obtain ⟨a, us, rfl, e, r⟩ := b.lst le
  have g : ((bools ds).bind fun bs => okShr (.bl (bs.any id))) = some s := g
  cases eb : bools ds with
  | none => rw [eb] at g; cases g
  | some bs =>
    rw [eb] at g
    rw [bools_rp eb r] at e
    exact ⟨a, bs, rfl, .inl e, give k g le (.bl _)⟩
theorem ob_sum (hc : X.calm = true) : CallR X (.builtin "sum") (rD (pr .sum)) := by
  refine callr_imp (cr_sum hc) fun xs H Q h => ?_
  obtain ⟨x, rfl, F, d, s, le, b, g, k⟩ := rd_one h (by (intro ds s h; rcases ds with _ | ⟨d, _ | ⟨e, r⟩⟩ <;> first | rfl | (have h' : (none : Option Sl) = some s := h; cases h'; done) | (cases d <;> (have h' : (none : Option Sl) = some s := h; cases h'; done)) | (cases d <;> rename_i xs <;> first | (have h' : (none : Option Sl) = some s := h; cases h'; done) | (cases xs <;> (have h' : (none : Option Sl) = some s := h; cases h'; done)))))
  cases d <;> first | (have g' : (none : Option Sl) = some s := g; cases g'; done) | skip
  rename_i ds
  obtain ⟨a, us, rfl, e, r⟩ := b.lst le
  have g : ((«intsD» ds).bind fun bs => okShr (.int bs.sum)) = some s := g
  cases eb : «intsD» ds with
  | none => rw [eb] at g; cases g
  | some bs =>
    rw [eb] at g
    rw [intsR_rp eb r] at e
    exact ⟨a, bs, rfl, .inl e, give k g le (.int _)⟩
theorem ob_list : CallR X (.type "list") (rD (pr .list)) := by
  refine callr_imp call_list_of fun xs H Q h => ?_
  obtain ⟨x, rfl, F, d, s, le, b, g, k⟩ := rd_one h (by (intro ds s h; rcases ds with _ | ⟨d, _ | ⟨e, r⟩⟩ <;> first | rfl | (have h' : (none : Option Sl) = some s := h; cases h'; done) | (cases d <;> (have h' : (none : Option Sl) = some s := h; cases h'; done)) | (cases d <;> rename_i xs <;> first | (have h' : (none : Option Sl) = some s := h; cases h'; done) | (cases xs <;> (have h' : (none : Option Sl) = some s := h; cases h'; done)))))
  cases d <;> first | (have g' : (none : Option Sl) = some s := g; cases g'; done) | skip
  · cases g
    obtain ⟨a, us, rfl, hs, r⟩ := Bp.seqs (K := X.K) le (.inl b)
    exact ⟨a, us, rfl, hs, fun p hp => k _ _ _ (.ownL le hp r)⟩
  · cases g
    obtain ⟨a, us, rfl, hs, r⟩ := Bp.seqs (K := X.K) le (.inr b)
    exact ⟨a, us, rfl, hs, fun p hp => k _ _ _ (.ownL le hp r)⟩
theorem ob_tuple : CallR X (.type "tuple") (rD (pr .tuple)) := by
  refine callr_imp call_tuple_of fun xs H Q h => ?_
  obtain ⟨x, rfl, F, d, s, le, b, g, k⟩ := rd_one h (by (intro ds s h; rcases ds with _ | ⟨d, _ | ⟨e, r⟩⟩ <;> first | rfl | (have h' : (none : Option Sl) = some s := h; cases h'; done) | (cases d <;> (have h' : (none : Option Sl) = some s := h; cases h'; done)) | (cases d <;> rename_i xs <;> first | (have h' : (none : Option Sl) = some s := h; cases h'; done) | (cases xs <;> (have h' : (none : Option Sl) = some s := h; cases h'; done)))))
  cases d <;> first | (have g' : (none : Option Sl) = some s := g; cases g'; done) | skip
  · cases g
    obtain ⟨a, us, rfl, e, r⟩ := b.lst le
    exact ⟨a, us, rfl, .inl ⟨.inl e, fun p hp => k _ _ _ (.tup le hp r)⟩⟩
  · cases g
    obtain ⟨a, us, rfl, e, r⟩ := b.tup
    exact ⟨a, us, rfl, .inr ⟨.of (le _ _ e), k _ _ _ (.old le (.tup e r))⟩⟩
theorem ob_max2 (hc : X.calm = true) : CallR X (.builtin "max") (rD (pr .max2)) := by
  refine callr_imp (call_max2 hc) fun xs H Q h => ?_
  obtain ⟨x, y, rfl, F, d, e, s, le, b1, b2, g, k⟩ := rd_two h (by (intro ds s h; rcases ds with _ | ⟨d, _ | ⟨e, _ | ⟨f, r⟩⟩⟩ <;> first | rfl | (have h' : (none : Option Sl) = some s := h; cases h'; done) | (cases d <;> (have h' : (none : Option Sl) = some s := h; cases h'; done)) | (cases d <;> cases e <;> (have h' : (none : Option Sl) = some s := h; cases h'; done))))
  cases d <;> cases e <;> first | (have g' : (none : Option Sl) = some s := g; cases g'; done) | skip
  obtain rfl := b1.int; obtain rfl := b2.int
  exact ⟨_, _, rfl, give k g le (.int _)⟩
theorem ob_min2 (hc : X.calm = true) : CallR X (.builtin "min") (rD (pr .min2)) := by
  refine callr_imp (call_min2 hc) fun xs H Q h => ?_
  obtain ⟨x, y, rfl, F, d, e, s, le, b1, b2, g, k⟩ := rd_two h (by (intro ds s h; rcases ds with _ | ⟨d, _ | ⟨e, _ | ⟨f, r⟩⟩⟩ <;> first | rfl | (have h' : (none : Option Sl) = some s := h; cases h'; done) | (cases d <;> (have h' : (none : Option Sl) = some s := h; cases h'; done)) | (cases d <;> cases e <;> (have h' : (none : Option Sl) = some s := h; cases h'; done))))
  cases d <;> cases e <;> first | (have g' : (none : Option Sl) = some s := g; cases g'; done) | skip
  obtain rfl := b1.int; obtain rfl := b2.int
  exact ⟨_, _, rfl, give k g le (.int _)⟩

/-! ### places -/
theorem atIx_ixN {n : Nat} {i : Int} : atIx n i = ixN n i := rfl
theorem rp_at {F : Hp} {us : List V} {ds : List D} {i : Int} {d : D} (r : RpL F us ds) (e : getAt ds i = some d) : ∃ v, atI us i = some v ∧ Rp F v d := by
  unfold getAt at e
  unfold atI
  rw [r.len, ← atIx_ixN]
  cases q : atIx ds.length i with
  | none => rw [q] at e; cases e
  | some j => rw [q] at e; exact r.get e
theorem oi_idx : IxR X (rD2 (pr .idx)) := by
  refine ixr_imp ix_seq fun x y H Q h => ?_
  obtain ⟨F, d, e, s, le, b1, b2, g, k⟩ := rd2 h
  cases d <;> first | (cases e <;> (have g' : (none : Option Sl) = some s := g; cases g'); done) | skip
  · cases e <;> first | (have g' : (none : Option Sl) = some s := g; cases g'; done) | skip
    rename_i z i
    obtain rfl := b1.str; obtain rfl := b2.int
    have g : (if LIM ≤ z.length then none else (getAt z.cps.toList i).bind fun c => okShr (.str ⟨#[c]⟩)) = some s := g
    by_cases hz : LIM ≤ z.length
    · rw [if_pos hz] at g; cases g
    · rw [if_neg hz] at g
      cases eg : getAt z.cps.toList i with
      | none => rw [eg] at g; cases g
      | some c =>
        rw [eg] at g
        exact .inr (.inr ⟨z, i, c, rfl, rfl, lim_le (by omega), eg, give k g le (.str _)⟩)
  · cases e <;> first | (have g' : (none : Option Sl) = some s := g; cases g'; done) | skip
    rename_i ds i
    obtain ⟨a, us, rfl, ha, r⟩ := b1.lst le; obtain rfl := b2.int
    have g : (getAt ds i).bind okShr = some s := g
    cases eg : getAt ds i with
    | none => rw [eg] at g; cases g
    | some c =>
      rw [eg] at g
      obtain ⟨v, ev, rv⟩ := rp_at r eg
      exact .inl ⟨a, us, i, v, rfl, rfl, .inl ha, ev, give k g le rv⟩
  · cases e <;> first | (have g' : (none : Option Sl) = some s := g; cases g'; done) | skip
    rename_i ds i
    obtain ⟨a, us, rfl, ha, r⟩ := b1.tup; obtain rfl := b2.int
    have g : (getAt ds i).bind okShr = some s := g
    cases eg : getAt ds i with
    | none => rw [eg] at g; cases g
    | some c =>
      rw [eg] at g
      obtain ⟨v, ev, rv⟩ := rp_at r eg
      exact .inr (.inl ⟨a, us, i, v, rfl, rfl, .of (le _ _ ha), ev, give k g le rv⟩)
end
end Mx

end
section
set_option Elab.async false
set_option linter.all false
set_option maxRecDepth 100000
set_option maxHeartbeats 4000000
set_option exponentiation.threshold 5000
/-! MxP4: the order of data, sorting, the least. -/
namespace Mx
open PySem PySem.Spec L2
open PySem.W (alike alikeAll dataLt keyToks keyToksAll EachIs AllAlike Sortable)
open PyProof.Rows (itemOrd)
variable [CA]
mutual
theorem alike_py : ∀ (n m : Nat) (a b : D), plainD n a = true → plainD m b = true → alike (toPy a) (toPy b) = alikeD a b
  | 0, _, _, _, h, _ => by simp [plainD] at h
  | _ + 1, 0, _, _, _, h => by simp [plainD] at h
  | n + 1, m + 1, .lst xs, .lst ys, h, k => by
    show alikeAll (toPyL xs) (toPyL ys) = alikeL xs ys
    exact alike_pyL n m xs ys (by simpa [plainD] using h) (by simpa [plainD] using k)
  | n + 1, m + 1, .tup xs, .tup ys, h, k => by
    show alikeAll (toPyL xs) (toPyL ys) = alikeL xs ys
    exact alike_pyL n m xs ys (by simpa [plainD] using h) (by simpa [plainD] using k)
  | _ + 1, _ + 1, .dic _, _, h, _ => by simp [plainD] at h
  | _ + 1, _ + 1, _, .dic _, _, h => by simp [plainD] at h
  | _ + 1, _ + 1, .exc _, _, h, _ => by simp [plainD] at h
  | _ + 1, _ + 1, _, .exc _, _, h => by simp [plainD] at h
  | _ + 1, _ + 1, .non, b, _, _ => by cases b <;> simp_all [toPy, alike, alikeD, plainD]
  | _ + 1, _ + 1, .bl _, b, _, _ => by cases b <;> simp_all [toPy, alike, alikeD, plainD]
  | _ + 1, _ + 1, .int _, b, _, _ => by cases b <;> simp_all [toPy, alike, alikeD, plainD]
  | _ + 1, _ + 1, .str _, b, _, _ => by cases b <;> simp_all [toPy, alike, alikeD, plainD]
  | _ + 1, _ + 1, .lst _, .non, _, _ => by simp [toPy, alike, alikeD]
  | _ + 1, _ + 1, .lst _, .bl _, _, _ => by simp [toPy, alike, alikeD]
  | _ + 1, _ + 1, .lst _, .int _, _, _ => by simp [toPy, alike, alikeD]
  | _ + 1, _ + 1, .lst _, .str _, _, _ => by simp [toPy, alike, alikeD]
  | _ + 1, _ + 1, .lst _, .tup _, _, _ => by simp [toPy, alike, alikeD]
  | _ + 1, _ + 1, .tup _, .non, _, _ => by simp [toPy, alike, alikeD]
  | _ + 1, _ + 1, .tup _, .bl _, _, _ => by simp [toPy, alike, alikeD]
  | _ + 1, _ + 1, .tup _, .int _, _, _ => by simp [toPy, alike, alikeD]
  | _ + 1, _ + 1, .tup _, .str _, _, _ => by simp [toPy, alike, alikeD]
  | _ + 1, _ + 1, .tup _, .lst _, _, _ => by simp [toPy, alike, alikeD]
theorem alike_pyL : ∀ (n m : Nat) (xs ys : List D), xs.all (plainD n) = true → ys.all (plainD m) = true → alikeAll (toPyL xs) (toPyL ys) = alikeL xs ys
  | _, _, [], [], _, _ => by simp [toPyL, alikeAll, alikeL]
  | _, _, [], _ :: _, _, _ => by simp [toPyL, alikeAll, alikeL]
  | _, _, _ :: _, [], _, _ => by simp [toPyL, alikeAll, alikeL]
  | n, m, x :: xs, y :: ys, h, k => by
    obtain ⟨h1, h2⟩ := plain_cons h
    obtain ⟨k1, k2⟩ := plain_cons k
    simp only [toPyL, alikeAll, alikeL, alike_py n m x y h1 k1, alike_pyL n m xs ys h2 k2]
end
theorem lexAll_nil : PyProof.Rows.lexLt itemOrd (keyToksAll []) (keyToksAll []) = false := PyProof.Rows.lex_irrefl _
theorem lexAll_nc (y : PyData) (ys : List PyData) : PyProof.Rows.lexLt itemOrd (keyToksAll []) (keyToksAll (y :: ys)) = true := by
  have e : keyToksAll (y :: ys) = Sum.inl 1 :: (keyToks y ++ keyToksAll ys) := PySem.W.toks_all_cons y ys
  rw [e]
  show PyProof.Rows.lexLt itemOrd [Sum.inl 0] _ = true
  rw [PyProof.Rows.lex_cons]
  have : itemOrd.blt (Sum.inl 0) (Sum.inl 1) = true := by decide
  rw [this]; rfl
theorem lexAll_cn (y : PyData) (ys : List PyData) : PyProof.Rows.lexLt itemOrd (keyToksAll (y :: ys)) (keyToksAll []) = false := by
  have e : keyToksAll (y :: ys) = Sum.inl 1 :: (keyToks y ++ keyToksAll ys) := PySem.W.toks_all_cons y ys
  rw [e]
  show PyProof.Rows.lexLt itemOrd _ [Sum.inl 0] = false
  rw [PyProof.Rows.lex_cons]
  have : itemOrd.blt (Sum.inl 1) (Sum.inl 0) = false := by decide
  rw [this]
  have : itemOrd.blt (Sum.inl 0) (Sum.inl 1) = true := by decide
  rw [this]; rfl
mutual
theorem lt_py : ∀ (n m : Nat) (a b : D), plainD n a = true → plainD m b = true → alikeD a b = true → dataLt (toPy a) (toPy b) = ltD a b
  | 0, _, _, _, h, _, _ => by simp [plainD] at h
  | _ + 1, 0, _, _, _, h, _ => by simp [plainD] at h
  | n + 1, m + 1, .lst xs, .lst ys, h, k, e => by
    show dataLt (.list (toPyL xs)) (.list (toPyL ys)) = ltL xs ys
    rw [PySem.W.dataLt_list]
    exact lt_pyL n m xs ys (by simpa [plainD] using h) (by simpa [plainD] using k) e
  | n + 1, m + 1, .tup xs, .tup ys, h, k, e => by
    show dataLt (.tuple (toPyL xs)) (.tuple (toPyL ys)) = ltL xs ys
    rw [PySem.W.dataLt_tuple]
    exact lt_pyL n m xs ys (by simpa [plainD] using h) (by simpa [plainD] using k) e
  | _ + 1, _ + 1, .non, .non, _, _, _ => PyProof.Rows.lex_irrefl _
  | _ + 1, _ + 1, .bl a, .bl b, _, _, _ => by
    show dataLt (.bool a) (.bool b) = (!a && b)
    rw [PySem.W.dataLt_bool]
    cases a <;> cases b <;> decide
  | _ + 1, _ + 1, .int a, .int b, _, _, _ => PySem.W.dataLt_int a b
  | _ + 1, _ + 1, .str a, .str b, _, _, _ => PySem.W.dataLt_str a b
  | _ + 1, _ + 1, .dic _, _, h, _, _ => by simp [plainD] at h
  | _ + 1, _ + 1, .exc _, _, h, _, _ => by simp [plainD] at h
  | _ + 1, _ + 1, _, .exc _, _, h, _ => by simp [plainD] at h
  | _ + 1, _ + 1, .non, .bl _, _, _, e => by simp [alikeD] at e
  | _ + 1, _ + 1, .non, .int _, _, _, e => by simp [alikeD] at e
  | _ + 1, _ + 1, .non, .str _, _, _, e => by simp [alikeD] at e
  | _ + 1, _ + 1, .non, .lst _, _, _, e => by simp [alikeD] at e
  | _ + 1, _ + 1, .non, .tup _, _, _, e => by simp [alikeD] at e
  | _ + 1, _ + 1, .non, .dic _, _, _, e => by simp [alikeD] at e
  | _ + 1, _ + 1, .bl _, .non, _, _, e => by simp [alikeD] at e
  | _ + 1, _ + 1, .bl _, .int _, _, _, e => by simp [alikeD] at e
  | _ + 1, _ + 1, .bl _, .str _, _, _, e => by simp [alikeD] at e
  | _ + 1, _ + 1, .bl _, .lst _, _, _, e => by simp [alikeD] at e
  | _ + 1, _ + 1, .bl _, .tup _, _, _, e => by simp [alikeD] at e
  | _ + 1, _ + 1, .bl _, .dic _, _, _, e => by simp [alikeD] at e
  | _ + 1, _ + 1, .int _, .non, _, _, e => by simp [alikeD] at e
  | _ + 1, _ + 1, .int _, .bl _, _, _, e => by simp [alikeD] at e
  | _ + 1, _ + 1, .int _, .str _, _, _, e => by simp [alikeD] at e
  | _ + 1, _ + 1, .int _, .lst _, _, _, e => by simp [alikeD] at e
  | _ + 1, _ + 1, .int _, .tup _, _, _, e => by simp [alikeD] at e
  | _ + 1, _ + 1, .int _, .dic _, _, _, e => by simp [alikeD] at e
  | _ + 1, _ + 1, .str _, .non, _, _, e => by simp [alikeD] at e
  | _ + 1, _ + 1, .str _, .bl _, _, _, e => by simp [alikeD] at e
  | _ + 1, _ + 1, .str _, .int _, _, _, e => by simp [alikeD] at e
  | _ + 1, _ + 1, .str _, .lst _, _, _, e => by simp [alikeD] at e
  | _ + 1, _ + 1, .str _, .tup _, _, _, e => by simp [alikeD] at e
  | _ + 1, _ + 1, .str _, .dic _, _, _, e => by simp [alikeD] at e
  | _ + 1, _ + 1, .lst _, .non, _, _, e => by simp [alikeD] at e
  | _ + 1, _ + 1, .lst _, .bl _, _, _, e => by simp [alikeD] at e
  | _ + 1, _ + 1, .lst _, .int _, _, _, e => by simp [alikeD] at e
  | _ + 1, _ + 1, .lst _, .str _, _, _, e => by simp [alikeD] at e
  | _ + 1, _ + 1, .lst _, .tup _, _, _, e => by simp [alikeD] at e
  | _ + 1, _ + 1, .lst _, .dic _, _, _, e => by simp [alikeD] at e
  | _ + 1, _ + 1, .tup _, .non, _, _, e => by simp [alikeD] at e
  | _ + 1, _ + 1, .tup _, .bl _, _, _, e => by simp [alikeD] at e
  | _ + 1, _ + 1, .tup _, .int _, _, _, e => by simp [alikeD] at e
  | _ + 1, _ + 1, .tup _, .str _, _, _, e => by simp [alikeD] at e
  | _ + 1, _ + 1, .tup _, .lst _, _, _, e => by simp [alikeD] at e
  | _ + 1, _ + 1, .tup _, .dic _, _, _, e => by simp [alikeD] at e
theorem lt_pyL : ∀ (n m : Nat) (xs ys : List D), xs.all (plainD n) = true → ys.all (plainD m) = true → alikeL xs ys = true → PyProof.Rows.lexLt itemOrd (keyToksAll (toPyL xs)) (keyToksAll (toPyL ys)) = ltL xs ys
  | _, _, [], [], _, _, _ => lexAll_nil
  | _, _, [], _ :: _, _, _, _ => lexAll_nc _ _
  | _, _, _ :: _, [], _, _, _ => lexAll_cn _ _
  | n, m, x :: xs, y :: ys, h, k, e => by
    obtain ⟨h1, h2⟩ := plain_cons h
    obtain ⟨k1, k2⟩ := plain_cons k
    obtain ⟨e1, e2⟩ : alikeD x y = true ∧ alikeL xs ys = true := by simpa [alikeL] using e
    show PyProof.Rows.lexLt itemOrd (keyToksAll (toPy x :: toPyL xs)) (keyToksAll (toPy y :: toPyL ys)) = if eqb x y then ltL xs ys else ltD x y
    rw [PySem.W.dataLt_cons (by rw [alike_py n m x y h1 k1]; exact e1), eqv_eqb n m x y h1 k1, lt_pyL n m xs ys h2 k2 e2, lt_py n m x y h1 k1 e1]
end
theorem ltb_of {a b : D} {c : Bool} (h : ltb a b = some c) : plainD 60 a = true ∧ plainD 60 b = true ∧ alike (toPy a) (toPy b) = true ∧ toPy a ≠ .none ∧ dataLt (toPy a) (toPy b) = c := by
  unfold ltb at h
  by_cases q : (alikeD a b && notNon a && plainD 60 a && plainD 60 b) = true
  · rw [if_pos q] at h
    simp only [Bool.and_eq_true] at q
    obtain ⟨⟨⟨q1, q2⟩, q3⟩, q4⟩ := q
    refine ⟨q3, q4, by rw [alike_py 60 60 a b q3 q4]; exact q1, ?_, ?_⟩
    · cases a <;> simp_all [toPy, notNon, plainD]
    · rw [lt_py 60 60 a b q3 q4 q1]; cases h; rfl
  · rw [if_neg q] at h; cases h
section
variable {X : Cx}
theorem od_lt (hu : X.A.units + 64 < cLine) : OpR X (compareOp .Lt) (rD2 (pr .lt)) := by
  intro pins s σ H x y v u Q I rx ry h
  obtain ⟨F, d, e, z, le, b1, b2, g, k⟩ := rd2 h
  have g : (ltb d e).bind (fun c => okShr (.bl c)) = some z := g
  cases q : ltb d e with
  | none => rw [q] at g; cases g
  | some c =>
    rw [q] at g
    obtain ⟨h1, h2, h3, h4, h5⟩ := ltb_of q
    obtain ⟨as, r1⟩ := reads_of I le h1 b1 rx
    obtain ⟨bs, r2⟩ := reads_of I le h2 b2 ry
    obtain ⟨p1, q1⟩ := plain_py 60 d h1
    refine PySem.W.lt_data r1 r2 h3 h4 (by omega) ?_
    rw [h5]
    exact ⟨.bl c, H, I, rfl, give k g le (.bl _)⟩
theorem od_gt (hu : X.A.units + 64 < cLine) : OpR X (compareOp .Gt) (rD2 (pr .gt)) := by
  intro pins s σ H x y v u Q I rx ry h
  obtain ⟨F, d, e, z, le, b1, b2, g, k⟩ := rd2 h
  have g : (ltb e d).bind (fun c => okShr (.bl c)) = some z := g
  cases q : ltb e d with
  | none => rw [q] at g; cases g
  | some c =>
    rw [q] at g
    obtain ⟨h1, h2, h3, h4, h5⟩ := ltb_of q
    obtain ⟨as, r1⟩ := reads_of I le h2 b1 rx
    obtain ⟨bs, r2⟩ := reads_of I le h1 b2 ry
    obtain ⟨p1, q1⟩ := plain_py 60 d h2
    have h3' : alike (toPy d) (toPy e) = true := by rw [PySem.W.alike_comm]; exact h3
    refine PySem.W.gt_data r1 r2 h3' (PySem.W.ne_none_both h3 h4) (by omega) ?_
    rw [h5]
    exact ⟨.bl c, H, I, rfl, give k g le (.bl _)⟩

/-! ### sorting -/
theorem comp_of {ks : List D} (h : comparable ks = true) : (∀ a ∈ ks, plainD 60 a = true) ∧ (∀ a ∈ ks, ∀ b ∈ ks, alikeD a b = true) ∧ ((∀ a ∈ ks, isTup1 a = true) ∨ ∀ a ∈ ks, isNoTup a = true) := by
  unfold comparable at h
  simp only [Bool.and_eq_true, Bool.or_eq_true, List.all_eq_true] at h
  exact ⟨fun a ha => (h.1 a ha).1, fun a ha b hb => (h.1 a ha).2 b hb, h.2⟩
theorem sortable_of {α : Type} {ps : List α} {f : α → D} {ks : List D} (h : comparable ks = true) (hf : ∀ p ∈ ps, f p ∈ ks) : AllAlike (ps.map fun p => toPy (f p)) ∧ Sortable (ps.map fun p => toPy (f p)) := by
  obtain ⟨h1, h2, h3⟩ := comp_of h
  refine ⟨fun d hd d' hd' => ?_, ?_⟩
  · obtain ⟨p, hp, rfl⟩ := List.mem_map.mp hd
    obtain ⟨q, hq, rfl⟩ := List.mem_map.mp hd'
    rw [alike_py 60 60 _ _ (h1 _ (hf p hp)) (h1 _ (hf q hq))]
    exact h2 _ (hf p hp) _ (hf q hq)
  · rcases h3 with h3 | h3
    · refine .inl fun d hd => ?_
      obtain ⟨p, hp, rfl⟩ := List.mem_map.mp hd
      have := h3 _ (hf p hp)
      generalize f p = z at this
      cases z <;> first | (simp [isTup1] at this; done) | skip
      rename_i xs
      cases xs with
      | nil => simp [isTup1] at this
      | cons x xs => exact ⟨toPy x, toPyL xs, rfl⟩
    · refine .inr fun d hd => ?_
      obtain ⟨p, hp, rfl⟩ := List.mem_map.mp hd
      have := h3 _ (hf p hp)
      have pl := h1 _ (hf p hp)
      generalize f p = z at this pl
      cases z <;> simp_all [isNoTup, toPy, plainD]
theorem mergeSort_congr {α : Type} {le le' : α → α → Bool} : ∀ (l : List α), (∀ a ∈ l, ∀ b ∈ l, le a b = le' a b) → l.mergeSort le = l.mergeSort le' := by
  intro l h
  have e1 : l.mergeSort le = ((l.attach.mergeSort fun a b => le a.1 b.1)).map (·.1) := by
    rw [List.map_mergeSort (s := le) (r := fun a b : {x // x ∈ l} => le a.1 b.1) (f := Subtype.val) (fun _ _ _ _ => rfl), List.attach_map_subtype_val]
  have e2 : l.mergeSort le' = ((l.attach.mergeSort fun a b => le' a.1 b.1)).map (·.1) := by
    rw [List.map_mergeSort (s := le') (r := fun a b : {x // x ∈ l} => le' a.1 b.1) (f := Subtype.val) (fun _ _ _ _ => rfl), List.attach_map_subtype_val]
  rw [e1, e2]
  congr 1
  congr 1
  funext a b
  exact h a.1 a.2 b.1 b.2
theorem mem_mergeSort' {α : Type} {le : α → α → Bool} {l : List α} {a : α} (h : a ∈ l.mergeSort le) : a ∈ l := (List.mergeSort_perm l le).mem_iff.mp h
theorem le_sort {ks : List D} (h : comparable ks = true) {ps : List (D × D)} (hp : ∀ p ∈ ps, p.1 ∈ ks) : ps.mergeSort (PySem.W.dataLe false fun p => toPy p.1) = ps.mergeSort leK := by
  obtain ⟨h1, h2, _⟩ := comp_of h
  refine mergeSort_congr ps fun a ha b hb => ?_
  rw [PySem.W.dataLe_eq]
  show (!dataLt (toPy b.1) (toPy a.1)) = !ltD b.1 a.1
  rw [lt_py 60 60 _ _ (h1 _ (hp b hb)) (h1 _ (hp a ha)) (h2 _ (hp b hb) _ (hp a ha))]
/-- values and the data they stand for, pair by pair -/
def Rv (F : Hp) (u : Value) (p : D × D) : Prop := ∃ x, RelV x u ∧ Rp F x p.2
theorem each_rv {F : Hp} : ∀ {us : List Value} {ps : List (D × D)}, EachIs (Rv F) us ps → ∃ xs, Vals xs us ∧ RpL F xs (ps.map (·.2))
  | _, _, .nil => ⟨[], .nil, .nil⟩
  | _, _, .cons h t => by
    obtain ⟨x, r1, r2⟩ := h
    obtain ⟨xs, q1, q2⟩ := each_rv t
    exact ⟨x :: xs, .cons r1 q1, .cons r2 q2⟩
theorem rv_each {F : Hp} : ∀ {xs : List V} {us : List Value} {ds : List D} {ks : List D}, Vals xs us → RpL F xs ds → ks.length = ds.length → EachIs (Rv F) us (ks.zip ds)
  | [], _, _, ks, v, r, e => by
    cases v; cases r
    have : ks = [] := by cases ks <;> simp_all
    subst this
    exact .nil
  | x :: xs, _, _, ks, v, r, e => by
    cases v with
    | cons v1 vv =>
      cases r with
      | cons r1 rr =>
        match ks, e with
        | k :: ks, e => exact .cons ⟨x, v1, r1⟩ (rv_each vv rr (by simpa using e))
theorem zip_mem1 {α β : Type} {as : List α} {bs : List β} {p : α × β} (h : p ∈ as.zip bs) : p.1 ∈ as := (List.of_mem_zip (a := p.1) (b := p.2) h).1
theorem each_reads {X : Cx} {pins : List (Addr × Obj)} {σ : St} {H F : Hp} {s : Shared} (I : Inv X pins σ H s) (le : Le F H) : ∀ {us : List Value} {ps : List (D × D)}, EachIs (Rv F) us ps → (∀ p ∈ ps, p.1 = p.2 ∧ plainD 60 p.1 = true) → EachIs (fun v (p : D × D) => ∃ as, Reads s.heap v (toPy p.1) as) us ps
  | _, _, .nil, _ => .nil
  | _, _, .cons h t, q => by
    obtain ⟨x, r1, r2⟩ := h
    obtain ⟨q1, q2⟩ := q _ List.mem_cons_self
    refine .cons ?_ (each_reads I le t fun p hp => q p (List.mem_cons_of_mem _ hp))
    rw [← q1] at r2
    exact reads_of I le q2 (.inl r2) r1
theorem ob_sorted (hu : X.A.units + 70 < cLine) : CallR X (.builtin "sorted") (rD (pr .sorted)) := by
  intro pins s σ H xs us Q I r h
  obtain ⟨x, rfl, F, d, z, le, b, g, k⟩ := rd_one h (by (intro ds s h; rcases ds with _ | ⟨d, _ | ⟨e, r⟩⟩ <;> first | rfl | (have h' : (none : Option Sl) = some s := h; cases h'; done) | (cases d <;> (have h' : (none : Option Sl) = some s := h; cases h'; done)) | (cases d <;> rename_i xs <;> first | (have h' : (none : Option Sl) = some s := h; cases h'; done) | (cases xs <;> (have h' : (none : Option Sl) = some s := h; cases h'; done)))))
  cases d <;> first | (have g' : (none : Option Sl) = some z := g; cases g'; done) | skip
  rename_i ds
  obtain ⟨a, ws, rfl, e, rp⟩ := b.lst le
  have g : ((sortBy ds ds).bind fun ys => some (Sl.own (.lst ys))) = some z := g
  unfold sortBy at g
  by_cases hq : (comparable ds && ds.length == ds.length && decide (ds.length < LIM)) = true
  · rw [if_pos hq] at g
    cases g
    simp only [Bool.and_eq_true, decide_eq_true_eq] at hq
    obtain ⟨⟨hc, _⟩, hl⟩ := hq
    obtain rfl := Vals.ref1 r
    obtain ⟨its, rv, hpl, hz⟩ := I.list (.inl e)
    have ee := rv_each (F := F) (ks := ds) rv rp rfl
    obtain ⟨c1, c2, c3⟩ := comp_of hc
    have eq_of : ∀ p ∈ ds.zip ds, p.1 = p.2 := fun p hp => by
      obtain ⟨i, hi, hp⟩ := List.mem_iff_getElem.mp hp
      rw [← hp, List.getElem_zip]
    have so := sortable_of (ps := ds.zip ds) (f := (·.1)) hc fun p hp => zip_mem1 hp
    have hlz : (ds.zip ds).length = ds.length := by simp
    refine PySem.W.sorted_data hpl.isList ee (each_reads I le ee fun p hp => ⟨eq_of p hp, c1 _ (zip_mem1 hp)⟩) so.1 so.2 (by rw [hlz]; exact lim_le hl) (fun p hp => ?_) fun out ho eo => ?_
    · obtain ⟨_, q⟩ := plain_py 60 _ (c1 _ (zip_mem1 hp))
      omega
    · rw [le_sort hc fun p hp => zip_mem1 hp] at eo
      obtain ⟨ys, v1, v2⟩ := each_rv eo
      obtain ⟨ep, he'⟩ := PyProof.Rows.sortedAll_at s.heap its out.toArray
      have hlen : ys.length ≤ sizeLine := by
        rw [v1.length, ho, hlz]; exact lim_le hl
      have hf := I.hok.fresh (Nat.le_succ s.heap.objs.size)
      refine ⟨.ref _, upd H (s.heap.objs.size + 1) (.lst ys), I.laid (t' := s.toks) (fun _ _ => PyProof.Rows.sortedAll_old) (Nat.le_succ _) ⟨hlen, out, ep, v1, he'⟩, rfl, k _ _ _ (.ownL le hf v2)⟩
  · rw [if_neg hq] at g; cases g
end
end Mx

end
section
set_option Elab.async false
set_option linter.all false
set_option maxRecDepth 100000
set_option maxHeartbeats 4000000
/-! MxD: further expressions. -/
namespace Mx
open PySem PySem.Spec L2
variable [CA]

section
variable {Γ : Tab} {asg : Nat → List Bool} {X : Cx} {W : WE} {a b c e : Expr} {a' b' c' e' : E} {pos : Pos} {es : List Expr} {r : E}
/-- the entries of one operand -/
theorem mem_enOs1 {v : V} {o : Opd} {q : En} (h : q ∈ enOs [v] [o]) : q ∈ enO v o := by
  have h : q ∈ enO v o ++ [] := h
  simpa using h
theorem mem_enOs2 {v w : V} {o u : Opd} {q : En} (h : q ∈ enOs [v, w] [o, u]) : q ∈ enO v o ∨ q ∈ enO w u := by
  have h : q ∈ enO v o ++ (enO w u ++ []) := h
  simpa using h
/-- a value that is a truth -/
theorem tst_val {v : Env → R (Sl × Env)} {σ : St} {H : Hp} {Q : Bool → Hp → Prop} (z : tT W (tst v) σ H Q) : tE W v σ H fun x H' => ∃ k, x = .bl k ∧ Q k H' := by
  refine step0 z fun F ρ hl er x s ρ1 F1 H1 e1 hl1 _ rel g => ?_
  cases s with
  | shr d =>
    cases d with
    | bl k =>
      have r := rel.er.rpv
      cases r
      exact ⟨k, rfl, gR_ok g hl1 rfl rel.tail⟩
    | _ => exact False.elim g
  | _ => exact False.elim g
theorem pt_of {t : TE} (hpt : PT X e (tTest t)) (h : ∀ σ H Q, tE W (evE Γ asg e') σ H Q → t σ H Q) : PT X e (tT W (tst (evE Γ asg e'))) :=
  pt_imp hpt fun σ H Q z => h σ H _ (tst_val z)
theorem pt_ofB (h : PE X e (tE W (evE Γ asg e'))) (he : ∀ whole, isTrue e X.env whole = (do let v ← whole; standAt e.pos; holding [v] (truthy v))) : PT X e (tT W (tst (evE Γ asg e'))) :=
  pt_imp (pt_val h he) fun σ H Q z => tst_val z

/-! ### operators -/
theorem ev_pr1 {p : Pr} : evE Γ asg (.pr p (.cons a' .nil)) = fun ρ => (opd (isVar a') (evE Γ asg a') ρ).bind fun x => prE p [x.1] x.2 := by
  funext ρ
  show ((opd (isVar a') (evE Γ asg a') ρ).bind fun x => (R.ok ([], x.2)).bind fun (os, ρ2) => R.ok (x.1 :: os, ρ2)).bind (fun x => prE p x.1 x.2) = _
  rw [bind_assoc]
  congr 1
theorem imp1 {p : Pr} {ta : TE} {f : V → Hp → VK → Prop} (hf : ∀ x H Q, rD (pr p) [x] H Q → f x H Q) {σ : St} {H : Hp} {Q : VK} (z : tE W (evE Γ asg (.pr p (.cons a' .nil))) σ H Q) :
    tO W (opd (isVar a') (evE Γ asg a')) σ H fun x H1 => f x H1 Q := by
  rw [ev_pr1] at z
  refine step0 z fun F ρ hl er x o ρ1 F1 H1 e1 hl1 ok1 rel1 g1 => ?_
  exact hf _ _ _ (prim_end (g := pr p) (os := [o]) (G := enO x o) hl1 ⟨ok1, trivial⟩ rel1 (fun q hq => mem_enOs1 hq) g1)
theorem imp2 {p : Pr} {f : V → V → Hp → VK → Prop} (hf : ∀ x y H Q, rD (pr p) [x, y] H Q → f x y H Q) {σ : St} {H : Hp} {Q : VK} (z : tE W (evE Γ asg (.pr p (.cons a' (.cons b' .nil)))) σ H Q) :
    tO W (opd (isVar a') (evE Γ asg a')) σ H fun x H1 => tO W (opd (isVar b') (evE Γ asg b')) σ H1 fun y H2 => f x y H2 Q := by
  rw [ev_pr2] at z
  refine step0 z fun F ρ hl er x o ρ1 F1 H1 e1 hl1 ok1 rel1 g1 => ?_
  refine step rel1 hl1 g1 fun y o2 ρ2 F2 H2 e2 hl2 ok2 rel2 g2 => ?_
  refine hf _ _ _ _ (prim_end (g := pr p) (os := [o, o2]) (G := enO y o2 ++ enO x o) hl2 ⟨ok1, ok2, trivial⟩ (rel2.permR (by rw [List.append_assoc])) (fun q hq => ?_) g2)
  rcases mem_enOs2 hq with h | h
  · exact List.mem_append_right _ h
  · exact List.mem_append_left _ h
theorem pe_pr1 {p : Pr} {op : UnaryOp} (ho : UnR X (unaryOp op) (rD1 (pr p))) (ha : PE X a (tO W (opd (isVar a') (evE Γ asg a')))) : PE X (.UnaryOp op a pos) (tE W (evE Γ asg (.pr p (.cons a' .nil)))) :=
  pe_imp (pe_un ho ha) fun σ H Q z => imp1 (ta := tO W (opd (isVar a') (evE Γ asg a'))) (fun _ _ _ h => h) z
theorem pe_cmp2 {p : Pr} {op : CmpOp} (ho : OpR X (compareOp op) (rD2 (pr p))) (ha : PE X a (tO W (opd (isVar a') (evE Γ asg a')))) (hb : PE X b (tO W (opd (isVar b') (evE Γ asg b')))) (hm : behindInMarks op b = false) :
    PE X (.Compare a [op] [b] pos) (tE W (evE Γ asg (.pr p (.cons a' (.cons b' .nil))))) :=
  pe_imp (pe_cmpR ho ha hb hm) fun σ H Q z => imp2 (fun _ _ _ _ h => h) z
theorem pt_cmp2 {p : Pr} {op : CmpOp} (ho : OpR X (compareOp op) (rD2 (pr p))) (ha : PE X a (tO W (opd (isVar a') (evE Γ asg a')))) (hb : PE X b (tO W (opd (isVar b') (evE Γ asg b')))) (hm : behindInMarks op b = false) :
    PT X (.Compare a [op] [b] pos) (tT W (tst (evE Γ asg (.pr p (.cons a' (.cons b' .nil)))))) :=
  pt_of (pt_cmpR ho ha hb hm) fun σ H Q z => imp2 (fun _ _ _ _ h => h) z
theorem pe_idx (ho : IxR X (rD2 (pr .idx))) (ha : PE X a (tO W (opd (isVar a') (evE Γ asg a')))) (hb : PE X b (tO W (opd (isVar b') (evE Γ asg b')))) (hs : PlainIx b) :
    PE X (.Subscript a b pos) (tE W (evE Γ asg (.pr .idx (.cons a' (.cons b' .nil))))) :=
  pe_imp (pe_ix ho ha hb hs) fun σ H Q z => imp2 (fun _ _ _ _ h => h) z
theorem chain_imp {p q : Pr} {σ : St} {H : Hp} {Q : VK} (z : tE W (evE Γ asg (.chain p q a' b' c')) σ H Q) :
    tChain (rD2 (pr p)) (rD2 (pr q)) (tO W (opd (isVar a') (evE Γ asg a'))) (tO W (opd (isVar b') (evE Γ asg b'))) (tO W (opd (isVar c') (evE Γ asg c'))) σ H Q := by
  show tO W (opd (isVar a') (evE Γ asg a')) σ H fun x H1 => tO W (opd (isVar b') (evE Γ asg b')) σ H1 fun y H2 => rD2 (pr p) x y H2 fun z H3 => ∃ k, z = .bl k ∧
    (if k = true then tO W (opd (isVar c') (evE Γ asg c')) σ H3 fun w' H4 => rD2 (pr q) y w' H4 Q else Q (.bl false) H3)
  refine step0 (f := fun (oa, ρ1) => (opd (isVar b') (evE Γ asg b') ρ1).bind fun (ob, ρ2) => match gets ρ2 [oa, ob] with
    | some [x, y] => (match pr p [x, y] with
      | some (.shr (.bl true)) => (opd (isVar c') (evE Γ asg c') ρ2).bind fun (oc, ρ3) => (match gets ρ3 [ob, oc] with
        | some [y, z] => (match pr q [y, z] with
          | some (.shr (.bl r)) => R.ok (Sl.shr (.bl r), ρ3)
          | _ => .bad)
        | _ => .bad)
      | some (.shr (.bl false)) => R.ok (Sl.shr (.bl false), ρ2)
      | _ => .bad)
    | _ => .bad) z fun F ρ hl er x oa ρ1 F1 H1 e1 hl1 ok1 rel1 g1 => ?_
  refine step (f := fun (ob, ρ2) => match gets ρ2 [oa, ob] with
    | some [x, y] => (match pr p [x, y] with
      | some (.shr (.bl true)) => (opd (isVar c') (evE Γ asg c') ρ2).bind fun (oc, ρ3) => (match gets ρ3 [ob, oc] with
        | some [y, z] => (match pr q [y, z] with
          | some (.shr (.bl r)) => R.ok (Sl.shr (.bl r), ρ3)
          | _ => .bad)
        | _ => .bad)
      | some (.shr (.bl false)) => R.ok (Sl.shr (.bl false), ρ2)
      | _ => .bad)
    | _ => .bad) rel1 hl1 g1 fun y ob ρ2 F2 H2 e2 hl2 ok2 rel2 g2 => ?_
  have g2 : gR W enE okE (match gets ρ2 [oa, ob] with
    | some [x, y] => (match pr p [x, y] with
      | some (.shr (.bl true)) => (opd (isVar c') (evE Γ asg c') ρ2).bind fun (oc, ρ3) => (match gets ρ3 [ob, oc] with
        | some [y, z] => (match pr q [y, z] with
          | some (.shr (.bl r)) => R.ok (Sl.shr (.bl r), ρ3)
          | _ => .bad)
        | _ => .bad)
      | some (.shr (.bl false)) => R.ok (Sl.shr (.bl false), ρ2)
      | _ => .bad)
    | _ => .bad) F H σ ρ Q := g2
  split at g2
  · rename_i x' y' eg
    have m2 : ∀ q ∈ enOs [x, y] [oa, ob], q ∈ enO y ob ++ enO x oa := fun q hq => by
      rcases mem_enOs2 hq with h | h
      · exact List.mem_append_right _ h
      · exact List.mem_append_left _ h
    have er2 : ER F2 H2 ((enO y ob ++ enO x oa) ++ zp σ ρ2) := by rw [List.append_assoc]; exact rel2.er
    have bp := bpL_of er2 (fun p hp => List.mem_append_right _ hp) (fun p hp => List.mem_append_left _ (m2 p hp)) (σ := σ) (ρ := ρ2) (vs := [x, y]) (os := [oa, ob]) ⟨ok1, ok2, trivial⟩ eg
    split at g2
    · rename_i ep
      refine ⟨F2, [x', y'], _, er2.le, bp, ep, fun v F' H' n => ?_⟩
      have er' : ER F2 H2 (enO y ob ++ zp σ ρ2) := er2.sub (List.Sublist.append_right (List.sublist_append_left _ _) _)
      have hk := n.en
      obtain ⟨u, e4, rp⟩ := hk
      cases e4
      cases rp
      refine ⟨true, rfl, ?_⟩
      rw [if_pos rfl]
      have rel3 : Rel F H (zp σ ρ) F' H' (enO y ob ++ zp σ ρ2) := ((rel2.subR (by
        exact List.Sublist.append_left (List.sublist_append_right _ _) _)).trans (n.rel er')).tail
      refine step (f := fun (oc, ρ3) => (match gets ρ3 [ob, oc] with
        | some [y, z] => (match pr q [y, z] with
          | some (.shr (.bl r)) => R.ok (Sl.shr (.bl r), ρ3)
          | _ => .bad)
        | _ => .bad)) rel3 hl2 g2 fun w oc ρ3 F3 H3 e3 hl3 ok3 rel4 g3 => ?_
      have g3 : gR W enE okE (match gets ρ3 [ob, oc] with
        | some [y, z] => (match pr q [y, z] with
          | some (.shr (.bl r)) => R.ok (Sl.shr (.bl r), ρ3)
          | _ => .bad)
        | _ => .bad) F H σ ρ Q := g3
      split at g3
      · rename_i y2 z2 eg2
        have m3 : ∀ q ∈ enOs [y, w] [ob, oc], q ∈ enO w oc ++ enO y ob := fun q hq => by
          rcases mem_enOs2 hq with h | h
          · exact List.mem_append_right _ h
          · exact List.mem_append_left _ h
        have er3 : ER F3 H3 ((enO w oc ++ enO y ob) ++ zp σ ρ3) := by rw [List.append_assoc]; exact rel4.er
        have bp3 := bpL_of er3 (fun p hp => List.mem_append_right _ hp) (fun p hp => List.mem_append_left _ (m3 p hp)) (σ := σ) (ρ := ρ3) (vs := [y, w]) (os := [ob, oc]) ⟨ok2, ok3, trivial⟩ eg2
        split at g3
        · rename_i rr eq
          refine ⟨F3, [y2, z2], _, er3.le, bp3, eq, fun v F' H' n => ?_⟩
          have er' : ER F3 H3 (zp σ ρ3) := er3.sub (List.sublist_append_right _ _)
          exact gR_ok g3 hl3 trivial ((rel4.subR (by rw [← List.append_assoc]; exact List.sublist_append_right _ _)).trans (n.rel er'))
        · exact g3.elim
      · exact g3.elim
    · rename_i ep
      refine ⟨F2, [x', y'], _, er2.le, bp, ep, fun v F' H' n => ?_⟩
      have er' : ER F2 H2 (zp σ ρ2) := er2.sub (List.sublist_append_right _ _)
      have hk := n.en
      obtain ⟨u, e4, rp⟩ := hk
      cases e4
      cases rp
      refine ⟨false, rfl, ?_⟩
      rw [if_neg (by simp)]
      exact gR_ok g2 hl2 trivial ((rel2.subR (by rw [← List.append_assoc]; exact List.sublist_append_right _ _)).trans (n.rel er'))
    · exact g2.elim
  · exact g2.elim
theorem pe_chain2 {p q : Pr} {op op' : CmpOp} (ho : OpR X (compareOp op) (rD2 (pr p))) (ho' : OpR X (compareOp op') (rD2 (pr q))) (ha : PE X a (tO W (opd (isVar a') (evE Γ asg a')))) (hb : PE X b (tO W (opd (isVar b') (evE Γ asg b'))))
    (hc : PE X c (tO W (opd (isVar c') (evE Γ asg c')))) (hm : lastMarks [op, op'] [b, c] = false) : PE X (.Compare a [op, op'] [b, c] pos) (tE W (evE Γ asg (.chain p q a' b' c'))) :=
  pe_imp (pe_chain ho ho' ha hb hc hm) fun σ H Q z => chain_imp z
theorem pt_chain2 {p q : Pr} {op op' : CmpOp} (ho : OpR X (compareOp op) (rD2 (pr p))) (ho' : OpR X (compareOp op') (rD2 (pr q))) (ha : PE X a (tO W (opd (isVar a') (evE Γ asg a')))) (hb : PE X b (tO W (opd (isVar b') (evE Γ asg b'))))
    (hc : PE X c (tO W (opd (isVar c') (evE Γ asg c')))) (hm : lastMarks [op, op'] [b, c] = false) : PT X (.Compare a [op, op'] [b, c] pos) (tT W (tst (evE Γ asg (.chain p q a' b' c')))) :=
  pt_of (pt_chain ho ho' ha hb hc hm) fun σ H Q z => chain_imp z

/-! ### and, or, not, if -/
theorem and_imp {v : Env → R (Sl × Env)} {w : Env → R (Sl × Env)} {σ : St} {H : Hp} {Q : VK} (z : tE W (fun ρ => (tst v ρ).bind fun x => if x.1 then w x.2 else R.ok (Sl.shr (.bl false), x.2)) σ H Q) : tAndV (tE W v) (tE W w) σ H Q := by
  show tE W v σ H fun x H1 => ∃ c, x = .bl c ∧ if c = true then tE W w σ H1 Q else Q (.bl false) H1
  refine tst_val (step0 z fun F ρ hl er k k' ρ1 F1 H1 e1 hl1 ok1 rel1 g1 => ?_)
  have ok1 : k = k' := ok1
  subst ok1
  cases k with
  | true =>
    rw [if_pos rfl]
    exact tailG rel1 hl1 g1
  | false =>
    rw [if_neg (by simp)]
    exact gR_ok g1 hl1 trivial (rel1.shr (.bl _))
theorem or_imp {v : Env → R (Sl × Env)} {w : Env → R (Sl × Env)} {σ : St} {H : Hp} {Q : VK} (z : tE W (fun ρ => (tst v ρ).bind fun x => if x.1 then R.ok (Sl.shr (.bl true), x.2) else w x.2) σ H Q) : tOrV (tE W v) (tE W w) σ H Q := by
  show tE W v σ H fun x H1 => ∃ c, x = .bl c ∧ if c = true then Q (.bl true) H1 else tE W w σ H1 Q
  refine tst_val (step0 z fun F ρ hl er k k' ρ1 F1 H1 e1 hl1 ok1 rel1 g1 => ?_)
  have ok1 : k = k' := ok1
  subst ok1
  cases k with
  | true =>
    rw [if_pos rfl]
    exact gR_ok g1 hl1 trivial (rel1.shr (.bl _))
  | false =>
    rw [if_neg (by simp)]
    exact tailG rel1 hl1 g1
theorem pe_and2 {rest : List Expr} (ha : PE X a (tE W (evE Γ asg a'))) (hb : PE X (.BoolOp .And (b :: rest) pos) (tE W (evE Γ asg b'))) : PE X (.BoolOp .And (a :: b :: rest) pos) (tE W (evE Γ asg (.and2 a' b'))) :=
  pe_imp (pe_and ha hb) fun σ H Q z => and_imp z
theorem pe_or2 {rest : List Expr} (ha : PE X a (tE W (evE Γ asg a'))) (hb : PE X (.BoolOp .Or (b :: rest) pos) (tE W (evE Γ asg b'))) : PE X (.BoolOp .Or (a :: b :: rest) pos) (tE W (evE Γ asg (.or2 a' b'))) :=
  pe_imp (pe_or ha hb) fun σ H Q z => or_imp z
theorem pe_not2 (ha : PE X a (tE W (evE Γ asg a'))) : PE X (.UnaryOp .Not a pos) (tE W (evE Γ asg (.not a'))) := by
  refine pe_imp (pe_not ha) fun σ H Q z => ?_
  show tE W (evE Γ asg a') σ H fun x H1 => ∃ c, x = .bl c ∧ Q (.bl (!c)) H1
  refine tst_val (step0 (r := tst (evE Γ asg a')) (f := fun x => R.ok (Sl.shr (.bl (!x.1)), x.2)) z fun F ρ hl er k k' ρ1 F1 H1 e1 hl1 ok1 rel1 g1 => ?_)
  have ok1 : k = k' := ok1
  subst ok1
  exact gR_ok g1 hl1 trivial (rel1.shr (.bl _))
theorem pw_and2 {rest : List Expr} (ha : PT X a (tT W (evT Γ asg a'))) (hb : PW X (.BoolOp .And (b :: rest) pos) (tT W (evT Γ asg b'))) : PW X (.BoolOp .And (a :: b :: rest) pos) (tT W (evT Γ asg (.and2 a' b'))) := by
  refine pw_imp (pw_and ha hb) fun σ H Q z => ?_
  show tT W (evT Γ asg a') σ H fun c H1 => if c = true then tT W (evT Γ asg b') σ H1 Q else Q false H1
  refine step0 (r := evT Γ asg a') (f := fun x => if x.1 then evT Γ asg b' x.2 else R.ok (false, x.2)) z fun F ρ hl er k k' ρ1 F1 H1 e1 hl1 ok1 rel1 g1 => ?_
  have ok1 : k = k' := ok1
  subst ok1
  cases k with
  | true => rw [if_pos rfl]; exact tailG rel1 hl1 g1
  | false => rw [if_neg (by simp)]; exact gR_ok g1 hl1 rfl rel1
theorem pw_or2 {rest : List Expr} (ha : PT X a (tT W (evT Γ asg a'))) (hb : PW X (.BoolOp .Or (b :: rest) pos) (tT W (evT Γ asg b'))) : PW X (.BoolOp .Or (a :: b :: rest) pos) (tT W (evT Γ asg (.or2 a' b'))) := by
  refine pw_imp (pw_or ha hb) fun σ H Q z => ?_
  show tT W (evT Γ asg a') σ H fun c H1 => if c = true then Q true H1 else tT W (evT Γ asg b') σ H1 Q
  refine step0 (r := evT Γ asg a') (f := fun x => if x.1 then R.ok (true, x.2) else evT Γ asg b' x.2) z fun F ρ hl er k k' ρ1 F1 H1 e1 hl1 ok1 rel1 g1 => ?_
  have ok1 : k = k' := ok1
  subst ok1
  cases k with
  | true => rw [if_pos rfl]; exact gR_ok g1 hl1 rfl rel1
  | false => rw [if_neg (by simp)]; exact tailG rel1 hl1 g1
theorem pt_not2 (ha : PT X a (tT W (evT Γ asg a'))) : PT X (.UnaryOp .Not a pos) (tT W (evT Γ asg (.not a'))) := by
  refine pt_imp (pt_not ha) fun σ H Q z => ?_
  show tT W (evT Γ asg a') σ H fun c H1 => Q (!c) H1
  refine step0 (r := evT Γ asg a') (f := fun x => .ok (!x.1, x.2)) z fun F ρ hl er k k' ρ1 F1 H1 e1 hl1 ok1 rel1 g1 => ?_
  have ok1 : k = k' := ok1
  subst ok1
  exact gR_ok g1 hl1 rfl rel1
theorem pe_ifx2 (hc : PT X c (tT W (evT Γ asg c'))) (ha : PE X a (tE W (evE Γ asg a'))) (hb : PE X b (tE W (evE Γ asg b'))) : PE X (.IfExp c a b pos) (tE W (evE Γ asg (.ifx c' a' b'))) := by
  refine pe_imp (pe_ifExp hc ha hb) fun σ H Q z => ?_
  show tT W (evT Γ asg c') σ H fun c H1 => if c = true then tE W (evE Γ asg a') σ H1 Q else tE W (evE Γ asg b') σ H1 Q
  refine step0 (r := evT Γ asg c') (f := fun x => if x.1 then evE Γ asg a' x.2 else evE Γ asg b' x.2) z fun F ρ hl er k k' ρ1 F1 H1 e1 hl1 ok1 rel1 g1 => ?_
  have ok1 : k = k' := ok1
  subst ok1
  cases k with
  | true => rw [if_pos rfl]; exact tailG rel1 hl1 g1
  | false => rw [if_neg (by simp)]; exact tailG rel1 hl1 g1

/-! ### displays -/
theorem lim_size {n : Nat} (h : n < LIM) : n ≤ sizeLine := by
  rw [sizeLine_eq]
  have : LIM = 1000000 := by unfold LIM; rfl
  omega
theorem pe_tup2 {k : Nat} (h : PA X es (tL W (evL Γ asg r))) : PE X (.Tuple es k pos) (tE W (evE Γ asg (.tup r))) := by
  refine pe_imp (pe_tup h) fun σ H Q z => ?_
  show tL W (evL Γ asg r) σ H fun xs H1 => xs.length ≤ sizeLine ∧ ∀ p, H1 p = none → Q (.ref p) (upd H1 p (.tup xs))
  refine step0 (r := evL Γ asg r) (f := fun x => if x.1.length < LIM then R.ok (Sl.shr (.tup x.1), x.2) else .bad) z fun F ρ hl er vs ds ρ1 F1 H1 e1 hl1 ok1 rel1 g1 => ?_
  have ok1 : vs.length = ds.length := ok1
  have g1 : gR W enE okE (if ds.length < LIM then R.ok (Sl.shr (.tup ds), ρ1) else .bad) F H σ ρ Q := g1
  by_cases hd : ds.length < LIM
  · rw [if_pos hd] at g1
    refine ⟨lim_size (by omega), fun p hp => ?_⟩
    have er1 : ER F1 H1 (zp σ ρ1) := rel1.er.sub (List.sublist_append_right _ _)
    have rp := rpL_of rel1.er ok1 fun p hp => List.mem_append_left _ hp
    exact gR_ok g1 hl1 trivial ((rel1.subR (List.sublist_append_right _ _)).trans ((New.tup er1.le hp rp).rel er1))
  · rw [if_neg hd] at g1
    exact g1.elim
theorem pe_lst2 (h : PA X es (tL W (evL Γ asg r))) : PE X (.List es pos) (tE W (evE Γ asg (.lst r))) := by
  refine pe_imp (pe_lst h) fun σ H Q z => ?_
  show tL W (evL Γ asg r) σ H fun xs H1 => xs.length ≤ sizeLine ∧ ∀ p, H1 p = none → Q (.ref p) (upd H1 p (.lst xs))
  refine step0 (r := evL Γ asg r) (f := fun x => if x.1.length < LIM then R.ok (Sl.own (.lst x.1), x.2) else .bad) z fun F ρ hl er vs ds ρ1 F1 H1 e1 hl1 ok1 rel1 g1 => ?_
  have ok1 : vs.length = ds.length := ok1
  have g1 : gR W enE okE (if ds.length < LIM then R.ok (Sl.own (.lst ds), ρ1) else .bad) F H σ ρ Q := g1
  by_cases hd : ds.length < LIM
  · rw [if_pos hd] at g1
    refine ⟨lim_size (by omega), fun p hp => ?_⟩
    have er1 : ER F1 H1 (zp σ ρ1) := rel1.er.sub (List.sublist_append_right _ _)
    have rp := rpL_of rel1.er ok1 fun p hp => List.mem_append_left _ hp
    exact gR_ok g1 hl1 trivial ((rel1.subR (List.sublist_append_right _ _)).trans ((New.ownL er1.le hp rp).rel er1))
  · rw [if_neg hd] at g1
    exact g1.elim

/-! ### built-ins by name, methods of built-in types -/
theorem prs_imp {p : Pr} {σ : St} {H : Hp} {Q : VK} (z : tE W (evE Γ asg (.pr p r)) σ H Q) : tOs W (evO Γ asg r) σ H fun vs H1 => rD (pr p) vs H1 Q := by
  rw [ev_pr] at z
  refine step0 z fun F ρ hl er vs os ρ1 F1 H1 e1 hl1 ok1 rel1 g1 => ?_
  exact prim_end (g := pr p) (os := os) (G := enOs vs os) hl1 ok1 rel1 (fun q hq => hq) g1
theorem pe_blt {x : Str} {id : String} {p : Pr} {np : Pos} (hc : CallR X (.builtin id) (rD (pr p))) (hg : Gl X x) (hm : X.mg x = none) (hv : bootBuiltins x = some (.builtin id)) (ha : PA X (e :: es) (tOs W (evO Γ asg r)))
    (hn : x ≠ "__name__") (hdb : (x == ("__debug__" : Str)) = false) (he : starEach (e :: es) X.env = (false, eval e X.env) :: starEach es X.env) (hpl : (backTo pos (starEach es X.env)).any (·.1) = false) :
    PE X (.Call (.Name x np) (e :: es) [] pos) (tE W (evE Γ asg (.pr p r))) :=
  pe_imp (pe_callB hc hg hm hv ha hn hdb he hpl) fun σ H Q z => prs_imp z
theorem pe_blty {x : Str} {T : String} {p : Pr} {np : Pos} (hc : CallR X (.type T) (rD (pr p))) (hg : Gl X x) (hm : X.mg x = none) (hv : bootBuiltins x = some (.type T)) (ha : PA X (e :: es) (tOs W (evO Γ asg r)))
    (hn : x ≠ "__name__") (hdb : (x == ("__debug__" : Str)) = false) (he : starEach (e :: es) X.env = (false, eval e X.env) :: starEach es X.env) (hpl : (backTo pos (starEach es X.env)).any (·.1) = false) :
    PE X (.Call (.Name x np) (e :: es) [] pos) (tE W (evE Γ asg (.pr p r))) :=
  pe_imp (pe_callTy hc hg hm hv ha hn hdb he hpl) fun σ H Q z => prs_imp z
end
end Mx

end
section
set_option Elab.async false
set_option linter.all false
set_option maxRecDepth 100000
set_option maxHeartbeats 4000000
/-! MxE: calls, slots by places, targets, comprehensions. -/
namespace Mx
open PySem PySem.Spec L2
variable [CA]

/-! ### slots by places -/
theorem zp_range {σ : St} {ρ : Env} (h : ρ.length = σ.length) : zp σ ρ = (List.range σ.length).map fun i => (σ.getD i none, ρ.getD i .non) := by
  apply List.ext_getElem?
  intro i
  by_cases hi : i < σ.length
  · have h2 : i < ρ.length := by omega
    simp [zp, List.getElem?_map, List.getElem?_range hi, List.getD_eq_getElem?_getD, hi, h2, List.getElem?_zip_eq_some]
  · have h2 : ¬ i < ρ.length := by omega
    rw [List.getElem?_eq_none (by simp [zp]; omega), List.getElem?_eq_none (by simp; omega)]
/-- the entries of the places that are not in vs -/
def restOf (σ : St) (ρ : Env) (vs : List Nat) : Lt := ((List.range σ.length).filter fun i => !vs.contains i).map fun i => (σ.getD i none, ρ.getD i .non)
def hereOf (σ : St) (ρ : Env) (vs : List Nat) : Lt := ((List.range σ.length).filter fun i => vs.contains i).map fun i => (σ.getD i none, ρ.getD i .non)
theorem zp_parts {σ : St} {ρ : Env} (h : ρ.length = σ.length) (vs : List Nat) : (zp σ ρ).Perm (hereOf σ ρ vs ++ restOf σ ρ vs) := by
  rw [zp_range h, hereOf, restOf, ← List.map_append]
  exact (List.filter_append_perm (fun i => vs.contains i) (List.range σ.length)).symm.map _
theorem restOf_congr {σ σ' : St} {ρ ρ' : Env} {vs : List Nat} (hl : σ'.length = σ.length) (h : ∀ i, i ∉ vs → σ'.getD i none = σ.getD i none ∧ ρ'.getD i .non = ρ.getD i .non) : restOf σ' ρ' vs = restOf σ ρ vs := by
  unfold restOf
  rw [hl]
  apply List.map_congr_left
  intro i hi
  have : i ∉ vs := by simpa using (List.mem_filter.mp hi).2
  obtain ⟨a, b⟩ := h i this
  rw [a, b]
theorem hereOf_congr {σ σ' : St} {ρ ρ' : Env} {vs : List Nat} (hl : σ'.length = σ.length) (h : ∀ i, i ∈ vs → σ'.getD i none = σ.getD i none ∧ ρ'.getD i .non = ρ.getD i .non) : hereOf σ' ρ' vs = hereOf σ ρ vs := by
  unfold hereOf
  rw [hl]
  apply List.map_congr_left
  intro i hi
  have : i ∈ vs := by simpa using (List.mem_filter.mp hi).2
  obtain ⟨a, b⟩ := h i this
  rw [a, b]
theorem wipe_get {σ : St} {i : Nat} : ∀ {vs : List Nat}, (wipe σ vs).getD i none = if i ∈ vs then none else σ.getD i none
  | [] => by simp [wipe]
  | v :: vs => by
    have ih := @wipe_get σ i vs
    unfold wipe
    by_cases h : v = i
    · subst h
      simp only [List.mem_cons, true_or, if_true]
      by_cases hv : v < (wipe σ vs).length
      · simp [List.getD_eq_getElem?_getD, List.getElem?_set_self hv]
      · simp [List.getD_eq_getElem?_getD, List.getElem?_eq_none (show ((wipe σ vs).set v none).length ≤ v by simpa using hv)]
    · rw [List.getD_eq_getElem?_getD, List.getElem?_set_ne h, ← List.getD_eq_getElem?_getD, ih]
      have : (i ∈ v :: vs) ↔ i ∈ vs := ⟨fun z => (List.mem_cons.mp z).resolve_left fun e => h e.symm, List.mem_cons_of_mem _⟩
      simp [this]
theorem wipeE_len {ρ : Env} : ∀ vs : List Nat, (wipeE ρ vs).length = ρ.length
  | [] => rfl
  | v :: vs => by unfold wipeE; rw [List.length_set, wipeE_len vs]
theorem wipeE_get {ρ : Env} {i : Nat} : ∀ {vs : List Nat}, (wipeE ρ vs).getD i .non = if i ∈ vs then .non else ρ.getD i .non
  | [] => by simp [wipeE]
  | v :: vs => by
    have ih := @wipeE_get ρ i vs
    unfold wipeE
    by_cases h : v = i
    · subst h
      simp only [List.mem_cons, true_or, if_true]
      by_cases hv : v < (wipeE ρ vs).length
      · simp [List.getD_eq_getElem?_getD, List.getElem?_set_self hv]
      · simp [List.getD_eq_getElem?_getD, List.getElem?_eq_none (show ((wipeE ρ vs).set v .non).length ≤ v by simpa using hv)]
    · rw [List.getD_eq_getElem?_getD, List.getElem?_set_ne h, ← List.getD_eq_getElem?_getD, ih]
      have : (i ∈ v :: vs) ↔ i ∈ vs := ⟨fun z => (List.mem_cons.mp z).resolve_left fun e => h e.symm, List.mem_cons_of_mem _⟩
      simp [this]
theorem unwipe_len {ρ0 ρ : Env} : ∀ vs : List Nat, (unwipe ρ0 vs ρ).length = ρ.length
  | [] => rfl
  | v :: vs => by unfold unwipe; rw [List.length_set, unwipe_len vs]
theorem unwipe_get {ρ0 ρ : Env} (hl : ρ0.length = ρ.length) {i : Nat} : ∀ {vs : List Nat}, (unwipe ρ0 vs ρ).getD i .non = if i ∈ vs then ρ0.getD i .non else ρ.getD i .non
  | [] => by simp [unwipe]
  | v :: vs => by
    have ih := @unwipe_get ρ0 ρ hl i vs
    unfold unwipe
    by_cases h : v = i
    · subst h
      simp only [List.mem_cons, true_or, if_true]
      by_cases hv : v < (unwipe ρ0 vs ρ).length
      · simp [List.getD_eq_getElem?_getD, List.getElem?_set_self hv]
      · have h2 : ρ0.length ≤ v := by rw [unwipe_len] at hv; omega
        simp [List.getD_eq_getElem?_getD, List.getElem?_eq_none (show ((unwipe ρ0 vs ρ).set v _).length ≤ v by simpa using hv), List.getElem?_eq_none h2]
    · rw [List.getD_eq_getElem?_getD, List.getElem?_set_ne h, ← List.getD_eq_getElem?_getD, ih]
      have : (i ∈ v :: vs) ↔ i ∈ vs := ⟨fun z => (List.mem_cons.mp z).resolve_left fun e => h e.symm, List.mem_cons_of_mem _⟩
      simp [this]
/-- entries of which nothing is known may stand anywhere -/
theorem Rel.nons {F H F' H' : Hp} {L L' : Lt} (h : Rel F H L F' H' L') : ∀ {N : Lt}, (∀ p ∈ N, p.2 = .non) → Rel F H L F' H' (N ++ L')
  | [], _ => h
  | (v, s) :: N, z => by
    have e : s = .non := z _ List.mem_cons_self
    subst e
    exact (Rel.nons h fun p hp => z p (List.mem_cons_of_mem _ hp)).non
theorem here_wiped {σ : St} {ρ : Env} {vs : List Nat} : ∀ p ∈ hereOf (wipe σ vs) (wipeE ρ vs) vs, p.2 = Sl.non := fun p hp => by
  obtain ⟨i, hi, rfl⟩ := List.mem_map.mp hp
  have : i ∈ vs := by simpa using (List.mem_filter.mp hi).2
  show (wipeE ρ vs).getD i .non = .non
  rw [wipeE_get, if_pos this]
theorem rest_wiped {σ : St} {ρ : Env} {vs : List Nat} : restOf (wipe σ vs) (wipeE ρ vs) vs = restOf σ ρ vs :=
  restOf_congr (wipe_length σ vs) fun i hi => ⟨by rw [wipe_get, if_neg hi], by rw [wipeE_get, if_neg hi]⟩
/-- into a block: its own names are forgotten -/
theorem Rel.wiped {F H F' H' : Hp} {L G : Lt} {σ : St} {ρ : Env} {vs : List Nat} (hl : ρ.length = σ.length) (h : Rel F H L F' H' (G ++ restOf σ ρ vs)) : Rel F H L F' H' (G ++ zp (wipe σ vs) (wipeE ρ vs)) := by
  have p := zp_parts (σ := wipe σ vs) (ρ := wipeE ρ vs) (by rw [wipeE_len, wipe_length]; exact hl) vs
  rw [rest_wiped] at p
  refine (((h.nons (N := hereOf (wipe σ vs) (wipeE ρ vs) vs) here_wiped).permR ?_).permR (p.symm.append_left G))
  rw [← List.append_assoc, ← List.append_assoc]
  exact List.perm_append_comm.append_right _

/-! ### calls -/
abbrev ent (vs : List V) (sls : List Sl) : Lt := (vs.map some).zip sls
/-- what a def of the table promises -/
def spF (ca : Str → Addr) (Γ : Tab) (f np : Nat) : Sp := fun vs H Q E => vs.length = np ∧ ∃ F sls, sls.length = vs.length ∧ ER F H (ent vs sls) ∧ match Γ f sls with
  | .ok s outs => ∀ u F' H', outs.length = vs.length → Rel F H (ent vs sls) F' H' ((some u, s) :: ent vs outs) → Q u H'
  | .exc c outs => ∀ F' H', outs.length = vs.length → Rel F H (ent vs sls) F' H' (ent vs outs) → E (.ref (ca c)) none H'
  | .bad => False
theorem backA_len : ∀ {as : List Ar} {outs : List Sl} {ρ ρ' : Env}, backA as outs ρ = some ρ' → ρ'.length = ρ.length
  | [], [], _, _, h => by cases h; rfl
  | .val _ :: r, _ :: os, ρ, ρ', h => backA_len (as := r) (outs := os) h
  | .mov i _ :: r, .own d :: os, ρ, ρ', h => by
    have := backA_len (as := r) (outs := os) (ρ := ρ.set i (.own d)) h
    rw [this, List.length_set]
  | .mov i _ :: r, .shr d :: os, ρ, ρ', h => by
    have := backA_len (as := r) (outs := os) (ρ := ρ.set i (.shr d)) h
    rw [this, List.length_set]
  | .mov _ _ :: _, .non :: _, _, _, h => by cases h
  | .mov _ _ :: _, [], _, _, h => by cases h
  | .val _ :: _, [], _, _, h => by cases h
  | [], _ :: _, _, _, h => by cases h
theorem back_rel {F H F' H' : Hp} {L G : Lt} {σ : St} : ∀ {as : List Ar} {vs : List V} {outs : List Sl} {ρ ρ' : Env}, backA as outs ρ = some ρ' → ρ.length = σ.length → okAs σ vs as →
    Rel F H L F' H' (G ++ (ent vs outs ++ zp σ ρ)) → Rel F H L F' H' (G ++ zp σ ρ')
  | [], [], [], _, _, h, _, _, r => by cases h; exact r
  | [], _ :: _, [], _, _, h, _, ok, _ => ok.elim
  | [], _, _ :: _, _, _, h, _, _, _ => by cases h
  | _ :: _, [], _, _, _, _, _, ok, _ => ok.elim
  | .val _ :: as, v :: vs, o :: os, ρ, ρ', h, hl, ok, r => by
    refine back_rel (as := as) (vs := vs) (outs := os) h hl ok.2 (r.subR ?_)
    exact List.Sublist.append_left (List.sublist_cons_self _ _) _
  | .val _ :: as, v :: vs, [], ρ, ρ', h, hl, ok, r => by cases h
  | .mov i d0 :: as, v :: vs, [], ρ, ρ', h, hl, ok, r => by cases h
  | .mov i d0 :: as, v :: vs, .non :: os, ρ, ρ', h, hl, ok, r => by cases h
  | .mov i d0 :: as, v :: vs, .own d :: os, ρ, ρ', h, hl, ok, r => by
    have o1 : σ[i]? = some (some v) := ok.1
    have hi : i < ρ.length := by rw [hl]; exact (List.getElem?_eq_some_iff.mp o1).1
    obtain ⟨R, p, q, _⟩ := zp_split1 o1 (List.getElem?_eq_getElem hi)
    refine back_rel (as := as) (vs := vs) (outs := os) (ρ := ρ.set i (.own d)) h (by rw [List.length_set]; exact hl) ok.2 ?_
    refine (((r.permR (List.Perm.append_left G (List.Perm.append_left (ent (v :: vs) (.own d :: os)) p))).subR (L2 := G ++ (ent (v :: vs) (.own d :: os) ++ R)) ?_).permR (List.Perm.append_left G ?_))
    · exact List.Sublist.append_left (List.Sublist.append_left (List.sublist_cons_self _ _) _) _
    · show ((some v, Sl.own d) :: (ent vs os ++ R)).Perm (ent vs os ++ zp σ (ρ.set i (.own d)))
      exact (List.perm_middle.symm).trans (List.Perm.append_left _ (q _).symm)
  | .mov i d0 :: as, v :: vs, .shr d :: os, ρ, ρ', h, hl, ok, r => by
    have o1 : σ[i]? = some (some v) := ok.1
    have hi : i < ρ.length := by rw [hl]; exact (List.getElem?_eq_some_iff.mp o1).1
    obtain ⟨R, p, q, _⟩ := zp_split1 o1 (List.getElem?_eq_getElem hi)
    refine back_rel (as := as) (vs := vs) (outs := os) (ρ := ρ.set i (.shr d)) h (by rw [List.length_set]; exact hl) ok.2 ?_
    refine (((r.permR (List.Perm.append_left G (List.Perm.append_left (ent (v :: vs) (.shr d :: os)) p))).subR (L2 := G ++ (ent (v :: vs) (.shr d :: os) ++ R)) ?_).permR (List.Perm.append_left G ?_))
    · exact List.Sublist.append_left (List.Sublist.append_left (List.sublist_cons_self _ _) _) _
    · show ((some v, Sl.shr d) :: (ent vs os ++ R)).Perm (ent vs os ++ zp σ (ρ.set i (.shr d)))
      exact (List.perm_middle.symm).trans (List.Perm.append_left _ (q _).symm)
theorem enAs_ent {σ : St} : ∀ {vs : List V} {as : List Ar}, okAs σ vs as → enAs vs as = ent vs (as.map Ar.sl) ∧ vs.length = as.length
  | [], [], _ => ⟨rfl, rfl⟩
  | [], _ :: _, h => h.elim
  | _ :: _, [], h => h.elim
  | v :: vs, a :: as, h => by
    obtain ⟨e, l⟩ := enAs_ent (vs := vs) (as := as) h.2
    refine ⟨?_, by simp [l]⟩
    show (some v, a.sl) :: enAs vs as = (some v, a.sl) :: ent vs (as.map Ar.sl)
    rw [e]

section
variable {Γ : Tab} {asg : Nat → List Bool} {X : Cx} {W : WE} {a b c e : Expr} {a' b' c' e' : E} {pos : Pos} {es : List Expr} {r : E}
/-- one argument of a call -/
theorem pe_arg {v : Env → R (Sl × Env)} {x : Option Nat} {bb : Bool} (ho : PE X a (tO W (opd x v))) (h : PE X a (tE W v)) : PE X a (tO W (arg x bb v)) := by
  cases bb with
  | true =>
    refine pe_imp (pe_kep h) fun σ H Q z => ?_
    refine step0 (r := kep v) (f := fun x => R.ok (Opd.val x.1, x.2)) z fun F ρ hl er u d ρ1 F1 H1 e1 hl1 ok1 rel1 g1 => ?_
    exact gR_ok g1 hl1 trivial rel1
  | false => exact ho
theorem pa_as_nil : PA X [] (tOs W (evA Γ asg .nil [])) := by
  refine pa_imp pa_nil fun σ H Q z => ?_
  obtain ⟨F, ρ, hl, er, g⟩ := z
  exact gR_ok g (b := []) hl trivial (Rel.refl er)
theorem pa_as_cons {bb : Bool} {bs : List Bool} (ha : PE X a (tO W (arg (isVar e') bb (evE Γ asg e')))) (hr : PA X es (tOs W (evA Γ asg r bs))) (hs : starEach (a :: es) X.env = (false, eval a X.env) :: starEach es X.env) :
    PA X (a :: es) (tOs W (evA Γ asg (.cons e' r) (bb :: bs))) := by
  refine pa_imp (pa_cons ha hr hs) fun σ H Q z => ?_
  refine step0 (r := arg (isVar e') bb (evE Γ asg e')) (f := fun x => (evA Γ asg r bs x.2).bind fun y => R.ok (x.1 :: y.1, y.2)) z fun F ρ hl er v o ρ1 F1 H1 e1 hl1 ok1 rel1 g1 => ?_
  refine step (r := evA Γ asg r bs) (f := fun y => R.ok (o :: y.1, y.2)) rel1 hl1 g1 fun vs os ρ2 F2 H2 e2 hl2 ok2 rel2 g2 => ?_
  refine gR_ok g2 (b := v :: vs) hl2 ⟨ok1, ok2⟩ (rel2.permR ?_)
  show (enOs vs os ++ (enO v o ++ zp σ ρ2)).Perm ((enO v o ++ enOs vs os) ++ zp σ ρ2)
  rw [← List.append_assoc]
  exact List.perm_append_comm.append_right _
theorem take_rel {F0 H0 F H : Hp} {L0 : Lt} {σ : St} : ∀ {os : List Opd} {vs : List V} {ρ ρ' : Env} {as : List Ar} {G : Lt}, takeA os ρ = some (as, ρ') → ρ.length = σ.length → okOs σ vs os → Rel F0 H0 L0 F H (G ++ (enOs vs os ++ zp σ ρ)) →
    okAs σ vs as ∧ ρ'.length = σ.length ∧ as.length = os.length ∧ Rel F0 H0 L0 F H (G ++ (enAs vs as ++ zp σ ρ'))
  | [], [], ρ, ρ', as, G, h, hl, ok, x => by
    have h : some ([], ρ) = some (as, ρ') := h
    cases h
    exact ⟨trivial, hl, rfl, x⟩
  | [], _ :: _, _, _, _, _, _, _, ok, _ => ok.elim
  | _ :: _, [], _, _, _, _, _, _, ok, _ => ok.elim
  | .val d :: os, v :: vs, ρ, ρ', as, G, h, hl, ok, x => by
    have h : (takeA os ρ).map (fun y => (Ar.val (.shr d) :: y.1, y.2)) = some (as, ρ') := h
    cases q : takeA os ρ with
    | none => rw [q] at h; cases h
    | some y =>
      obtain ⟨as', ρ1⟩ := y
      rw [q] at h
      cases h
      have x2 : Rel F0 H0 L0 F H ((G ++ [(some v, .shr d)]) ++ (enOs vs os ++ zp σ ρ)) := by
        rw [List.append_assoc]; exact x
      obtain ⟨o1, o2, o3, o4⟩ := take_rel q hl ok.2 x2
      refine ⟨⟨trivial, o1⟩, o2, by simp [o3], ?_⟩
      rw [List.append_assoc] at o4
      exact o4
  | .bor i :: os, v :: vs, ρ, ρ', as, G, h, hl, ok, x => by
    have o1 : σ[i]? = some (some v) := ok.1
    have x0 : Rel F0 H0 L0 F H (G ++ (enOs vs os ++ zp σ ρ)) := x
    unfold takeA at h
    split at h
    · rename_i d ed
      cases q : takeA os (ρ.set i .non) with
      | none => rw [q] at h; cases h
      | some y =>
        obtain ⟨as', ρ1⟩ := y
        rw [q] at h
        cases h
        obtain ⟨R, p, qq, _⟩ := zp_split1 o1 ed
        have r1 : Rel F0 H0 L0 F H ((some v, Sl.own d) :: (G ++ (enOs vs os ++ R))) := x0.permR ((List.Perm.append_left G (List.Perm.append_left _ p)).trans ((List.Perm.append_left G List.perm_middle).trans List.perm_middle))
        have r2 : Rel F0 H0 L0 F H ((G ++ [(some v, Sl.own d)]) ++ (enOs vs os ++ zp σ (ρ.set i .non))) := (r1.non (v := some v)).permR (by
          have e1 : ((some v, Sl.non) :: (some v, Sl.own d) :: (G ++ (enOs vs os ++ R))).Perm ((some v, Sl.own d) :: (G ++ (enOs vs os ++ ((some v, Sl.non) :: R)))) :=
            (List.Perm.swap _ _ _).trans (List.Perm.cons _ ((List.perm_middle.symm).trans (List.Perm.append_left G List.perm_middle.symm)))
          have e2 : (enOs vs os ++ ((some v, Sl.non) :: R)).Perm (enOs vs os ++ zp σ (ρ.set i .non)) := List.Perm.append_left _ (qq .non).symm
          have e3 := (List.Perm.append_left G e2).cons (some v, Sl.own d)
          refine (e1.trans e3).trans ?_
          rw [List.append_assoc]
          exact List.perm_middle.symm)
        obtain ⟨t1, t2, t3, t4⟩ := take_rel q (by rw [List.length_set]; exact hl) ok.2 r2
        refine ⟨⟨o1, t1⟩, t2, by simp [t3], ?_⟩
        rw [List.append_assoc] at t4
        exact t4
    · rename_i d ed
      cases q : takeA os ρ with
      | none => rw [q] at h; cases h
      | some y =>
        obtain ⟨as', ρ1⟩ := y
        rw [q] at h
        cases h
        obtain ⟨R, p, qq, _⟩ := zp_split1 o1 ed
        have w := x0.er.each (some v, .shr d) (List.mem_append_right _ (List.mem_append_right _ (p.mem_iff.mpr List.mem_cons_self)))
        obtain ⟨u, eu, rp⟩ := w
        have eu : some v = some u := eu
        cases eu
        have r2 : Rel F0 H0 L0 F H ((G ++ [(some v, Sl.shr d)]) ++ (enOs vs os ++ zp σ ρ)) := (x0.shr rp).permR (by
          rw [List.append_assoc]
          exact List.perm_middle.symm)
        obtain ⟨t1, t2, t3, t4⟩ := take_rel q hl ok.2 r2
        refine ⟨⟨trivial, t1⟩, t2, by simp [t3], ?_⟩
        rw [List.append_assoc] at t4
        exact t4
    · cases h
/-- the wishes by names, as the layer has them -/
def wX (ca : Str → Addr) (W : WE) : WX := fun cls d σ H => ∃ c, cls = .ref (ca c) ∧ d = none ∧ W c σ H
theorem evA_len : ∀ {r : E} {bs : List Bool} {ρ : Env} {as : List Opd} {ρ' : Env}, evA Γ asg r bs ρ = .ok (as, ρ') → as.length = bs.length := by
  intro r
  induction r with
  | nil =>
    intro bs ρ as ρ' h
    cases bs with
    | nil => cases h; rfl
    | cons b bs => cases h
  | cons a r _ ih =>
    intro bs ρ as ρ' h
    cases bs with
    | nil => cases h
    | cons b bs =>
      have h : ((arg (isVar a) b (evE Γ asg a) ρ).bind fun x => (evA Γ asg r bs x.2).bind fun y => R.ok (x.1 :: y.1, y.2)) = .ok (as, ρ') := h
      cases e1 : arg (isVar a) b (evE Γ asg a) ρ with
      | bad => rw [e1] at h; cases h
      | exc c o => rw [e1] at h; cases h
      | ok x =>
        rw [e1] at h
        have h : ((evA Γ asg r bs x.2).bind fun y => R.ok (x.1 :: y.1, y.2)) = .ok (as, ρ') := h
        cases e2 : evA Γ asg r bs x.2 with
        | bad => rw [e2] at h; cases h
        | exc c o => rw [e2] at h; cases h
        | ok y =>
          rw [e2] at h
          have h : R.ok (x.1 :: y.1, y.2) = .ok (as, ρ') := h
          cases h
          have := ih (bs := bs) (ρ := x.2) (as := y.1) (ρ' := y.2) e2
          simp [this]
  | _ => intro bs ρ as ρ' h; cases h
theorem call_imp {ca : Str → Addr} {f : Nat} {σ : St} {H : Hp} {Q : VK} {E : St → XK} {np : Nat} (hn : (asg f).length = np)
    (hE : ∀ c σ H, W c σ H → E σ (.ref (ca c)) none H) (z : tE W (evE Γ asg (.call f r)) σ H Q) : tOs W (evA Γ asg r (asg f)) σ H fun vs H1 => spF ca Γ f np vs H1 Q (E σ) := by
  refine step0 (r := evA Γ asg r (asg f)) (f := fun x => match takeA x.1 x.2 with
    | some (as, ρ1) => (match Γ f (as.map Ar.sl) with
      | .ok v outs => (match backA as outs ρ1 with
        | some ρ2 => R.ok (v, ρ2)
        | none => .bad)
      | .exc c outs => (match backA as outs ρ1 with
        | some ρ2 => .exc c ρ2
        | none => .bad)
      | .bad => .bad)
    | none => .bad) z fun F ρ hl er vs os ρ0 F1 H1 e1 hl0 ok0 rel0 g1 => ?_
  dsimp only at g1
  cases et : takeA os ρ0 with
  | none => rw [et] at g1; exact g1.elim
  | some y =>
  obtain ⟨as, ρ1⟩ := y
  rw [et] at g1
  dsimp only at g1
  obtain ⟨ok1, hl1, hlen, rel1⟩ := take_rel (G := []) et hl0 ok0 rel0
  have rel1 : Rel F H (zp σ ρ) F1 H1 (enAs vs as ++ zp σ ρ1) := rel1
  obtain ⟨ee, el⟩ := enAs_ent ok1
  rw [ee] at rel1
  have er1 := rel1.er
  refine ⟨by rw [el, hlen, evA_len e1, hn], F1, as.map Ar.sl, by rw [List.length_map, el], er1.sub (List.sublist_append_left _ _), ?_⟩
  cases eg : Γ f (as.map Ar.sl) with
  | bad => rw [eg] at g1; exact g1.elim
  | ok s outs =>
    rw [eg] at g1
    dsimp only at g1
    intro u F' H' hol rel2
    cases eb : backA as outs ρ1 with
    | none => rw [eb] at g1; exact g1.elim
    | some ρ2 =>
      rw [eb] at g1
      have rel3 := rel1.trans (rel2.frame er1)
      exact gR_ok g1 (by rw [backA_len eb]; exact hl1) trivial (back_rel (G := [(some u, s)]) eb hl1 ok1 rel3)
  | exc c outs =>
    rw [eg] at g1
    dsimp only at g1
    intro F' H' hol rel2
    cases eb : backA as outs ρ1 with
    | none => rw [eb] at g1; exact g1.elim
    | some ρ2 =>
      rw [eb] at g1
      have rel3 := rel1.trans (rel2.frame er1)
      exact hE c σ H' (g1 F' H' (by rw [backA_len eb]; exact hl1) (back_rel (G := []) eb hl1 ok1 rel3))
/-- a call of a def of the table -/
theorem pe_call2 {ca : Str → Addr} {CX : CXT} {k np f : Nat} {fa : Addr} {fd : FuncData} {ps : List Str} {x : Str} {p : Pos} {E : St → XK} (F : FnOk X.prog X.w X.K X.mg X.base CX k fa fd ps (spF ca Γ f np)) (hr : Room k X.A) (hg : Gl X x) (hm : X.mg x = some (.ref fa))
    (hk : PySem.W.keepIn X.K (.ref fa) = true) (hb : Binds X.K fd ps []) (hx : ∀ σ, PassesAt CX X σ (E σ)) (hn : (asg f).length = np) (hE : ∀ c σ H, W c σ H → E σ (.ref (ca c)) none H) (ha : PA X (e :: es) (tOs W (evA Γ asg r (asg f))))
    (hdb : (x == ("__debug__" : Str)) = false) (he : starEach (e :: es) X.env = (false, eval e X.env) :: starEach es X.env) (hpl : (backTo pos (starEach es X.env)).any (·.1) = false) :
    PE X (.Call (.Name x p) (e :: es) [] pos) (tE W (evE Γ asg (.call f r))) :=
  pe_imp (pe_callS F hr hg hm hk hb hx ha hdb he hpl) fun σ H Q z => call_imp hn hE z
end
end Mx

end
section
set_option Elab.async false
set_option linter.all false
set_option maxRecDepth 100000
set_option maxHeartbeats 4000000
/-! MxF: targets, comprehensions. -/
namespace Mx
open PySem PySem.Spec L2
variable [CA]

/-- an own thing is changed -/
theorem Rel.upd {F0 H0 F H : Hp} {L0 L : Lt} {p : Addr} {d d' : D} {o : HO} (h : Rel F0 H0 L0 F H ((some (.ref p), .own d) :: L)) (w : OwnAt F (upd H p o) p d') : Rel F0 H0 L0 F (L2.upd H p o) ((some (.ref p), .own d') :: L) := by
  have ow : isOwn (some (V.ref p), Sl.own d) p := ⟨rfl, d, rfl⟩
  have hp : H p ≠ none := h.er.own_some ⟨_, List.mem_cons_self, ow⟩
  have ap : ∀ q ∈ L, ∀ b, isOwn q b → b ≠ p := fun q hq b wq z => by
    subst z
    exact (List.pairwise_cons.mp h.er.inj).1 q hq b ow wq
  refine ⟨h.mono, fun a z => h.dom a ?_, fun a u e n => ?_, h.frz, fun a m => ?_, fun a u e => ?_, fun q hq => ?_, ?_⟩
  · by_cases ha : a = p
    · subst ha; rw [upd_same] at z; cases z
    · rw [upd_ne ha] at z; exact z
  · have ha : a ≠ p := fun z => by
      subst z
      rcases h.mine a ⟨_, List.mem_cons_self, ow⟩ with m | m
      · exact n m
      · rw [e] at m; cases m
    rw [upd_ne ha]; exact h.keep a u e n
  · rcases own_cons.mp m with ⟨e, _⟩ | m
    · exact h.mine a (own_cons.mpr (.inl ⟨e, d, rfl⟩))
    · exact h.mine a (own_cons.mpr (.inr m))
  · have ha : a ≠ p := fun z => by subst z; rw [w.1] at e; cases e
    rw [upd_ne ha]; exact h.er.le a u e
  · rcases List.mem_cons.mp hq with rfl | hq
    · exact ⟨p, rfl, w⟩
    · have z := h.er.each q (List.mem_cons_of_mem _ hq)
      unfold EntR at z ⊢
      cases e : q.2 with
      | non => trivial
      | shr d' => rw [e] at z; exact z
      | own d' =>
        rw [e] at z
        obtain ⟨b, e1, r⟩ := z
        have hb : b ≠ p := ap q hq b ⟨e1, d', e⟩
        exact ⟨b, e1, OwnAt.stay r .refl r.1 fun o h => by rw [upd_ne hb]; exact h⟩
  · refine List.pairwise_cons.mpr ⟨fun q hq b w1 w2 => ?_, (List.pairwise_cons.mp h.er.inj).2⟩
    obtain ⟨e, _⟩ := w1
    cases e
    exact ap q hq _ w2 rfl

/-! ### targets -/
def T.slots : T → List Nat
  | .nm i => [i]
  | .tp ts => ts.slots
  | .nil => []
  | .cons a r => a.slots ++ r.slots
def Same (ws : List Nat) (σ σ' : St) : Prop := ∀ i, i ∉ ws → σ'[i]? = σ[i]?
theorem Same.refl {ws : List Nat} {σ : St} : Same ws σ σ := fun _ _ => rfl
theorem Same.trans {ws us : List Nat} {σ σ' σ'' : St} (h : Same ws σ σ') (k : Same us σ' σ'') : Same (ws ++ us) σ σ'' := fun i hi => by
  rw [k i (fun z => hi (List.mem_append_right _ z)), h i (fun z => hi (List.mem_append_left _ z))]
theorem Same.mono {ws us : List Nat} {σ σ' : St} (h : Same ws σ σ') (k : ∀ i ∈ ws, i ∈ us) : Same us σ σ' := fun i hi => h i fun z => hi (k i z)
def gT (t : T) : TG := fun v σ H Q => ∃ F d ρ ρ', ρ.length = σ.length ∧ ER F H (zp σ ρ) ∧ Rp F v d ∧ setT t d ρ = some ρ' ∧
  ∀ σ', σ'.length = σ.length → ρ'.length = σ'.length → Same t.slots σ σ' → Rel F H (zp σ ρ) F H (zp σ' ρ') → Q σ' H
def gTs (t : T) : TGs := fun vs σ H Q => ∃ F ds ρ ρ', ρ.length = σ.length ∧ ER F H (zp σ ρ) ∧ RpL F vs ds ∧ setT.setTs t ds ρ = some ρ' ∧
  ∀ σ', σ'.length = σ.length → ρ'.length = σ'.length → Same t.slots σ σ' → Rel F H (zp σ ρ) F H (zp σ' ρ') → Q σ' H
theorem pg_imp {X : Cx} {e : Expr} {t t' : TG} (h : PG X e t) (k : ∀ v σ H Q, t' v σ H Q → t v σ H Q) : PG X e t' := ⟨fun pins s σ H v u Q I r w => h.run pins s σ H v u Q I r (k v σ H Q w)⟩
theorem pgs_imp {X : Cx} {e : List Expr} {t t' : TGs} (h : PGs X e t) (k : ∀ v σ H Q, t' v σ H Q → t v σ H Q) : PGs X e t' := ⟨fun pins s σ H v u Q I r w => h.run pins s σ H v u Q I r (k v σ H Q w)⟩
theorem pg_or {X : Cx} {e : Expr} {t t' : TG} (h : PG X e t) (h' : PG X e t') : PG X e (fun v σ H Q => t v σ H Q ∨ t' v σ H Q) := ⟨fun pins s σ H v u Q I r w => w.elim (h.run pins s σ H v u Q I r) (h'.run pins s σ H v u Q I r)⟩
/-- a slot is bound -/
theorem set_rel {F0 H0 F H : Hp} {L0 : Lt} {σ : St} {ρ : Env} {i : Nat} {v : V} {s : Sl} (hl : ρ.length = σ.length) (hi : i < ρ.length) (h : Rel F0 H0 L0 F H ((some v, s) :: zp σ ρ)) : Rel F0 H0 L0 F H (zp (σ.set i (some v)) (ρ.set i s)) := by
  have h1 : σ[i]? = some σ[i] := List.getElem?_eq_getElem (by omega)
  obtain ⟨R, p, q⟩ := zp_split h1 (List.getElem?_eq_getElem hi)
  refine ((h.permR (p.cons _)).subR (L2 := (some v, s) :: R) ?_).permR (q _ _).symm
  exact List.Sublist.cons_cons _ (List.sublist_cons_self _ _)
section
variable {X : Cx} {pos : Pos}
theorem pg_nm {i : Nat} {x : Str} (h : PG X (.Name x pos) (gName i)) : PG X (.Name x pos) (gT (.nm i)) := by
  refine pg_imp h fun v σ H Q z => ?_
  obtain ⟨F, d, ρ, ρ', hl, er, rp, hs, k⟩ := z
  have hs : (if i < ρ.length then some (ρ.set i (.shr d)) else none) = some ρ' := hs
  by_cases hi : i < ρ.length
  · rw [if_pos hi] at hs
    cases hs
    refine k _ (by rw [List.length_set]) (by rw [List.length_set, List.length_set]; exact hl) (fun j hj => ?_) (set_rel hl hi ((Rel.refl er).shr rp))
    rw [List.getElem?_set_ne (fun z => hj (by show j ∈ [i]; simp [z]))]
  · rw [if_neg hi] at hs
    cases hs
theorem pgs_nl : PGs X [] (gTs .nil) := by
  refine pgs_imp pgs_nil fun vs σ H Q z => ?_
  obtain ⟨F, ds, ρ, ρ', hl, er, rp, hs, k⟩ := z
  cases ds with
  | nil =>
    cases rp
    have hs : some ρ = some ρ' := hs
    cases hs
    exact ⟨rfl, k σ rfl hl .refl (Rel.refl er)⟩
  | cons d ds => cases hs
theorem pgs_cn {e : Expr} {es : List Expr} {a r : T} (h1 : PG X e (gT a)) (h2 : PGs X es (gTs r)) (hs : (assignEach (e :: es) X.env).map (·.2) = assign e X.env :: (assignEach es X.env).map (·.2)) : PGs X (e :: es) (gTs (.cons a r)) := by
  refine pgs_imp (pgs_cons h1 h2 hs) fun vs σ H Q z => ?_
  obtain ⟨F, ds, ρ, ρ', hl, er, rp, hq, k⟩ := z
  cases rp with
  | nil => cases hq
  | cons r1 rr =>
    rename_i v vs d ds
    have hq : (setT a d ρ).bind (setT.setTs r ds) = some ρ' := hq
    cases e1 : setT a d ρ with
    | none => rw [e1] at hq; cases hq
    | some ρ1 =>
      rw [e1] at hq
      have hq : setT.setTs r ds ρ1 = some ρ' := hq
      refine ⟨v, vs, rfl, F, d, ρ, ρ1, hl, er, r1, e1, fun σ1 l1 l2 sm rel => ?_⟩
      refine ⟨F, ds, ρ1, ρ', l2, rel.er, rr, hq, fun σ2 l3 l4 sm2 rel2 => ?_⟩
      exact k σ2 (l3.trans l1) l4 (sm.trans sm2) (rel.trans rel2)
theorem pg_tp {es : List Expr} {k : Nat} {ts : T} {n : Nat} (hc : X.calm = true) (h : PGs X es (gTs ts)) (hn : (assignEach es X.env).length = n) (hst : (assignEach es X.env).findIdx? (·.1) = none)
    (hlen : ∀ ds ρ ρ', setT.setTs ts ds ρ = some ρ' → ds.length = n) : PG X (.Tuple es k pos) (gT (.tp ts)) := by
  refine pg_imp (pg_or (pg_tup (n := n) hc h hn hst) (pg_lst (n := n) hc h hn hst)) fun v σ H Q z => ?_
  obtain ⟨F, d, ρ, ρ', hl, er, rp, hs, kk⟩ := z
  cases rp with
  | tup e r =>
    rename_i a xs ds
    have hs : setT.setTs ts ds ρ = some ρ' := hs
    exact .inl ⟨a, xs, rfl, SqT.of (er.le _ _ e), by rw [r.len, hlen _ _ _ hs], F, ds, ρ, ρ', hl, er, r, hs, kk⟩
  | lst e r =>
    rename_i a xs ds
    have hs : setT.setTs ts ds ρ = some ρ' := hs
    exact .inr ⟨a, xs, rfl, .inl (er.le.rd e), by rw [r.len, hlen _ _ _ hs], F, ds, ρ, ρ', hl, er, r, hs, kk⟩
  | _ => cases hs
end

/-! ### what is walked -/
def WalkD (J : It) (F1 : Hp) (xs : List D) : Prop := Walk J xs.length (fun H => Le F1 H) (fun i H x H' => ∃ d, xs[i]? = some d ∧ ∀ F, Le F1 F → Le F H → ∃ F', New F H F' H' x (.shr d))
def iD (W : WE) (r : Env → R (List D × Env)) (k : K) : TI := fun σ H Rk => ∃ F ρ, ρ.length = σ.length ∧ ER F H (zp σ ρ) ∧ match r ρ with
  | .ok (ds, ρ1) => (match itemsOf k ds with
    | some xs => ∀ J F1 H1, ρ1.length = σ.length → Rel F H (zp σ ρ) F1 H1 (zp σ ρ1) → WalkD J F1 xs → Rk J H1
    | none => False)
  | .exc c ρ' => ∀ F' H', ρ'.length = σ.length → Rel F H (zp σ ρ) F' H' (zp σ ρ') → W c σ H'
  | .bad => False
abbrev WN : WE := fun _ _ _ => False

theorem getD_of_get? {α : Type} {l : List α} {i : Nat} {d : α} {x : α} (h : l[i]? = some x) : l.getD i d = x := by rw [List.getD_eq_getElem?_getD, h]; rfl
theorem same_getD {ws : List Nat} {σ σ' : St} (h : Same ws σ σ') {i : Nat} (hi : i ∉ ws) : σ'.getD i none = σ.getD i none := by rw [List.getD_eq_getElem?_getD, h i hi, ← List.getD_eq_getElem?_getD]
theorem ext_getD {σ σ' : St} (hl : σ.length = σ'.length) (h : ∀ i, σ.getD i none = σ'.getD i none) : σ = σ' := by
  apply List.ext_getElem hl
  intro i h1 h2
  have := h i
  simpa [List.getD_eq_getElem?_getD, h1, h2] using this
section
variable {Γ : Tab} {asg : Nat → List Bool} {X : Cx} {W : WE} {pos : Pos}
theorem comp_imp {own : List Nat} {t : T} {k : K} {src cnd elt : E} (hsl : ∀ i ∈ t.slots, i ∈ own) {σ : St} {H : Hp} {Q : VK} (z : tE W (evE Γ asg (.comp own t k src cnd elt)) σ H Q) :
    tLc (iD W (evL Γ asg src) k) (gT t) (tT WN (evT Γ asg cnd)) (tE WN (evE Γ asg elt)) own σ H Q := by
  obtain ⟨F, ρ, hl, er, g⟩ := z
  have g : gR W enE okE ((evL Γ asg src ρ).bind fun x => match itemsOf k x.1 with
    | some xs => if xs.length < LIM then (compG own t (evT Γ asg cnd) (evE Γ asg elt) xs x.2 []).bind fun y => R.ok (Sl.own (.lst y.1), unwipe x.2 own y.2) else .bad
    | none => .bad) F H σ ρ Q := g
  refine ⟨F, ρ, hl, er, ?_⟩
  cases es : evL Γ asg src ρ with
  | bad => rw [es] at g; exact g
  | exc c ρ' => rw [es] at g; exact g
  | ok x =>
    obtain ⟨ds, ρ1⟩ := x
    rw [es] at g
    have g : gR W enE okE (match itemsOf k ds with
      | some xs => if xs.length < LIM then (compG own t (evT Γ asg cnd) (evE Γ asg elt) xs ρ1 []).bind fun y => R.ok (Sl.own (.lst y.1), unwipe ρ1 own y.2) else .bad
      | none => .bad) F H σ ρ Q := g
    cases ei : itemsOf k ds with
    | none => rw [ei] at g; exact g.elim
    | some xs =>
      rw [ei] at g
      simp only [] at g ⊢
      rw [ei]
      intro J F1 H1 hl1 rel1 wd D hD
      have hlim : xs.length < LIM := by
        by_cases q : xs.length < LIM
        · exact q
        · rw [if_neg q] at g; exact g.elim
      rw [if_pos hlim] at g
      refine lc_it wd (fun i H' => i ≤ xs.length ∧ ∃ F' ρi acc, ρi.length = σ.length ∧ acc.length ≤ i ∧ Le F1 F' ∧ Rel F H (zp σ ρ) F' H' ((some (.ref D), .own (.lst acc)) :: (hereOf σ ρ1 own ++ restOf σ ρi own)) ∧
        gR W enE okE ((compG own t (evT Γ asg cnd) (evE Γ asg elt) (xs.drop i) ρi acc).bind fun y => R.ok (Sl.own (.lst y.1), unwipe ρ1 own y.2)) F H σ ρ Q) ?h0 ?hG ?hs ?hd
      case h0 =>
        refine ⟨Nat.zero_le _, F1, ρ1, [], hl1, Nat.le_refl _, .refl, ?_, by simpa using g⟩
        exact (rel1.trans ((New.ownL rel1.er.le hD .nil).rel rel1.er)).permR ((zp_parts hl1 own).cons _)
      case hG =>
        rintro i H' _ ⟨_, F', ρi, acc, _, _, le, rel, _⟩
        exact le.trans rel.er.le
      case hd =>
        rintro H' ⟨_, F', ρi, acc, hli, _, _, rel, g⟩
        rw [List.drop_length] at g
        refine gR_ok (b := V.ref D) (F' := F') (show gR W enE okE (R.ok (Sl.own (.lst acc), unwipe ρ1 own ρi)) F H σ ρ Q from g) (by rw [unwipe_len]; exact hli) trivial ?_
        refine rel.permR (List.Perm.cons _ ?_)
        refine List.Perm.trans ?_ (zp_parts (σ := σ) (ρ := unwipe ρ1 own ρi) (by rw [unwipe_len]; exact hli) own).symm
        rw [hereOf_congr (σ' := σ) (ρ' := unwipe ρ1 own ρi) (ρ := ρ1) rfl (fun i hi => ⟨rfl, by rw [unwipe_get (by omega), if_pos hi]⟩), restOf_congr (σ' := σ) (ρ' := unwipe ρ1 own ρi) (ρ := ρi) rfl (fun i hi => ⟨rfl, by rw [unwipe_get (by omega), if_neg hi]⟩)]
      case hs =>
        rintro i x H' H'' hi ⟨_, F', ρi, acc, hli, hacc, le, rel, g⟩ ⟨d, hd, hy⟩
        obtain ⟨F'', nw⟩ := hy F' le rel.er.le
        have rel2 := rel.trans (nw.rel rel.er)
        have rpx : Rp F'' x d := rel2.er.rpv
        have rel3 : Rel F H (zp σ ρ) F'' H'' (((some (V.ref D), Sl.own (.lst acc)) :: hereOf σ ρ1 own) ++ restOf σ ρi own) := rel2.tail
        have rel4 := rel3.wiped hli
        have edrop : xs.drop i = d :: xs.drop (i + 1) := by
          have hi' : i < xs.length := hi
          rw [List.drop_eq_getElem_cons hi']
          rw [List.getElem?_eq_getElem hi'] at hd
          cases hd; rfl
        rw [edrop] at g
        have hlw : (wipeE ρi own).length = (wipe σ own).length := by rw [wipeE_len, wipe_length]; exact hli
        have erw : ER F'' H'' (zp (wipe σ own) (wipeE ρi own)) := rel4.er.sub (List.sublist_append_right _ _)
        cases est : setT t d (wipeE ρi own) with
        | none =>
          have e0 : compG own t (evT Γ asg cnd) (evE Γ asg elt) (d :: xs.drop (i + 1)) ρi acc = .bad := by simp only [compG, est]
          rw [e0] at g; exact g.elim
        | some ρt =>
          refine ⟨F'', d, wipeE ρi own, ρt, hlw, erw, rpx, est, fun σ' ls lr sm relT => ?_⟩
          have esame : ∀ j, j ∉ own → σ'.getD j none = σ.getD j none := fun j hj => by
            rw [same_getD sm (fun z => hj (hsl j z)), wipe_get, if_neg hj]
          have ls' : σ'.length = σ.length := by rw [ls, wipe_length]
          refine ⟨ext_getD (by rw [wipe_length, wipe_length]; exact ls') fun j => ?_, ?_⟩
          · rw [wipe_get, wipe_get]
            by_cases hj : j ∈ own
            · rw [if_pos hj, if_pos hj]
            · rw [if_neg hj, if_neg hj, esame j hj]
          have e1 : compG own t (evT Γ asg cnd) (evE Γ asg elt) (d :: xs.drop (i + 1)) ρi acc = (match evT Γ asg cnd ρt with
            | .ok (false, ρ2) => compG own t (evT Γ asg cnd) (evE Γ asg elt) (xs.drop (i + 1)) ρ2 acc
            | .ok (true, ρ2) => (match evE Γ asg elt ρ2 with
              | .ok (s, ρ3) => (match s.d? with
                | some e => compG own t (evT Γ asg cnd) (evE Γ asg elt) (xs.drop (i + 1)) ρ3 (acc ++ [e])
                | none => .bad)
              | _ => .bad)
            | _ => .bad) := by
            show compG own t _ _ (d :: _) ρi acc = _
            simp only [compG, est] <;> rfl
          rw [e1] at g
          have er5 : ER F'' H'' (zp (wipe σ own) (wipeE ρi own) ++ ((some (V.ref D), Sl.own (.lst acc)) :: hereOf σ ρ1 own)) := rel4.er.perm List.perm_append_comm
          have rel5 := (rel4.permR List.perm_append_comm).trans (relT.frame er5)
          -- the end of a turn
          have fin : ∀ {F5 H5 : Hp} {ρ5 : Env} {acc5 : List Mx.D}, ρ5.length = σ'.length → Rel F H (zp σ ρ) F5 H5 (zp σ' ρ5 ++ ((some (V.ref D), Sl.own (.lst acc5)) :: hereOf σ ρ1 own)) →
              Rel F H (zp σ ρ) F5 H5 ((some (.ref D), .own (.lst acc5)) :: (hereOf σ ρ1 own ++ restOf σ ρ5 own)) := fun {F5 H5 ρ5 acc5} l5 r5 => by
            have r6 := (r5.permR ((zp_parts l5 own).append_right _)).permR List.perm_append_comm
            rw [restOf_congr (σ := σ) (ρ := ρ5) ls' (fun j hj => ⟨esame j hj, rfl⟩)] at r6
            refine r6.subR ?_
            exact List.Sublist.cons_cons _ (List.Sublist.append_left (List.sublist_append_right _ _) _)
          refine ⟨F'', ρt, lr, rel5.er.sub (List.sublist_append_left _ _), ?_⟩
          cases ec : evT Γ asg cnd ρt with
          | bad => rw [ec] at g; exact g.elim
          | exc c o => rw [ec] at g; exact g.elim
          | ok y =>
            obtain ⟨bv, ρ2⟩ := y
            rw [ec] at g
            intro b F3 H3 hl3 okb relC
            have okb : b = bv := okb
            subst okb
            have relC : Rel F'' H'' (zp σ' ρt) F3 H3 (zp σ' ρ2) := relC
            have rel6 := rel5.trans (relC.frame rel5.er)
            have le3 : Le F1 F3 := (le.trans nw.mono).trans relC.mono
            cases b with
            | false =>
              rw [if_neg (by simp)]
              exact ⟨hi, F3, ρ2, acc, hl3.trans ls', Nat.le_succ_of_le hacc, le3, fin hl3 rel6, g⟩
            | true =>
              rw [if_pos rfl]
              have g : gR W enE okE ((match evE Γ asg elt ρ2 with
                | .ok (s, ρ3) => (match s.d? with
                  | some e => compG own t (evT Γ asg cnd) (evE Γ asg elt) (xs.drop (i + 1)) ρ3 (acc ++ [e])
                  | none => .bad)
                | _ => .bad).bind fun y => R.ok (Sl.own (.lst y.1), unwipe ρ1 own y.2)) F H σ ρ Q := g
              refine ⟨F3, ρ2, hl3, rel6.er.sub (List.sublist_append_left _ _), ?_⟩
              cases ee : evE Γ asg elt ρ2 with
              | bad => rw [ee] at g; exact g.elim
              | exc c o => rw [ee] at g; exact g.elim
              | ok y =>
                obtain ⟨s, ρ3⟩ := y
                rw [ee] at g
                have g : gR W enE okE ((match s.d? with
                  | some e => compG own t (evT Γ asg cnd) (evE Γ asg elt) (xs.drop (i + 1)) ρ3 (acc ++ [e])
                  | none => .bad).bind fun y => R.ok (Sl.own (.lst y.1), unwipe ρ1 own y.2)) F H σ ρ Q := g
                intro yv F4 H4 hl4 _ relE
                cases ed : s.d? with
                | none => rw [ed] at g; exact g.elim
                | some e =>
                  rw [ed] at g
                  obtain ⟨F5, relE5⟩ := Rel.dval relE ed
                  have rel7 := rel6.trans (relE5.frame rel6.er)
                  have rp7 : Rp F5 yv e := (show ER F5 H4 ((some yv, Sl.shr e) :: (zp σ' ρ3 ++ ((some (V.ref D), Sl.own (.lst acc)) :: hereOf σ ρ1 own))) from rel7.er).rpv
                  have rel8 : Rel F H (zp σ ρ) F5 H4 ((some (V.ref D), Sl.own (.lst acc)) :: (zp σ' ρ3 ++ hereOf σ ρ1 own)) :=
                    (Rel.tail (p := (some yv, Sl.shr e)) (L' := zp σ' ρ3 ++ ((some (V.ref D), Sl.own (.lst acc)) :: hereOf σ ρ1 own)) rel7).permR List.perm_middle
                  obtain ⟨pD, epD, wD⟩ := rel8.er.each _ List.mem_cons_self
                  cases epD
                  obtain ⟨fn, axs, hax, rax⟩ := wD
                  have elen : axs.length = acc.length := rax.len
                  refine ⟨axs, hax, by rw [elen]; exact Nat.lt_of_lt_of_le (Nat.lt_of_le_of_lt hacc hi) (lim_size hlim), hi, F5, ρ3, acc ++ [e], hl4.trans ls', by simp; omega, le3.trans relE5.mono, ?_, g⟩
                  have rel9 := rel8.upd (o := .lst (axs ++ [yv])) (d' := .lst (acc ++ [e])) ⟨fn, _, upd_same, rax.app (.cons rp7 .nil)⟩
                  exact fin hl4 (rel9.permR List.perm_middle.symm)
end
end Mx

end
section
set_option Elab.async false
set_option linter.all false
set_option maxRecDepth 100000
set_option maxHeartbeats 4000000
/-! MxG: statements. -/
namespace Mx
open PySem PySem.Spec L2
variable [CA]

def gO (W : WE) (ws : List Nat) (o : O) (F H : Hp) (σ : St) (ρ : Env) (D : Ends) : Prop := match o with
  | .nx ρ' => ∀ σ' F' H', σ'.length = σ.length → ρ'.length = σ'.length → Same ws σ σ' → Rel F H (zp σ ρ) F' H' (zp σ' ρ') → D.nx σ' H'
  | .ret s ρ' => ∀ σ' v F' H', σ'.length = σ.length → ρ'.length = σ'.length → Same ws σ σ' → Rel F H (zp σ ρ) F' H' ((some v, s) :: zp σ' ρ') → D.rt v H'
  | .exc c ρ' => ∀ σ' F' H', σ'.length = σ.length → ρ'.length = σ'.length → Same ws σ σ' → Rel F H (zp σ ρ) F' H' (zp σ' ρ') → W c σ' H'
  | .bad => False
def tC (W : WE) (ws : List Nat) (r : Env → O) : TS := fun D σ H => ∃ F ρ, ρ.length = σ.length ∧ ER F H (zp σ ρ) ∧ gO W ws (r ρ) F H σ ρ D
/-- where one stands in a body -/
structure At (ws : List Nat) (F0 H0 : Hp) (σ0 : St) (ρ0 : Env) (F H : Hp) (σ : St) (ρ : Env) : Prop where
  ls : σ.length = σ0.length
  lr : ρ.length = σ.length
  sm : Same ws σ0 σ
  rel : Rel F0 H0 (zp σ0 ρ0) F H (zp σ ρ)
theorem Same.tr {ws : List Nat} {σ σ' σ'' : St} (h : Same ws σ σ') (k : Same ws σ' σ'') : Same ws σ σ'' := fun i hi => (k i hi).trans (h i hi)
section
variable {α β : Type} {W : WE} {ws : List Nat} {en : β → α → Lt} {ok : St → β → α → Prop}
/-- an expression within a statement -/
theorem stepO {r : Env → R (α × Env)} {f : α × Env → O} {F0 H0 F H : Hp} {σ0 σ : St} {ρ0 ρ : Env} {G : Lt} {Q : β → Hp → Prop} {D : Ends}
    (ls : σ.length = σ0.length) (lr : ρ.length = σ.length) (sm : Same ws σ0 σ) (x : Rel F0 H0 (zp σ0 ρ0) F H (G ++ zp σ ρ)) (h : gO W ws (ofR (r ρ) f) F0 H0 σ0 ρ0 D)
    (k : ∀ b y ρ' F' H', r ρ = .ok (y, ρ') → ρ'.length = σ.length → ok σ b y → Rel F0 H0 (zp σ0 ρ0) F' H' (en b y ++ (G ++ zp σ ρ')) → gO W ws (f (y, ρ')) F0 H0 σ0 ρ0 D → Q b H') :
    tG W en ok r σ H Q := by
  have e0 : ER F H (zp σ ρ ++ G) := x.er.perm List.perm_append_comm
  refine ⟨F, ρ, lr, e0.sub (List.sublist_append_left _ _), ?_⟩
  cases q : r ρ with
  | bad => rw [q] at h; exact h
  | exc c ρ' =>
    rw [q] at h
    intro F' H' hl' y
    exact h σ F' H' ls hl' sm ((x.trans ((y.frame e0).permL List.perm_append_comm)).subR (List.sublist_append_left _ _))
  | ok p =>
    obtain ⟨y, ρ'⟩ := p
    rw [q] at h
    intro b F' H' hl' ho z
    refine k b y ρ' F' H' q hl' ho ?_ h
    have z2 := (z.frame e0).permL List.perm_append_comm
    refine (x.trans z2).permR ?_
    rw [List.append_assoc]
    exact List.Perm.append_left _ List.perm_append_comm
theorem stepO0 {r : Env → R (α × Env)} {f : α × Env → O} {F0 H0 F H : Hp} {σ0 σ : St} {ρ0 ρ : Env} {Q : β → Hp → Prop} {D : Ends}
    (x : At ws F0 H0 σ0 ρ0 F H σ ρ) (h : gO W ws (ofR (r ρ) f) F0 H0 σ0 ρ0 D)
    (k : ∀ b y ρ' F' H', r ρ = .ok (y, ρ') → ρ'.length = σ.length → ok σ b y → Rel F0 H0 (zp σ0 ρ0) F' H' (en b y ++ zp σ ρ') → gO W ws (f (y, ρ')) F0 H0 σ0 ρ0 D → Q b H') :
    tG W en ok r σ H Q := stepO (G := []) x.ls x.lr x.sm x.rel h k
theorem At.refl {F H : Hp} {σ : St} {ρ : Env} (hl : ρ.length = σ.length) (er : ER F H (zp σ ρ)) : At ws F H σ ρ F H σ ρ := ⟨rfl, hl, .refl, .refl er⟩
/-- the rest of the block -/
theorem tailO {r : Env → O} {F0 H0 F H : Hp} {σ0 σ : St} {ρ0 ρ : Env} {D : Ends} (x : At ws F0 H0 σ0 ρ0 F H σ ρ) (h : gO W ws (r ρ) F0 H0 σ0 ρ0 D) : tC W ws r D σ H := by
  refine ⟨F, ρ, x.lr, x.rel.er, ?_⟩
  cases q : r ρ with
  | bad => rw [q] at h; exact h
  | nx ρ' => rw [q] at h; exact fun σ' F' H' l1 l2 s y => h σ' F' H' (l1.trans x.ls) l2 (x.sm.tr s) (x.rel.trans y)
  | ret v ρ' => rw [q] at h; exact fun σ' u F' H' l1 l2 s y => h σ' u F' H' (l1.trans x.ls) l2 (x.sm.tr s) (x.rel.trans y)
  | exc c ρ' => rw [q] at h; exact fun σ' F' H' l1 l2 s y => h σ' F' H' (l1.trans x.ls) l2 (x.sm.tr s) (x.rel.trans y)
/-- a block, then the rest -/
theorem thenO {r : Env → O} {f : Env → O} {F0 H0 F H : Hp} {σ0 σ : St} {ρ0 ρ : Env} {D D' : Ends} (x : At ws F0 H0 σ0 ρ0 F H σ ρ) (h : gO W ws ((r ρ).then f) F0 H0 σ0 ρ0 D) (hrt : D'.rt = D.rt)
    (hnx : ∀ σ' F' H' ρ', At ws F0 H0 σ0 ρ0 F' H' σ' ρ' → gO W ws (f ρ') F0 H0 σ0 ρ0 D → D'.nx σ' H') : tC W ws r D' σ H := by
  refine ⟨F, ρ, x.lr, x.rel.er, ?_⟩
  cases q : r ρ with
  | bad => rw [q] at h; exact h
  | nx ρ' =>
    rw [q] at h
    exact fun σ' F' H' l1 l2 s y => hnx σ' F' H' ρ' ⟨l1.trans x.ls, l2, x.sm.tr s, x.rel.trans y⟩ h
  | ret v ρ' =>
    rw [q] at h
    intro σ' u F' H' l1 l2 s y
    rw [hrt]
    exact h σ' u F' H' (l1.trans x.ls) l2 (x.sm.tr s) (x.rel.trans y)
  | exc c ρ' => rw [q] at h; exact fun σ' F' H' l1 l2 s y => h σ' F' H' (l1.trans x.ls) l2 (x.sm.tr s) (x.rel.trans y)
end
theorem At.set {ws : List Nat} {F0 H0 F H : Hp} {σ0 σ : St} {ρ0 ρ : Env} {i : Nat} {v : V} {s : Sl} (ls : σ.length = σ0.length) (lr : ρ.length = σ.length) (sm : Same ws σ0 σ) (hi : i < ρ.length) (hw : i ∈ ws)
    (x : Rel F0 H0 (zp σ0 ρ0) F H ((some v, s) :: zp σ ρ)) : At ws F0 H0 σ0 ρ0 F H (σ.set i (some v)) (ρ.set i s) :=
  ⟨by rw [List.length_set]; exact ls, by rw [List.length_set, List.length_set]; exact lr, fun j hj => by rw [List.getElem?_set_ne (fun z => hj (by rw [← z]; exact hw))]; exact sm j hj, set_rel lr hi x⟩

section
variable {Γ : Tab} {asg : Nat → List Bool} {X : Cx} {W : WE} {ws : List Nat} {pos : Pos} {e tg : Expr} {e' : E} {t : T} {k : C} {rest : List Stmt}
theorem pss_done : PSs X [] (tC W ws (evC Γ asg .done)) := by
  refine pss_imp pss_nil fun D σ H z => ?_
  obtain ⟨F, ρ, hl, er, g⟩ := z
  exact g σ F H rfl hl .refl (Rel.refl er)
/-- x = e -/
theorem pss_asgN {i : Nat} {x : Str} {p : Pos} (he : PE X e (tE W (evE Γ asg e'))) (hg : PG X (.Name x p) (gName i)) (hw : i ∈ ws) (hs : swapsWithSole [.Name x p] e pos.line X.env = pure false) (hr : PSs X rest (tC W ws (evC Γ asg k))) :
    PSs X (.Assign [.Name x p] e pos :: rest) (tC W ws (evC Γ asg (.asg (.nm i) e' k))) := by
  refine pss_imp (pss_cons (ps_asg he hg hs rfl rfl) hr) fun D σ H z => ?_
  obtain ⟨F, ρ, hl, er, g⟩ := z
  refine stepO0 (r := evE Γ asg e') (f := fun x => (asgT (.nm i) x.1 x.2).then (evC Γ asg k)) (At.refl hl er) g fun v s ρ1 F1 H1 e1 hl1 _ rel g1 => ?_
  have g1 : gO W ws ((if i < ρ1.length then O.nx (ρ1.set i s) else .bad).then (evC Γ asg k)) F H σ ρ D := g1
  by_cases hi : i < ρ1.length
  · rw [if_pos hi] at g1
    exact tailO (At.set rfl hl1 .refl hi hw rel) g1
  · rw [if_neg hi] at g1; exact g1.elim
/-- a, b = e -/
theorem pss_asgT {ts : T} (he : PE X e (tE W (evE Γ asg e'))) (hg : PG X tg (gT (.tp ts))) (hw : ∀ i ∈ ts.slots, i ∈ ws) (hs : swapsWithSole [tg] e pos.line X.env = pure false) (hw2 : swappedStores [tg] e X.env = pure none)
    (h1 : (assignEach [tg] X.env).map (·.2) = [assign tg X.env]) (hr : PSs X rest (tC W ws (evC Γ asg k))) :
    PSs X (.Assign [tg] e pos :: rest) (tC W ws (evC Γ asg (.asg (.tp ts) e' k))) := by
  refine pss_imp (pss_cons (ps_asg (pe_kep he) hg hs hw2 h1) hr) fun D σ H z => ?_
  obtain ⟨F, ρ, hl, er, g⟩ := z
  have g2 : gO W ws (ofR (kep (evE Γ asg e') ρ) fun x => (match setT (.tp ts) x.1 x.2 with | some ρ1 => O.nx ρ1 | none => .bad).then (evC Γ asg k)) F H σ ρ D := by
    have g : gO W ws (ofR (evE Γ asg e' ρ) fun x => (asgT (.tp ts) x.1 x.2).then (evC Γ asg k)) F H σ ρ D := g
    unfold kep
    cases q : evE Γ asg e' ρ with
    | bad => rw [q] at g; exact g
    | exc c o => rw [q] at g; exact g
    | ok y =>
      obtain ⟨s, ρ1⟩ := y
      rw [q] at g
      have g : gO W ws ((match s.d? with | some d => (match setT (.tp ts) d ρ1 with | some ρ1 => O.nx ρ1 | none => .bad) | none => .bad).then (evC Γ asg k)) F H σ ρ D := g
      show gO W ws (ofR (match s.d? with | some d => R.ok (d, ρ1) | none => .bad) _) F H σ ρ D
      cases q2 : s.d? with
      | none => rw [q2] at g; exact g
      | some d => rw [q2] at g; exact g
  refine stepO0 (r := kep (evE Γ asg e')) (At.refl hl er) g2 fun v d ρ1 F1 H1 e1 hl1 _ rel g1 => ?_
  dsimp only at g1
  have rel : Rel F H (zp σ ρ) F1 H1 ((some v, .shr d) :: zp σ ρ1) := rel
  cases q : setT (.tp ts) d ρ1 with
  | none => rw [q] at g1; exact g1.elim
  | some ρ2 =>
    rw [q] at g1
    refine ⟨F1, d, ρ1, ρ2, hl1, rel.tail.er, rel.er.rpv, q, fun σ' l1 l2 sm r2 => ?_⟩
    exact tailO ⟨l1, l2, sm.mono hw, rel.tail.trans r2⟩ g1
/-- x = [..] on one line -/
theorem pss_asgLc {i : Nat} {y : Str} {py : Pos} {elt iter : Expr} {ifs : List Expr} {scope : Scope} {own : List (Str × Nat)} {spos : Pos} {kd : K} {src cnd el : E} (hc : X.calm = true) (hN : X.N.Nodup) (hy : X.N[i]? = some y) (hyl : X.env.scope.names.lookup y = some .local) (hw : i ∈ ws)
    (hsw : swapsWith (.ListComp elt [⟨tg, iter, ifs, 0⟩] scope pos) (some (.Name y py)) spos.line X.env = pure true) (hi : PI X tg iter (iD W (evL Γ asg src) kd)) (ok : BlkOk X.N X.env.scope scope own)
    (hg : ∀ (s : Shared) (H : Hp) (C : Addr) (cl : List (Str × Addr)) (fp : List Addr), PG (X.blk s H scope (compEnvC scope cl C X.env) fp) tg (gT t)) (ht : ∀ (s : Shared) (H : Hp) (C : Addr) (cl : List (Str × Addr)) (fp : List Addr), PTs (X.blk s H scope (compEnvC scope cl C X.env) fp) ifs (tT WN (evT Γ asg cnd)))
    (he : ∀ (s : Shared) (H : Hp) (C : Addr) (cl : List (Str × Addr)) (fp : List Addr), PE (X.blk s H scope (compEnvC scope cl C X.env) fp) elt (tE WN (evE Γ asg el))) (hs : ∀ x, foldedSetIterable iter X.env x = pure x) (hsl : ∀ i ∈ t.slots, i ∈ own.map (·.2))
    (hr : PSs X rest (tC W ws (evC Γ asg k))) :
    PSs X (.Assign [.Name y py] (.ListComp elt [⟨tg, iter, ifs, 0⟩] scope pos) spos :: rest) (tC W ws (evC Γ asg (.asg (.nm i) (.comp (own.map (·.2)) t kd src cnd el) k))) := by
  refine pss_imp (pss_cons (ps_setLc hc hN hy hyl hsw hi ok hg ht he hs) hr) fun D σ H z => ?_
  obtain ⟨F, ρ, hl, er, g⟩ := z
  show tLc (iD W (evL Γ asg src) kd) (gT t) (tT WN (evT Γ asg cnd)) (tE WN (evE Γ asg el)) (own.map (·.2)) σ H (fun x H1 => gName i x σ H1 (tC W ws (evC Γ asg k) D))
  refine comp_imp hsl ?_
  refine stepO0 (r := evE Γ asg (.comp (own.map (·.2)) t kd src cnd el)) (f := fun x => (asgT (.nm i) x.1 x.2).then (evC Γ asg k)) (At.refl hl er) g fun v s ρ1 F1 H1 e1 hl1 _ rel g1 => ?_
  have g1 : gO W ws ((if i < ρ1.length then O.nx (ρ1.set i s) else .bad).then (evC Γ asg k)) F H σ ρ D := g1
  by_cases hi : i < ρ1.length
  · rw [if_pos hi] at g1
    exact tailO (At.set rfl hl1 .refl hi hw rel) g1
  · rw [if_neg hi] at g1; exact g1.elim
/-- a, b = e1, e2 -/
theorem pss_par {i j : Nat} {x y : Str} {a b : Expr} {a' b' : E} {px py pt : Pos} {kt k2 pt2} (hc : X.calm = true) (hN : X.N.Nodup) (hi : X.N[i]? = some x) (hj : X.N[j]? = some y) (hij : i ≠ j) (hwi : i ∈ ws) (hwj : j ∈ ws)
    (hx : X.env.scope.names.lookup x = some .local) (hy : X.env.scope.names.lookup y = some .local) (ha : PA X [a, b] (tL W (evL Γ asg (.cons a' (.cons b' .nil)))))
    (hw : swappedStores [.Tuple [.Name x px, .Name y py] kt pt] (.Tuple [a, b] k2 pt2) X.env = pure (some [x, y])) (hr : PSs X rest (tC W ws (evC Γ asg k))) :
    PSs X (.Assign [.Tuple [.Name x px, .Name y py] kt pt] (.Tuple [a, b] k2 pt2) pos :: rest) (tC W ws (evC Γ asg (.par i j a' b' k))) := by
  refine pss_imp (pss_cons (ps_par hc hN hi hj hij hx hy ha hw) hr) fun D σ H z => ?_
  obtain ⟨F, ρ, hl, er, g⟩ := z
  refine stepO0 (r := evL Γ asg (.cons a' (.cons b' .nil))) (f := fun x => match x.1 with
    | [u, v] => if i < x.2.length ∧ j < x.2.length then evC Γ asg k ((x.2.set i (.shr u)).set j (.shr v)) else .bad
    | _ => .bad) (At.refl hl er) g fun vs ds ρ1 F1 H1 e1 hl1 ok1 rel g1 => ?_
  dsimp only at g1
  split at g1
  · rename_i u v
    have ok1 : vs.length = 2 := ok1
    obtain ⟨v1, v2, rfl⟩ : ∃ v1 v2, vs = [v1, v2] := by
      match vs, ok1 with
      | [a, b], _ => exact ⟨a, b, rfl⟩
    split at g1
    · rename_i hlt
      refine ⟨v1, v2, rfl, ?_⟩
      have rel : Rel F H (zp σ ρ) F1 H1 ((some v1, .shr u) :: (some v2, .shr v) :: zp σ ρ1) := rel
      have r1 : Rp F1 v1 u := rel.er.rpv
      have r2 : Rp F1 v2 v := rel.tail.er.rpv
      have a1 := At.set (σ0 := σ) (ρ0 := ρ) (ws := ws) rfl hl1 .refl hlt.1 hwi (rel.tail.tail.shr r1)
      have a2 := At.set (σ0 := σ) (ρ0 := ρ) (ws := ws) a1.ls a1.lr a1.sm (by rw [List.length_set]; exact hlt.2) hwj (a1.rel.shr r2)
      exact tailO a2 g1
    · exact g1.elim
  · exact g1.elim
/-- an expression alone -/
theorem pss_exp (he : PE X e (tE W (evE Γ asg e'))) (hs : swapsWith e none pos.line X.env = pure false) (hr : PSs X rest (tC W ws (evC Γ asg k))) : PSs X (.Expr e pos :: rest) (tC W ws (evC Γ asg (.exp e' k))) := by
  refine pss_imp (pss_cons (ps_expr he hs) hr) fun D σ H z => ?_
  obtain ⟨F, ρ, hl, er, g⟩ := z
  refine stepO0 (r := evE Γ asg e') (f := fun x => evC Γ asg k x.2) (At.refl hl er) g fun v s ρ1 F1 H1 e1 hl1 _ rel g1 => ?_
  exact tailO ⟨rfl, hl1, .refl, Rel.tail (p := (some v, s)) rel⟩ g1
theorem pss_ret (he : PE X e (tE W (evE Γ asg e'))) (hv : ∀ i, e' ≠ .var i) : PSs X (.Return (some e) pos :: rest) (tC W ws (evC Γ asg (.ret e'))) := by
  refine pss_imp (pss_cons (ps_ret he) pss_never) fun D σ H z => ?_
  obtain ⟨F, ρ, hl, er, g⟩ := z
  have e0 : evC Γ asg (.ret e') ρ = ofR (evE Γ asg e' ρ) fun x => .ret x.1 x.2 := by
    cases e' <;> first | rfl | exact absurd rfl (hv _)
  rw [e0] at g
  refine stepO0 (r := evE Γ asg e') (f := fun x => .ret x.1 x.2) (At.refl (ws := ws) hl er) g fun v s ρ1 F1 H1 e1 hl1 _ rel g1 => ?_
  exact g1 σ v F1 H1 rfl hl1 .refl rel
theorem pss_retV {i : Nat} (he : PE X e (tVar i)) : PSs X (.Return (some e) pos :: rest) (tC W ws (evC Γ asg (.ret (.var i)))) := by
  refine pss_imp (pss_cons (ps_ret he) pss_never) fun D σ H z => ?_
  obtain ⟨F, ρ, hl, er, g⟩ := z
  have g : gO W ws (match ρ[i]? with | some (.shr d) => O.ret (.shr d) ρ | some (.own d) => .ret (.own d) (ρ.set i .non) | _ => .bad) F H σ ρ D := g
  show tVar i σ H D.rt
  cases e2 : ρ[i]? with
  | none => rw [e2] at g; exact g.elim
  | some s =>
    rw [e2] at g
    obtain ⟨v, e3⟩ := zp_at hl e2
    obtain ⟨R, p, q, _⟩ := zp_split1 e3 e2
    have w := er.each _ (p.mem_iff.mpr List.mem_cons_self)
    cases s with
    | non => exact g.elim
    | shr d =>
      obtain ⟨u, e4, rp⟩ := w
      cases e4
      exact ⟨u, e3, g σ u F H rfl hl .refl ((Rel.refl er).shr rp)⟩
    | own d =>
      obtain ⟨u, e4, rp⟩ := w
      cases e4
      have r1 : Rel F H (zp σ ρ) F H ((some (V.ref u), Sl.own d) :: R) := (Rel.refl er).permR p
      exact ⟨_, e3, g σ _ F H rfl (by rw [List.length_set]; exact hl) .refl ((r1.non (v := some (V.ref u))).permR ((List.Perm.swap _ _ _).trans ((q _).symm.cons _)))⟩
theorem pss_retN : PSs X (.Return none pos :: rest) (tC W ws (evC Γ asg .retN)) := by
  refine pss_imp (pss_cons ps_retN pss_never) fun D σ H z => ?_
  obtain ⟨F, ρ, hl, er, g⟩ := z
  exact g σ .non F H rfl hl .refl ((Rel.refl er).shr .non)
theorem pss_pass (hr : PSs X rest (tC W ws (evC Γ asg k))) : PSs X (.Pass pos :: rest) (tC W ws (evC Γ asg k)) :=
  pss_imp (pss_cons ps_pass hr) fun D σ H z => z
theorem pss_if {c : Expr} {c' : E} {a b : List Stmt} {a' b' : C} (hc : PT X c (tT W (evT Γ asg c'))) (ha : PSs X a (tC W ws (evC Γ asg a'))) (hb : PSs X b (tC W ws (evC Γ asg b'))) (hr : PSs X rest (tC W ws (evC Γ asg k))) :
    PSs X (.If c a b pos :: rest) (tC W ws (evC Γ asg (.ife c' a' b' k))) := by
  refine pss_imp (pss_cons (ps_if hc ha hb) hr) fun D σ H z => ?_
  obtain ⟨F, ρ, hl, er, g⟩ := z
  refine stepO0 (r := evT Γ asg c') (f := fun x => (if x.1 then evC Γ asg a' x.2 else evC Γ asg b' x.2).then (evC Γ asg k)) (At.refl (ws := ws) hl er) g fun v s ρ1 F1 H1 e1 hl1 ok1 rel g1 => ?_
  have ok1 : v = s := ok1
  subst ok1
  have at1 : At ws F H σ ρ F1 H1 σ ρ1 := ⟨rfl, hl1, .refl, rel⟩
  cases v with
  | true =>
    rw [if_pos rfl]
    exact thenO (f := evC Γ asg k) (D := D) at1 g1 rfl fun σ' F' H' ρ' x h => tailO x h
  | false =>
    rw [if_neg (by simp)]
    exact thenO (f := evC Γ asg k) (D := D) at1 g1 rfl fun σ' F' H' ρ' x h => tailO x h
theorem pss_for {iter : Expr} {body : List Stmt} {kd : K} {src : E} {b' : C} (hp : PassesOwn (model X.prog X.w) X.A X.env X.xe) (hc : X.calm = true) (hi : PI X tg iter (iD W (evL Γ asg src) kd)) (hg : PG X tg (gT t)) (hw : ∀ i ∈ t.slots, i ∈ ws) (hb : PSs X body (tC W ws (evC Γ asg b')))
    (hs : ∀ x, foldedSetIterable iter X.env x = pure x) (hr : PSs X rest (tC W ws (evC Γ asg k))) : PSs X (.For tg iter body [] pos :: rest) (tC W ws (evC Γ asg (.for_ t kd src b' k))) := by
  refine pss_imp (pss_cons (ps_for hp hc hi hg hb hs) hr) fun D σ H z => ?_
  obtain ⟨F, ρ, hl, er, g⟩ := z
  have g : gO W ws (ofR (evL Γ asg src ρ) fun x => match itemsOf kd x.1 with
    | some xs => (forG t (evC Γ asg b') xs x.2).then (evC Γ asg k)
    | none => .bad) F H σ ρ D := g
  refine ⟨F, ρ, hl, er, ?_⟩
  cases es : evL Γ asg src ρ with
  | bad => rw [es] at g; exact g
  | exc c ρ' => rw [es] at g; exact fun F' H' l y => g σ F' H' rfl l .refl y
  | ok x =>
    obtain ⟨ds, ρ1⟩ := x
    rw [es] at g
    have g : gO W ws (match itemsOf kd ds with
      | some xs => (forG t (evC Γ asg b') xs ρ1).then (evC Γ asg k)
      | none => .bad) F H σ ρ D := g
    cases ei : itemsOf kd ds with
    | none => rw [ei] at g; exact g.elim
    | some xs =>
      rw [ei] at g
      simp only [] at g ⊢
      rw [ei]
      intro J F1 H1 hl1 rel1 wd
      refine for_it (D := { D with nx := tC W ws (evC Γ asg k) D }) wd (fun i σ' H' => i ≤ xs.length ∧ ∃ F' ρi, At ws F H σ ρ F' H' σ' ρi ∧ Le F1 F' ∧ gO W ws ((forG t (evC Γ asg b') (xs.drop i) ρi).then (evC Γ asg k)) F H σ ρ D) ?h0 ?hG ?hs ?hd
      case h0 => exact ⟨Nat.zero_le _, F1, ρ1, ⟨rfl, hl1, .refl, rel1⟩, .refl, by simpa using g⟩
      case hG =>
        rintro i σ' H' _ ⟨_, F', ρi, x, le, _⟩
        exact le.trans x.rel.er.le
      case hd =>
        rintro σ' H' ⟨_, F', ρi, x, _, g⟩
        rw [List.drop_length] at g
        exact tailO x g
      case hs =>
        rintro i x σ' H' H'' hi ⟨_, F', ρi, at1, le, g⟩ ⟨d, hd, hy⟩
        obtain ⟨F'', nw⟩ := hy F' le at1.rel.er.le
        have rel2 := at1.rel.trans (nw.rel at1.rel.er)
        have edrop : xs.drop i = d :: xs.drop (i + 1) := by
          have hi' : i < xs.length := hi
          rw [List.drop_eq_getElem_cons hi']
          rw [List.getElem?_eq_getElem hi'] at hd
          cases hd; rfl
        rw [edrop] at g
        have g : gO W ws ((match setT t d ρi with | none => O.bad | some ρ1 => (evC Γ asg b' ρ1).then (forG t (evC Γ asg b') (xs.drop (i + 1)))).then (evC Γ asg k)) F H σ ρ D := g
        cases est : setT t d ρi with
        | none => rw [est] at g; exact g.elim
        | some ρt =>
          rw [est] at g
          refine ⟨F'', d, ρi, ρt, at1.lr, rel2.tail.er, rel2.er.rpv, est, fun σ2 l1 l2 sm relT => ?_⟩
          have at2 : At ws F H σ ρ F'' H'' σ2 ρt := ⟨l1.trans at1.ls, l2, at1.sm.tr (sm.mono hw), rel2.tail.trans relT⟩
          have eth : ∀ (o : O) (f g : Env → O), (o.then f).then g = o.then fun x => (f x).then g := fun o f g => by cases o <;> rfl
          have g : gO W ws ((evC Γ asg b' ρt).then fun x => (forG t (evC Γ asg b') (xs.drop (i + 1)) x).then (evC Γ asg k)) F H σ ρ D := by
            rw [← eth]; exact g
          -- the body grows F
          refine ⟨F'', ρt, at2.lr, at2.rel.er, ?_⟩
          cases eb : evC Γ asg b' ρt with
          | bad => rw [eb] at g; exact g
          | nx ρ' =>
            rw [eb] at g
            exact fun σ3 F3 H3 m1 m2 s y => ⟨hi, F3, ρ', ⟨m1.trans at2.ls, m2, at2.sm.tr s, at2.rel.trans y⟩, (le.trans nw.mono).trans y.mono, g⟩
          | ret v ρ' => rw [eb] at g; exact fun σ3 u F3 H3 m1 m2 s y => g σ3 u F3 H3 (m1.trans at2.ls) m2 (at2.sm.tr s) (at2.rel.trans y)
          | exc c ρ' => rw [eb] at g; exact fun σ3 F3 H3 m1 m2 s y => g σ3 F3 H3 (m1.trans at2.ls) m2 (at2.sm.tr s) (at2.rel.trans y)
theorem pss_whl {c : Expr} {c' : E} {body : List Stmt} {b' : C} (hp : PassesOwn (model X.prog X.w) X.A X.env X.xe) (hc : PT X c (tT W (evT Γ asg c'))) (hb : PSs X body (tC W ws (evC Γ asg b'))) (hr : PSs X rest (tC W ws (evC Γ asg k))) :
    PSs X (.While c body [] pos :: rest) (tC W ws (evC Γ asg (.whl c' b' k))) := by
  refine pss_imp (pss_cons (ps_while hp hc hb) hr) fun D σ H z => ?_
  obtain ⟨F, ρ, hl, er, g⟩ := z
  have g : gO W ws ((whlG (evT Γ asg c') (evC Γ asg b') FUEL ρ).then (evC Γ asg k)) F H σ ρ D := g
  refine ⟨fun m σ' H' => ∃ F' ρi, At ws F H σ ρ F' H' σ' ρi ∧ gO W ws ((whlG (evT Γ asg c') (evC Γ asg b') m ρi).then (evC Γ asg k)) F H σ ρ D, ⟨FUEL, F, ρ, At.refl hl er, g⟩, ?_⟩
  rintro m σ' H' ⟨F', ρi, at1, g⟩
  cases m with
  | zero => exact False.elim g
  | succ n =>
    have eth : ∀ (o : O) (f g : Env → O), (o.then f).then g = o.then fun x => (f x).then g := fun o f g => by cases o <;> rfl
    have eo : ∀ (r : R (Bool × Env)) (f : Bool × Env → O) (g : Env → O), (ofR r f).then g = ofR r fun x => (f x).then g := fun r f g => by cases r <;> rfl
    have g : gO W ws (ofR (evT Γ asg c' ρi) fun x => (if x.1 then (evC Γ asg b' x.2).then (whlG (evT Γ asg c') (evC Γ asg b') n) else .nx x.2).then (evC Γ asg k)) F H σ ρ D := by
      have g2 : gO W ws ((ofR (evT Γ asg c' ρi) fun x => if x.1 then (evC Γ asg b' x.2).then (whlG (evT Γ asg c') (evC Γ asg b') n) else .nx x.2).then (evC Γ asg k)) F H σ ρ D := g
      rw [eo] at g2
      exact g2
    refine stepO0 (r := evT Γ asg c') at1 g fun v s ρ1 F1 H1 e1 hl1 ok1 rel g1 => ?_
    have ok1 : v = s := ok1
    subst ok1
    have at2 : At ws F H σ ρ F1 H1 σ' ρ1 := ⟨at1.ls, hl1, at1.sm, rel⟩
    cases v with
    | false =>
      rw [if_neg (by simp)]
      exact tailO at2 g1
    | true =>
      rw [if_pos rfl]
      have g1 : gO W ws ((evC Γ asg b' ρ1).then fun x => (whlG (evT Γ asg c') (evC Γ asg b') n x).then (evC Γ asg k)) F H σ ρ D := by rw [← eth]; exact g1
      refine ⟨fun σ2 H2 => ∃ F2 ρ2, At ws F H σ ρ F2 H2 σ2 ρ2 ∧ gO W ws ((whlG (evT Γ asg c') (evC Γ asg b') n ρ2).then (evC Γ asg k)) F H σ ρ D, fun σ2 H2 h => ⟨n, Nat.lt_succ_self n, h⟩, ?_⟩
      refine thenO (D := D) at2 g1 rfl ?_
      intro σ2 F2 H2 ρ2 x h
      exact ⟨F2, ρ2, x, h⟩
/-- x op= e, intsD -/
theorem pss_aug {i : Nat} {x : Str} {op : Operator} {p : Pr} {f : Int → Int → Int} {pos' : Pos} (hN : X.N.Nodup) (hi : X.N[i]? = some x) (hx : Loc X.env.scope x) (he : PE X e (tE W (evE Γ asg e'))) (hw : i ∈ ws) (ho : PIp X op (ipI f)) (hf : X.fn x = true ∨ X.env.scope.names.lookup x = some .local)
    (hp : ∀ a b : Int, augP p a b = some (f a b)) (hr : PSs X rest (tC W ws (evC Γ asg k))) :
    PSs X (.AugAssign (.Name x pos') op e pos :: rest) (tC W ws (evC Γ asg (.augI i p e' k))) := by
  refine pss_imp (pss_cons (ps_aug hN hi hx (pe_kep he) ho hf) hr) fun D σ H z => ?_
  obtain ⟨F, ρ, hl, er, g⟩ := z
  have g : gO W ws (match ρ[i]? with
    | some (.shr (.int x)) => ofR (evL Γ asg (.cons e' .nil) ρ) fun (ds, ρ1) => match ds with
      | [.int y] => (match augP p x y with
        | some z => evC Γ asg k (ρ1.set i (.shr (.int z)))
        | none => .bad)
      | _ => .bad
    | _ => .bad) F H σ ρ D := g
  split at g
  · rename_i x0 e2
    obtain ⟨v, e3⟩ := zp_at hl e2
    obtain ⟨Rs, pp, _⟩ := zp_split e3 e2
    obtain ⟨u, e4, rp⟩ := er.each _ (pp.mem_iff.mpr List.mem_cons_self)
    cases e4
    cases rp
    refine ⟨_, e3, ?_⟩
    have g2 : gO W ws (ofR (kep (evE Γ asg e') ρ) fun y => match y.1 with
      | .int b => evC Γ asg k (y.2.set i (.shr (.int (f x0 b))))
      | _ => .bad) F H σ ρ D := by
      have e0 : evL Γ asg (.cons e' .nil) ρ = (kep (evE Γ asg e') ρ).bind fun y => R.ok ([y.1], y.2) := rfl
      rw [e0] at g
      cases q : kep (evE Γ asg e') ρ with
      | bad => rw [q] at g; exact g
      | exc c o => rw [q] at g; exact g
      | ok y =>
        rw [q] at g
        obtain ⟨d, ρ1⟩ := y
        cases d with
        | int b =>
          have g : gO W ws (match augP p x0 b with
            | some z => evC Γ asg k (ρ1.set i (.shr (.int z)))
            | none => .bad) F H σ ρ D := g
          rw [hp] at g
          exact g
        | _ => exact False.elim g
    refine stepO0 (r := kep (evE Γ asg e')) (At.refl (ws := ws) hl er) g2 fun v d ρ1 F1 H1 e1 hl1 _ rel g1 => ?_
    dsimp only at g1
    have rel : Rel F H (zp σ ρ) F1 H1 ((some v, .shr d) :: zp σ ρ1) := rel
    have rpv := rel.er.rpv
    cases d with
    | int b =>
      cases rpv
      refine ⟨x0, b, rfl, rfl, ?_⟩
      have hi1 : i < ρ1.length := by rw [hl1]; exact (List.getElem?_eq_some_iff.mp e3).1
      exact tailO (At.set rfl hl1 .refl hi1 hw (rel.tail.shr (.int _))) g1
    | _ => exact False.elim g1
  · exact g.elim
end
end Mx

end
section
set_option Elab.async false
set_option linter.all false
set_option autoImplicit false
set_option maxRecDepth 100000
set_option maxHeartbeats 4000000
set_option exponentiation.threshold 5000
/-! MxP5: slices, index, count, isinstance, tuples turned. -/
namespace Mx
open PySem PySem.Spec L2
variable [CA]
theorem cutIx_sIx {n d : Nat} {v : Option Int} : cutIx n d v = HT.sIx n d v := by cases v <;> rfl
theorem rp_cut {F : Hp} {us : List V} {ds : List D} {lo hi : Option Int} (r : RpL F us ds) : RpL F (cutV us lo hi) (cut ds lo hi) := by
  unfold cut cutV
  rw [r.len, cutIx_sIx, cutIx_sIx]
  exact (r.drop _).take _
theorem cutStr_eq (z : Str) (lo hi : Option Int) : cutStr z lo hi = cutS z lo hi := by
  unfold cutStr cutS cut
  rw [cutIx_sIx, cutIx_sIx]
  rfl
theorem cut_whole {α : Type} {xs : List α} {lo hi : Option Int} (h : HT.sIx xs.length 0 lo = 0 ∧ HT.sIx xs.length xs.length hi = xs.length) : cut xs lo hi = xs := by
  unfold cut
  rw [cutIx_sIx, cutIx_sIx, h.1, h.2]
  simp
/-- what a slice is of data -/
def slD (d : D) (lo hi : Option Int) : Option Sl := match d with
  | .lst xs => some (.own (.lst (cut xs lo hi)))
  | .tup xs => okShr (.tup (cut xs lo hi))
  | .str x => if x.length < LIM then okShr (.str (cutStr x lo hi)) else none
  | _ => none
def rSl : V → Option Int → Option Int → Hp → VK → Prop := fun x lo hi H Q => ∃ F d s, Le F H ∧ Bp F H x d ∧ slD d lo hi = some s ∧ ∀ v F' H', New F H F' H' v s → Q v H'
section
variable {X : Cx}
theorem os_slice : SlR X rSl := by
  refine slr_imp (SlR.or (SlR.or sl_list sl_tupA) sl_str) fun x lo hi H Q h => ?_
  obtain ⟨F, d, s, le, b, g, k⟩ := h
  cases d <;> first | (cases g; done) | skip
  · rename_i z
    obtain rfl := b.str
    have g : (if z.length < LIM then okShr (.str (cutStr z lo hi)) else none) = some s := g
    by_cases hz : z.length < LIM
    · rw [if_pos hz, cutStr_eq] at g
      exact .inr ⟨z, rfl, lim_le hz, give k g le (.str _)⟩
    · rw [if_neg hz] at g; cases g
  · cases g
    obtain ⟨a, us, rfl, e, r⟩ := b.lst le
    exact .inl (.inl ⟨a, us, rfl, .inl e, fun p hp => k _ _ _ (.ownL le hp (rp_cut r))⟩)
  · rename_i ds
    cases g
    obtain ⟨a, us, rfl, e, r⟩ := b.tup
    refine .inl (.inr ⟨a, us, rfl, .of (le _ _ e), fun hw => ?_, fun _ p hp => k _ _ _ (.tup le hp (rp_cut r))⟩)
    rw [r.len] at hw
    have k := k (.ref a) F H
    rw [cut_whole hw] at k
    exact k (.old le (.tup e r))
end
section
variable {Γ : Tab} {asg : Nat → List Bool} {X : Cx} {W : WE} {a b c : Expr} {a' b' c' : E} {pos p2 : Pos}
theorem rd_part {σ : St} {H : Hp} {v : V} {d : D} {F : Hp} (b : Bp F H v d) {i : Int} (e : d = .int i) : v = .int i := by subst e; exact b.int
/-- the data of the operands so far, to the end -/
theorem sl_end {g : List D → Option Sl} {F0 H0 F H : Hp} {σ : St} {ρ0 ρ : Env} {vs : List V} {os : List Opd} {G : Lt} {Q : VK} {W : WE} (hl : ρ.length = σ.length) (ok : okOs σ vs os) (rel : Rel F0 H0 (zp σ ρ0) F H (G ++ zp σ ρ)) (hG : ∀ p ∈ enOs vs os, p ∈ G)
    (h : gR W enE okE (match (gets ρ os).bind g with | some s => R.ok (s, ρ) | none => .bad) F0 H0 σ ρ0 Q) : rD g vs H Q := by
  cases eg : gets ρ os with
  | none => rw [eg] at h; exact h.elim
  | some ds =>
    rw [eg] at h
    cases es : g ds with
    | none =>
      have h : gR W enE okE (match g ds with | some s => R.ok (s, ρ) | none => .bad) F0 H0 σ ρ0 Q := h
      rw [es] at h; exact h.elim
    | some s =>
      have h : gR W enE okE (match g ds with | some s => R.ok (s, ρ) | none => .bad) F0 H0 σ ρ0 Q := h
      rw [es] at h
      refine ⟨F, ds, s, rel.er.le, bpL_of rel.er (fun p hp => List.mem_append_right _ hp) (fun p hp => List.mem_append_left _ (hG p hp)) ok eg, es, fun v F' H' n => ?_⟩
      have er1 : ER F H (zp σ ρ) := rel.er.sub (List.sublist_append_right _ _)
      exact gR_ok h hl trivial ((rel.subR (List.sublist_append_right _ _)).trans (n.rel er1))
theorem pe_sl01 (ha : PE X a (tO W (opd (isVar a') (evE Γ asg a')))) (hb : PE X b (tO W (opd (isVar b') (evE Γ asg b')))) :
    PE X (.Subscript a (.Slice none (some b) none p2) pos) (tE W (evE Γ asg (.pr (.slc false true) (.cons a' (.cons b' .nil))))) := by
  refine pe_imp (pe_slice os_slice ha po_none (po_some hb)) fun σ H Q z => ?_
  rw [ev_pr2] at z
  show tO W (opd (isVar a') (evE Γ asg a')) σ H fun x H1 => tO W (opd (isVar b') (evE Γ asg b')) σ H1 fun y H3 => ∃ i, y = .int i ∧ rSl x none (some i) H3 Q
  refine step0 z fun F ρ hl er x oa ρ1 F1 H1 e1 hl1 ok1 rel1 g1 => ?_
  refine step (f := fun (ob, ρ2) => prE (.slc false true) [oa, ob] ρ2) rel1 hl1 g1 fun y ob ρ2 F2 H2 e2 hl2 ok2 rel2 g2 => ?_
  have rel3 : Rel F H (zp σ ρ) F2 H2 ((enO y ob ++ enO x oa) ++ zp σ ρ2) := by rw [List.append_assoc]; exact rel2
  have := sl_end (g := pr (.slc false true)) (W := W) (vs := [x, y]) (os := [oa, ob]) hl2 ⟨ok1, ok2, trivial⟩ rel3 (fun q hq => by
    rcases mem_enOs2 hq with h | h
    · exact List.mem_append_right _ h
    · exact List.mem_append_left _ h) (Q := Q) g2
  obtain ⟨F', ds, s, le, b, e, k⟩ := this
  obtain ⟨d, e', rfl, b1, b2⟩ := b.two
  cases e' <;> first | (cases d <;> (have g' : (none : Option Sl) = some s := e; cases g'); done) | skip
  rename_i j
  obtain rfl := b2.int
  refine ⟨j, rfl, F', d, s, le, b1, ?_, k⟩
  cases d <;> first | (have g' : (none : Option Sl) = some s := e; cases g'; done) | exact e
theorem pe_sl10 (ha : PE X a (tO W (opd (isVar a') (evE Γ asg a')))) (hb : PE X b (tO W (opd (isVar b') (evE Γ asg b')))) :
    PE X (.Subscript a (.Slice (some b) none none p2) pos) (tE W (evE Γ asg (.pr (.slc true false) (.cons a' (.cons b' .nil))))) := by
  refine pe_imp (pe_slice os_slice ha (po_some hb) po_none) fun σ H Q z => ?_
  rw [ev_pr2] at z
  show tO W (opd (isVar a') (evE Γ asg a')) σ H fun x H1 => tO W (opd (isVar b') (evE Γ asg b')) σ H1 fun y H3 => ∃ i, y = .int i ∧ rSl x (some i) none H3 Q
  refine step0 z fun F ρ hl er x oa ρ1 F1 H1 e1 hl1 ok1 rel1 g1 => ?_
  refine step (f := fun (ob, ρ2) => prE (.slc true false) [oa, ob] ρ2) rel1 hl1 g1 fun y ob ρ2 F2 H2 e2 hl2 ok2 rel2 g2 => ?_
  have rel3 : Rel F H (zp σ ρ) F2 H2 ((enO y ob ++ enO x oa) ++ zp σ ρ2) := by rw [List.append_assoc]; exact rel2
  have := sl_end (g := pr (.slc true false)) (W := W) (vs := [x, y]) (os := [oa, ob]) hl2 ⟨ok1, ok2, trivial⟩ rel3 (fun q hq => by
    rcases mem_enOs2 hq with h | h
    · exact List.mem_append_right _ h
    · exact List.mem_append_left _ h) (Q := Q) g2
  obtain ⟨F', ds, s, le, b, e, k⟩ := this
  obtain ⟨d, e', rfl, b1, b2⟩ := b.two
  cases e' <;> first | (cases d <;> (have g' : (none : Option Sl) = some s := e; cases g'); done) | skip
  rename_i j
  obtain rfl := b2.int
  refine ⟨j, rfl, F', d, s, le, b1, ?_, k⟩
  cases d <;> first | (have g' : (none : Option Sl) = some s := e; cases g'; done) | exact e
theorem mem_enOs3 {v w x : V} {o u t : Opd} {q : En} (h : q ∈ enOs [v, w, x] [o, u, t]) : q ∈ enO v o ∨ q ∈ enO w u ∨ q ∈ enO x t := by
  have h : q ∈ enO v o ++ enOs [w, x] [u, t] := h
  rcases List.mem_append.mp h with h | h
  · exact .inl h
  · exact .inr (mem_enOs2 h)
theorem sl3_imp {σ : St} {H : Hp} {Q : VK} (z : tE W (evE Γ asg (.sl3 a' b' c')) σ H Q) :
    tO W (opd (isVar a') (evE Γ asg a')) σ H fun x H1 => tO W (opd (isVar b') (evE Γ asg b')) σ H1 fun y H3 => ∃ i, y = .int i ∧ tO W (opd (isVar c') (evE Γ asg c')) σ H3 fun y2 H4 => ∃ j, y2 = .int j ∧ rSl x (some i) (some j) H4 Q := by
  refine step0 (f := fun x => (opd (isVar b') (evE Γ asg b') x.2).bind fun y => match y.1 with
    | .val (.int i) => (opd (isVar c') (evE Γ asg c') y.2).bind fun z => prE (.slc true true) [x.1, .val (.int i), z.1] z.2
    | _ => .bad) z fun F ρ hl er x oa ρ1 F1 H1 e1 hl1 ok1 rel1 g1 => ?_
  refine step (f := fun y => match y.1 with
    | .val (.int i) => (opd (isVar c') (evE Γ asg c') y.2).bind fun z => prE (.slc true true) [oa, .val (.int i), z.1] z.2
    | _ => .bad) rel1 hl1 g1 fun y ob ρ2 F2 H2 e2 hl2 ok2 rel2 g2 => ?_
  dsimp only at g2
  split at g2
  · rename_i i
    have ey : y = .int i := by
      have w := rel2.er.each (some y, .shr (.int i)) (List.mem_append_left _ List.mem_cons_self)
      obtain ⟨u, eu, rp⟩ := w
      cases eu; cases rp; rfl
    refine ⟨i, ey, ?_⟩
    have rel2' : Rel F H (zp σ ρ) F2 H2 ((enO y (.val (.int i)) ++ enO x oa) ++ zp σ ρ2) := by rw [List.append_assoc]; exact rel2
    refine step (f := fun z => prE (.slc true true) [oa, .val (.int i), z.1] z.2) rel2' hl2 g2 fun y2 oc ρ3 F3 H3 e3 hl3 ok3 rel3 g3 => ?_
    have rel4 : Rel F H (zp σ ρ) F3 H3 ((enO y2 oc ++ (enO y (.val (.int i)) ++ enO x oa)) ++ zp σ ρ3) := by rw [List.append_assoc]; exact rel3
    have := sl_end (g := pr (.slc true true)) (W := W) (vs := [x, y, y2]) (os := [oa, .val (.int i), oc]) hl3 ⟨ok1, ok2, ok3, trivial⟩ rel4 (fun q hq => by
      rcases mem_enOs3 hq with h | h | h
      · exact List.mem_append_right _ (List.mem_append_right _ h)
      · exact List.mem_append_right _ (List.mem_append_left _ h)
      · exact List.mem_append_left _ h) (Q := Q) g3
    obtain ⟨F', ds, s, le, b, e, k⟩ := this
    obtain ⟨d, e', f', rfl, b1, b2, b3⟩ := b.three
    cases e' <;> first | (cases d <;> (have g' : (none : Option Sl) = some s := e; cases g'); done) | skip
    cases f' <;> first | (cases d <;> (have g' : (none : Option Sl) = some s := e; cases g'); done) | skip
    rename_i i2 j
    have := b2.int
    rw [ey] at this
    cases this
    obtain rfl := b3.int
    refine ⟨j, rfl, F', d, s, le, b1, ?_, k⟩
    cases d <;> first | (have g' : (none : Option Sl) = some s := e; cases g'; done) | exact e
  · exact g2.elim
theorem pe_sl11 (ha : PE X a (tO W (opd (isVar a') (evE Γ asg a')))) (hb : PE X b (tO W (opd (isVar b') (evE Γ asg b')))) (hc : PE X c (tO W (opd (isVar c') (evE Γ asg c')))) :
    PE X (.Subscript a (.Slice (some b) (some c) none p2) pos) (tE W (evE Γ asg (.sl3 a' b' c'))) :=
  pe_imp (pe_slice os_slice ha (po_some hb) (po_some hc)) fun σ H Q z => sl3_imp z
end
end Mx

end
section
set_option Elab.async false
set_option linter.all false
set_option autoImplicit false
set_option maxRecDepth 100000
set_option maxHeartbeats 4000000
set_option exponentiation.threshold 5000
/-! MxP6: methods, isinstance, tuples turned. -/
namespace Mx
open PySem PySem.Spec L2
open PySem.W (alike alikeAll dataLt keyToks keyToksAll EachIs AllAlike Sortable)
variable [CA]
theorem mtr_imp {X : Cx} {id : String} {r r' : V → List V → Hp → VK → Prop} (h : MtR X id r) (k : ∀ x xs H Q, r' x xs H Q → r x xs H Q) : MtR X id r' := fun pins s σ H x xs v us Q I rx rxs w => h pins s σ H x xs v us Q I rx rxs (k x xs H Q w)
theorem readsL {X : Cx} {pins : List (Addr × Obj)} {σ : St} {H F : Hp} {s : Shared} (I : Inv X pins σ H s) (le : Le F H) {n : Nat} {ds : List D} {xs : List V} {us : List Value} (h : ds.all (plainD n) = true) (r : RpL F xs ds) (v : Vals xs us) : ∃ as, ReadsAll s.heap us (toPyL ds) as :=
  Dp.readsAll I (toPyL ds) xs us (rp_dpL le n ds xs h r) v
theorem countP_py {n m : Nat} {d : D} (hd : plainD m d = true) : ∀ {xs : List D}, xs.all (plainD n) = true → (toPyL xs).countP (fun z => PyData.eqv z (toPy d)) = xs.countP fun z => eqb z d
  | [], _ => rfl
  | x :: xs, h => by
    obtain ⟨h1, h2⟩ := plain_cons h
    show (toPy x :: toPyL xs).countP _ = _
    rw [List.countP_cons, List.countP_cons, countP_py hd h2, eqv_eqb n m x d h1 hd]
theorem place_py {n m : Nat} {d : D} (hd : plainD m d = true) : ∀ {xs : List D}, xs.all (plainD n) = true → PySem.SeqAt.dataPlace (toPyL xs) (toPy d) = xs.findIdx? fun z => eqb z d
  | [], _ => rfl
  | x :: xs, h => by
    obtain ⟨h1, h2⟩ := plain_cons h
    show List.findIdx? _ (toPy x :: toPyL xs) = _
    have ih : List.findIdx? (fun y => PyData.eqv y (toPy d)) (toPyL xs) = xs.findIdx? fun z => eqb z d := place_py hd h2
    rw [List.findIdx?_cons, List.findIdx?_cons, ih, eqv_eqb n m x d h1 hd]
theorem rdm_two {g : List D → Option Sl} {x : V} {xs : List V} {H : Hp} {Q : VK} (h : rDm g x xs H Q) (hn : ∀ ds s, g ds = some s → ds.length = 2) : ∃ y, xs = [y] ∧ ∃ F d e s, Le F H ∧ Bp F H x d ∧ Bp F H y e ∧ g [d, e] = some s ∧ ∀ v F' H', New F H F' H' v s → Q v H' := by
  obtain ⟨x', y, e, r⟩ := rd_two h hn
  cases e
  exact ⟨y, rfl, r⟩
section
variable {X : Cx}
theorem Vals.one1 {x : V} {us : List Value} (r : Vals [x] us) : ∃ u, us = [u] ∧ RelV x u := vals1 r
theorem ob_index (hu : X.A.units + 70 < cLine) : MtR X "list.index" (rDm (pr .index)) := by
  intro pins s σ H x xs v us Q I rx rxs h
  obtain ⟨y, rfl, F, d, e, z, le, b1, b2, g, k⟩ := rdm_two h (by (intro ds s h; rcases ds with _ | ⟨d, _ | ⟨e, _ | ⟨f, r⟩⟩⟩ <;> first | rfl | (have h' : (none : Option Sl) = some s := h; cases h'; done) | (cases d <;> (have h' : (none : Option Sl) = some s := h; cases h'; done)) | (cases d <;> cases e <;> (have h' : (none : Option Sl) = some s := h; cases h'; done))))
  cases d <;> first | (have g' : (none : Option Sl) = some z := g; cases g'; done) | skip
  rename_i ds
  have g : (if plainD 60 e && ds.all (plainD 60) then (ds.findIdx? fun y => eqb y e).bind fun j => okShr (.int j) else none) = some z := g
  by_cases hp : (plainD 60 e && ds.all (plainD 60)) = true
  · rw [if_pos hp] at g
    obtain ⟨h1, h2⟩ := Bool.and_eq_true_iff.mp hp
    cases ej : ds.findIdx? fun y => eqb y e with
    | none => rw [ej] at g; cases g
    | some j =>
      rw [ej] at g
      obtain ⟨u, rfl, ry⟩ := vals1 rxs
      obtain ⟨a, ws, rfl, ha, r⟩ := b1.lst le
      cases rx
      obtain ⟨its, rv, ⟨⟨cls, dd, data, sls⟩, n, ho, hc, hdn, hdt⟩, hlen⟩ := I.list (.inl ha)
      simp only at hc hdt
      subst hc hdt
      obtain ⟨as, rs⟩ := readsL I le h2 r rv
      obtain ⟨bs, ry'⟩ := reads_of I le h1 b2 ry
      obtain ⟨p1, q1⟩ := plain_py 60 e h1
      obtain ⟨p2, q2⟩ := plain_pyL 60 ds h2
      have hpl : PySem.SeqAt.dataPlace (toPyL ds) (toPy e) = some j := by rw [place_py h1 h2]; exact ej
      obtain ⟨hj, hit, hno⟩ := PySem.SeqAt.hit_at (vs := its.toArray) (show ReadsAll s.heap its.toArray.toList (toPyL ds) as from rs) p2 hpl
      have hvl := rv.length
      have hsl := sizeLine_eq
      have hj2 : j < its.length := by simpa using hj
      refine call_meets PySem.F.slot_list_index ⟨_, ho, rfl⟩ PySem.F.entry_list_index (PySem.F.args_list_index_2 _ _)
        (SeqAt.list_indexAt a its.toArray n dd sls u (fun u => PyData.eqv (SeqAt.readOf s.heap u) (toPy e)) j hj (by omega) hit hno) ⟨ho, SeqAt.items_plain (vs := its.toArray) (show ReadsAll s.heap its.toArray.toList (toPyL ds) as from rs) ry' p2 p1 (show X.A.units + 1 + _ < _ by omega), ?_⟩
      exact ⟨.int (j : Nat), H, I.tok _, ⟨_, rfl⟩, give k g le (.int _)⟩
  · rw [if_neg hp] at g; cases g
theorem ob_count (hu : X.A.units + 70 < cLine) : MtR X "list.count" (rDm (pr .count)) := by
  intro pins s σ H x xs v us Q I rx rxs h
  obtain ⟨y, rfl, F, d, e, z, le, b1, b2, g, k⟩ := rdm_two h (by (intro ds s h; rcases ds with _ | ⟨d, _ | ⟨e, _ | ⟨f, r⟩⟩⟩ <;> first | rfl | (have h' : (none : Option Sl) = some s := h; cases h'; done) | (cases d <;> (have h' : (none : Option Sl) = some s := h; cases h'; done)) | (cases d <;> cases e <;> (have h' : (none : Option Sl) = some s := h; cases h'; done))))
  cases d <;> first | (have g' : (none : Option Sl) = some z := g; cases g'; done) | skip
  rename_i ds
  have g : (if plainD 60 e && ds.all (plainD 60) then okShr (.int (ds.countP fun y => eqb y e : Nat)) else none) = some z := g
  by_cases hp : (plainD 60 e && ds.all (plainD 60)) = true
  · rw [if_pos hp] at g
    obtain ⟨h1, h2⟩ := Bool.and_eq_true_iff.mp hp
    obtain ⟨u, rfl, ry⟩ := vals1 rxs
    obtain ⟨a, ws, rfl, ha, r⟩ := b1.lst le
    cases rx
    obtain ⟨its, rv, hpl, hlen⟩ := I.list (.inl ha)
    obtain ⟨as, rs⟩ := readsL I le h2 r rv
    obtain ⟨bs, ry'⟩ := reads_of I le h1 b2 ry
    obtain ⟨p1, q1⟩ := plain_py 60 e h1
    obtain ⟨p2, q2⟩ := plain_pyL 60 ds h2
    refine PySem.SeqAt.count_list_data (vs := its.toArray) hpl.isList rs ry' p2 p1 (by omega) ?_
    rw [countP_py h1 h2]
    exact ⟨.int _, H, I.tok _, ⟨_, rfl⟩, give k g le (.int _)⟩
  · rw [if_neg hp] at g; cases g

/-! ### isinstance -/
def tyName : Ty → String
  | .int => "int" | .bool => "bool" | .str => "str" | .tuple => "tuple" | .list => "list" | .dict => "dict"
inductive Kd where | non | bl | int | str | lst | tup | dic
def Kd.name : Kd → String
  | .non => "NoneType" | .bl => "bool" | .int => "int" | .str => "str" | .lst => "list" | .tup => "tuple" | .dic => "dict"
def Kd.isTy : Kd → Ty → Bool
  | .int, .int => true
  | .bl, .int => true
  | .bl, .bool => true
  | .str, .str => true
  | .tup, .tuple => true
  | .lst, .list => true
  | .dic, .dict => true
  | _, _ => false
theorem kit_k (k : Kd) (t : Ty) : kitB k.name (tyName t) = some (k.isTy t) := by cases k <;> cases t <;> decide +kernel
def kdOf : D → Kd
  | .non => .non | .bl _ => .bl | .int _ => .int | .str _ => .str | .lst _ => .lst | .tup _ => .tup | .dic _ => .dic | .exc _ => .non
theorem kit_d {K : PySem.W.Frag} (d : D) (t : Ty) : PySem.W.kitOne K (.type (kdOf d).name) (.type (tyName t)) = some (d.isTy t) := by
  rw [kit_ty (kit_k (kdOf d) t)]
  cases d <;> cases t <;> rfl
theorem bp_ty {F H : Hp} {K : PySem.W.Frag} (le : Le F H) {x : V} {d : D} (b : Bp F H x d) (hn : d.isExc = false) (t : Ty) : ∃ u, TyX K H x u ∧ PySem.W.kitOne K u (.type (tyName t)) = some (d.isTy t) := by
  cases d with
  | non => obtain rfl := b.non; exact ⟨_, .base .non, kit_d (K := K) (.non) t⟩
  | bl c => obtain rfl := b.bl; exact ⟨_, .base (.bl c), kit_d (K := K) (.bl c) t⟩
  | int c => obtain rfl := b.int; exact ⟨_, .base (.int c), kit_d (K := K) (.int c) t⟩
  | str c => obtain rfl := b.str; exact ⟨_, .base (.str c), kit_d (K := K) (.str c) t⟩
  | lst c => obtain ⟨a, us, rfl, e, r⟩ := b.lst le; exact ⟨_, .base (e.elim (fun e => .lst e) fun ⟨o, e⟩ => .frz e), kit_d (K := K) (.lst c) t⟩
  | tup c => obtain ⟨a, us, rfl, e, r⟩ := b.tup; exact ⟨_, .base (.tup (le _ _ e)), kit_d (K := K) (.tup c) t⟩
  | exc c => cases hn
  | dic c => obtain ⟨a, us, rfl, e, r⟩ := b.dic le; exact ⟨_, .base (.dK e), kit_d (K := K) (.dic c) t⟩
/-- isinstance(x, T) of data -/
def rIsiD (t : Ty) : List V → Hp → VK → Prop := fun xs H Q => ∃ x, xs = [x, .ty (tyName t)] ∧ rD (pr (.isI t)) [x] H Q
theorem ob_isi {t : Ty} : CallR X (.builtin "isinstance") (rIsiD t) := by
  refine callr_imp call_isi fun xs H Q h => ?_
  obtain ⟨x, rfl, h⟩ := h
  obtain ⟨F, d, s, le, b, g, k⟩ := rd1 h
  have g : (if d.isExc then none else okShr (.bl (d.isTy t))) = some s := g
  cases hx : d.isExc with
  | true => rw [hx] at g; cases g
  | false =>
  rw [hx] at g
  obtain ⟨u, h1, h2⟩ := bp_ty (K := X.K) le b hx t
  exact ⟨x, .ty (tyName t), u, .type (tyName t), d.isTy t, rfl, .ty _, h1, h2, give k g le (.bl _)⟩

/-! ### isinstance of an error -/
structure ErrsOk (K : PySem.W.Frag) : Prop where
  cls : ∀ c, errs.contains c = true → ExcC K (CA.ca c)
  one : ∀ c n, errs.contains c = true → errs.contains n = true → PySem.W.kitOne K (.ref (CA.ca c)) (.ref (CA.ca n)) = some (n == c)
  seat : ∀ c, errs.contains c = true → PySem.W.kitOne K (.ref (CA.ca c)) (.ref (CA.ca "SeatError")) = some true
  ve : ∀ c, errs.contains c = true → PySem.W.kitOne K (.ref (CA.ca c)) (.type "ValueError") = some true
  exm : ∀ c, errs.contains c = true → PySem.W.exmOne K (.ref (CA.ca c)) (.ref (CA.ca "SeatError")) = some true
def clsV (n : Str) : V := if n = "ValueError" then .ty "ValueError" else .ref (CA.ca n)
def rIsX (n : Str) : List V → Hp → VK → Prop := fun xs H Q => ∃ x, xs = [x, clsV n] ∧ rD (pr (.isX n)) [x] H Q
theorem ob_isx {n : Str} (hn : errs.contains n = true ∨ n = "SeatError" ∨ n = "ValueError") (hE : ErrsOk X.K) : CallR X (.builtin "isinstance") (rIsX n) := by
  intro pins s σ H xs us Q I r h
  obtain ⟨x, rfl, h⟩ := h
  obtain ⟨F, d, z, le, b, g, k⟩ := rd1 h
  cases d <;> first | (have g' : (none : Option Sl) = some z := g; cases g'; done) | skip
  rename_i c
  have g : (if errs.contains c then okShr (.bl (upE.contains n || n == c)) else none) = some z := g
  by_cases hc : errs.contains c = true
  · rw [if_pos hc] at g
    have b : Rp F x (.exc c) := by
      rcases b with b | ⟨a, rfl, b⟩
      · exact b
      · exact b.2.elim
    cases b with
    | exc e =>
      rename_i a
      obtain ⟨⟨oe, vs, ha, hz, hv⟩, _⟩ := I.hok a _ (le _ _ e)
      obtain ⟨u1, u2, rfl, r1, r2⟩ := vals2 r
      cases r1
      have C := hE.cls c hc
      have J : PySem.W.InstAt s.heap a oe (CA.ca c) none := by
        obtain ⟨oc, od, oda, osl⟩ := oe
        obtain ⟨h1, h2⟩ := hz
        dsimp only at h1 h2 hv
        subst h1 h2 hv
        exact ⟨ha, rfl, rfl, trivial⟩
      have key : ∀ (cv : Value) (b : Bool), u2 = cv → PySem.W.kitOne X.K (.ref (CA.ca c)) cv = some b → okShr (.bl b) = some z → wpAny (model X.prog X.w) X.A (call (.builtin "isinstance") [.ref a, u2]) (EP X pins σ Q) X.xe s := fun cv b e1 e2 g => by
        subst e1
        exact PySem.W.kia_one (PySem.W.handS_kitx_exc C.hg C.hk C.hs C.hd C.ha C.hn C.ht C.hm) I.kIn J e2 (fun z => nomatch z) fun tk => ⟨.bl b, H, I.kept (t' := tk) fun _ _ z => z, rfl, give k g le (.bl _)⟩
      unfold clsV at r2
      by_cases hv : n = "ValueError"
      · rw [if_pos hv] at r2
        have : (upE.contains n || n == c) = true := by rw [hv]; rfl
        rw [this] at g
        exact key _ _ r2 (hE.ve c hc) g
      · rw [if_neg hv] at r2
        rcases hn with hn | hn | hn
        · have : upE.contains n = false := by
            cases q : upE.contains n with
            | false => rfl
            | true =>
              have q : n ∈ upE := by simpa using q
              have hn : n ∈ errs := by simpa using hn
              simp only [upE, List.mem_cons, List.mem_singleton, List.not_mem_nil, or_false] at q
              rcases q with rfl | rfl
              · exact absurd hn (by decide)
              · exact absurd rfl hv
          rw [this, Bool.false_or] at g
          exact key _ _ r2 (hE.one c n hc hn) g
        · have : (upE.contains n || n == c) = true := by rw [hn]; rfl
          rw [this] at g
          rw [hn] at r2
          exact key _ _ r2 (hE.seat c hc) g
        · exact absurd hn hv
  · rw [if_neg hc] at g; cases g
end
end Mx
namespace Mx
open PySem PySem.Spec L2 HT PyProof.Rows
variable [CA]
/-! ### t[::-1] -/
section
variable {prog : Program} {w : World} {A : Around} {E : Value → Shared → Prop} {s : Shared}
theorem adj_rev (n : Nat) : Builtin.Slice.sliceAdjust none none (-1) (n : Int) = ((n : Int) - 1, -1) := by
  unfold Builtin.Slice.sliceAdjust
  rfl
theorem places_rev (n : Nat) : Builtin.Slice.slicePlaces ((n : Int) - 1) (-1) (-1) = n := by
  unfold Builtin.Slice.slicePlaces
  have h1 : ¬ ((-1 : Int) > 0) := by omega
  simp only [h1, if_false]
  by_cases h : ((n : Int) - 1) > -1
  · rw [if_pos h]
    have : (-(-1 : Int)) = 1 := rfl
    rw [this, Int.ediv_one]
    omega
  · rw [if_neg h]
    omega
theorem applied_rev {sl : Addr} {vl vu vs : Value} {n : Nat} {Q : Int × Int × Nat → Shared → Prop} (hs : s.heap.IsSliceOf sl vl vu vs) (pl : IsPart vl none) (pu : IsPart vu none) (ps : IsPart vs (some (-1)))
    (h : Q ((n : Int) - 1, -1, n) s) : wpAny (model prog w) A (Builtin.Slice.sliceApplied (.ref sl) (pure (n : Int))) Q E s := by
  obtain ⟨os, hos, hcs, hds⟩ := id hs
  unfold Builtin.Slice.sliceApplied Builtin.Slice.sliceFields
  refine wpAny_bind (wpAny_bind (wpAny_field hos hds (x := vl) rfl (wpAny_bind (wpAny_field hos hds (x := vu) rfl (wpAny_bind (wpAny_field hos hds (x := vs) rfl (wpAny_pure ?_)))))))
  refine wpAny_bind (slicePart_ ps ?_)
  show wpAny _ _ (if ((-1 : Int) == 0) = true then _ else _) _ _ s
  rw [if_neg (by decide)]
  refine wpAny_bind (slicePart_ pl (wpAny_bind (slicePart_ pu (wpAny_bind (wpAny_pure ?_)))))
  show wpAny _ _ (match Builtin.Slice.sliceAdjust none none (-1) (n : Int) with | (lo, hi) => pure (lo, (-1 : Int), Builtin.Slice.slicePlaces lo hi (-1))) _ _ s
  rw [adj_rev]
  show wpAny _ _ (pure ((n : Int) - 1, (-1 : Int), Builtin.Slice.slicePlaces ((n : Int) - 1) (-1) (-1))) _ _ s
  rw [places_rev]
  exact wpAny_pure h
theorem fm_congr {α β : Type} {f g : α → Option β} : ∀ (l : List α), (∀ x ∈ l, f x = g x) → l.filterMap f = l.filterMap g
  | [], _ => rfl
  | x :: l, h => by
    rw [List.filterMap_cons, List.filterMap_cons, h x List.mem_cons_self, fm_congr l fun y hy => h y (List.mem_cons_of_mem _ hy)]
theorem pick_rev (xs : Array Value) : ((List.range xs.size).filterMap fun (m : Nat) => xs[((xs.size : Int) - 1 + (m : Int) * (-1)).toNat]?).toArray = xs.toList.reverse.toArray := by
  have e : (List.range xs.size).filterMap (fun (m : Nat) => xs[((xs.size : Int) - 1 + (m : Int) * (-1)).toNat]?) = (List.range xs.size).filterMap ((fun m => xs[m]?) ∘ fun k => xs.size - 1 - k) := by
    refine fm_congr _ fun m hm => ?_
    have hm : m < xs.size := List.mem_range.mp hm
    have : ((xs.size : Int) - 1 + (m : Int) * (-1)).toNat = xs.size - 1 - m := by omega
    rw [this]; rfl
  rw [e, ← List.filterMap_map, PySem.W.krv_range, List.filterMap_reverse, PySem.W.krv_all]
theorem od_revT {t sl : Addr} {items : Array Value} {vl vu vs : Value} {Q : Value → Shared → Prop} (ht : PyProof.Rows.IsTup s.heap t items)
    (hs : s.heap.IsSliceOf sl vl vu vs) (pl : IsPart vl none) (pu : IsPart vu none) (ps : IsPart vs (some (-1)))
    (h : Q (.ref s.heap.objs.size) { s with heap := s.heap.push { cls := .type "tuple", data := .seq items.toList.reverse.toArray } })
    (hsz : items.size ≤ sizeLine) : wpAny (model prog w) A (getItem (.ref t) (.ref sl)) Q E s := by
  have htake : sizeOk (.seq items.toList.reverse.toArray) := by
    show items.toList.reverse.toArray.size ≤ sizeLine
    rw [List.size_toArray, List.length_reverse, Array.length_toList]
    exact hsz
  obtain ⟨os, hos, hcs, hds⟩ := id hs
  have hTs : s.TypeIs (.ref sl) "slice" := ⟨os, hos, hcs⟩
  unfold getItem
  try with_reducible refine wpAny_holding ?_
  first | refine wpAny_bind (wpAny_pure ?_) | skip
  refine wpAny_bind (wpAny_sequenceKey ht.typeIs (by decide) ?_)
  refine wpAny_bind (wpAny_callSpecial?_slot (name := Str.ofString "__getitem__") ht.typeIs PyProof.Rows.slot_tuple_getitem (wpAny_call_entry PyProof.Rows.slot_tuple_getitem ht.typeIs entry_tuple_getitem ?_ (args_tuple_getitem _ _)))
  show wpAny _ _ (Builtin.Tuple.tupleItemsOf (.ref t) >>= _) _ _ s
  refine wpAny_bind (tupleItemsOf_ ht ?_)
  refine wpAny_bind (wpAny_typeOf hTs ?_)
  rw [if_pos (by decide)]
  refine wpAny_bind (applied_rev hs pl pu ps ?_)
  have hno : ¬ (((((items.size : Int) - 1) == 0) && ((-1 : Int) == 1) && (items.size == items.size)) = true) := by
    intro q
    rw [Bool.and_eq_true, Bool.and_eq_true] at q
    exact absurd q.1.2 (by decide)
  show wpAny _ _ (if ((((items.size : Int) - 1) == 0) && ((-1 : Int) == 1) && (items.size == items.size)) = true then _ else _) _ _ s
  rw [if_neg hno, pick_rev]
  first
    | exact wpAny_bind (m := Builtin.Tuple.tupleExact _) (wpAny_newObj_type (wpAny_pure ⟨_, rfl, wpAny_pure h⟩) htake)
    | exact wpAny_bind (m := Builtin.Tuple.tupleExact _) (wpAny_newObj_type (wpAny_bind (wpAny_pure (wpAny_pure ⟨_, rfl, wpAny_pure h⟩))) htake)
    | exact wpAny_bind (wpAny_bind (m := Builtin.Tuple.tupleExact _) (wpAny_newObj_type (wpAny_pure (wpAny_pure ⟨_, rfl, wpAny_pure h⟩)) htake))
    | exact wpAny_bind (wpAny_bind (m := Builtin.Tuple.tupleExact _) (wpAny_newObj_type (wpAny_pure ⟨_, rfl, wpAny_pure h⟩) htake))
end
end Mx

end
section
set_option Elab.async false
set_option linter.all false
set_option autoImplicit false
set_option maxRecDepth 100000
set_option maxHeartbeats 4000000
/-! MxS: what is walked. -/
namespace Mx
open PySem PySem.Spec L2
variable [CA]
theorem walkD_of {J : It} {us : List V} {xs : List D} {F1 : Hp} {n : Nat} {G : Hp → Prop} (hn : n = us.length) (r : RpL F1 us xs) (w : Walk J n G (YAt us)) (hg : ∀ H, Le F1 H → G H) : WalkD J F1 xs := by
  subst hn
  have e : xs.length = us.length := r.len.symm
  unfold WalkD
  rw [e]
  refine w.mono hg fun i H x H' hi _ y => ?_
  obtain ⟨rfl, y⟩ := y
  obtain ⟨d, e1, e2⟩ := r.getV y
  exact ⟨d, e1, fun F l1 l2 => ⟨F, .old l2 (e2.mono l1)⟩⟩
theorem New.pair {F H : Hp} {T : Addr} {x y : V} {d e : D} (le : Le F H) (hT : H T = none) (rx : Rp F x d) (ry : Rp F y e) : New F H (upd F T (.tup [x, y])) (upd H T (.tup [x, y])) (.ref T) (.shr (.tup [d, e])) :=
  New.tup le hT (.cons rx (.cons ry .nil))
section
variable {Γ : Tab} {asg : Nat → List Bool} {X : Cx} {W : WE} {tg e e2 : Expr} {e' e2' : E} {pos p : Pos}
theorem pi_imp {t t' : TI} (h : PI X tg e t) (k : ∀ σ H R, t' σ H R → t σ H R) : PI X tg e t' := ⟨fun pins s σ H R I hw => h.run pins s σ H R I (k σ H R hw)⟩
theorem pi_or {t t' : TI} (h : PI X tg e t) (h' : PI X tg e t') : PI X tg e (fun σ H R => t σ H R ∨ t' σ H R) := ⟨fun pins s σ H R I hw => hw.elim (h.run pins s σ H R I) (h'.run pins s σ H R I)⟩
theorem evL1 (ρ : Env) : evL Γ asg (.cons e' .nil) ρ = (kep (evE Γ asg e') ρ).bind fun x => R.ok ([x.1], x.2) := by
  show ((kep (evE Γ asg e') ρ).bind fun (d, ρ1) => (R.ok ([], ρ1)).bind fun (ds, ρ2) => R.ok (d :: ds, ρ2)) = _
  rfl
theorem val_imp {σ : St} {H : Hp} {R : It → Hp → Prop} (z : iD W (evL Γ asg (.cons e' .nil)) .val σ H R) :
    (iList X.K (tK W (kep (evE Γ asg e'))) σ H R ∨ iTup X.K (tK W (kep (evE Γ asg e'))) σ H R) ∨ iStr (tK W (kep (evE Γ asg e'))) σ H R := by
  obtain ⟨F, ρ, hl, er, g⟩ := z
  rw [evL1] at g
  cases q : kep (evE Γ asg e') ρ with
  | bad => rw [q] at g; exact g.elim
  | exc c ρ' =>
    rw [q] at g
    refine .inl (.inl ⟨F, ρ, hl, er, ?_⟩)
    show gR W enK okK (kep (evE Γ asg e') ρ) F H σ ρ _
    rw [q]
    exact g
  | ok y =>
    obtain ⟨d, ρ1⟩ := y
    rw [q] at g
    have g : (match itemsOf .val [d] with
      | some xs => ∀ J F1 H1, ρ1.length = σ.length → Rel F H (zp σ ρ) F1 H1 (zp σ ρ1) → WalkD J F1 xs → R J H1
      | none => False) := g
    have fin : ∀ {Q : V → Hp → Prop}, (∀ v F1 H1, ρ1.length = σ.length → Rel F H (zp σ ρ) F1 H1 ((some v, .shr d) :: zp σ ρ1) → Q v H1) → tK W (kep (evE Γ asg e')) σ H Q := fun {Q} k => by
      refine ⟨F, ρ, hl, er, ?_⟩
      show gR W enK okK (kep (evE Γ asg e') ρ) F H σ ρ _
      rw [q]
      exact fun v F1 H1 h1 _ rel => k v F1 H1 h1 rel
    cases d with
    | lst xs =>
      refine .inl (.inl (fin fun v F1 H1 h1 rel => ?_))
      have rp := rel.er.rpv
      cases rp with
      | lst ea r => exact ⟨_, rfl, ⟨_, .inl (rel.er.le.rd ea)⟩, g _ F1 H1 h1 rel.tail (walkD_of rfl r walk_list fun H le => .inl (le.rd ea))⟩
    | tup xs =>
      refine .inl (.inr (fin fun v F1 H1 h1 rel => ?_))
      have rp := rel.er.rpv
      cases rp with
      | tup ea r => exact ⟨_, rfl, ⟨_, .of (rel.er.le _ _ ea)⟩, g _ F1 H1 h1 rel.tail (walkD_of rfl r walk_tup fun H le => .of (le _ _ ea))⟩
    | str x =>
      refine .inr (fin fun v F1 H1 h1 rel => ?_)
      have rp := rel.er.rpv
      cases rp
      refine ⟨x, rfl, g _ F1 H1 h1 rel.tail ?_⟩
      unfold WalkD
      have el : (x.cps.toList.map fun c => D.str ⟨#[c]⟩).length = x.cps.size := by simp
      rw [el]
      refine walk_str.mono (fun _ _ => trivial) fun i H2 v H3 hi _ y => ?_
      obtain ⟨rfl, c, h1, rfl⟩ := y
      refine ⟨.str ⟨#[c]⟩, ?_, fun F l1 l2 => ⟨F, .old l2 (.str _)⟩⟩
      rw [List.getElem?_map, Array.getElem?_toList, h1]
      rfl
    | _ => exact g.elim
/-- a list, a tuple, a text -/
theorem pi_val (he : PE X e (tE W (evE Γ asg e'))) : PI X tg e (iD W (evL Γ asg (.cons e' .nil)) .val) :=
  pi_imp (pi_or (pi_or (pi_list (pe_kep he)) (pi_tup (pe_kep he))) (pi_str (pe_kep he))) fun _ _ _ z => val_imp z
/-- the operands of a source, kept -/
theorem src_imp {r : Env → R (List D × Env)} {k : K} {σ : St} {H : Hp} {Rk : It → Hp → Prop} {Q : List V → Hp → Prop} (z : iD W r k σ H Rk)
    (fin : ∀ (F : Hp) (ρ1 : Env) (ds xs : List D) (vs : List V) (F1 H1 : Hp), itemsOf k ds = some xs → vs.length = ds.length → RpL F1 vs ds → ER F1 H1 (zp σ ρ1) → (∀ J, WalkD J F1 xs → Rk J H1) → Q vs H1) : tL W r σ H Q := by
  obtain ⟨F, ρ, hl, er, g⟩ := z
  refine ⟨F, ρ, hl, er, ?_⟩
  cases q : r ρ with
  | bad => rw [q] at g; exact g
  | exc c ρ' => rw [q] at g; exact g
  | ok y =>
    obtain ⟨ds, ρ1⟩ := y
    rw [q] at g
    have g : (match itemsOf k ds with
      | some xs => ∀ J F1 H1, ρ1.length = σ.length → Rel F H (zp σ ρ) F1 H1 (zp σ ρ1) → WalkD J F1 xs → Rk J H1
      | none => False) := g
    intro vs F1 H1 h1 hv rel
    cases qi : itemsOf k ds with
    | none => rw [qi] at g; exact g.elim
    | some xs =>
      rw [qi] at g
      have rp := rpL_of rel.er hv fun p hp => List.mem_append_left _ hp
      exact fin F ρ1 ds xs vs F1 H1 qi hv rp (rel.er.sub (List.sublist_append_right _ _)) fun J wd => g J F1 H1 h1 (rel.subR (List.sublist_append_right _ _)) wd
theorem walkD_range {lo : Int} {n : Nat} {F1 : Hp} : WalkD (Itr lo n) F1 ((List.range n).map fun i => D.int (lo + (i : Nat))) := by
  unfold WalkD
  have el : ((List.range n).map fun i => D.int (lo + (i : Nat))).length = n := by simp
  rw [el]
  refine walk_range.mono (fun _ _ => trivial) fun i H2 v H3 hi _ y => ?_
  obtain ⟨rfl, rfl⟩ := y
  refine ⟨.int (lo + (i : Nat)), ?_, fun F l1 l2 => ⟨F, .old l2 (.int _)⟩⟩
  rw [List.getElem?_map, List.getElem?_range hi]
  rfl
theorem pi_rng1 (hg : Gl X "range") (hm : X.mg "range" = none) (ha : PA X [e] (tL W (evL Γ asg (.cons e' .nil)))) (hs : starEach [e] X.env = [(false, eval e X.env)]) :
    PI X tg (.Call (.Name "range" p) [e] [] pos) (iD W (evL Γ asg (.cons e' .nil)) .rng) := by
  refine pi_imp (pi_range1 hg hm ha hs) fun σ H R z => ?_
  refine src_imp z fun F ρ1 ds xs vs F1 H1 qi hv rp er k => ?_
  unfold itemsOf at qi
  split at qi <;> first | (cases qi; done) | skip
  all_goals (rename_i hk; first | (cases hk; done) | skip)
  rename_i n
  cases rp with
  | cons r1 rr =>
    cases rr
    cases r1
    by_cases hn : -LIM < n ∧ n < LIM
    · rw [if_pos hn] at qi
      cases qi
      have hL : LIM = 1000000 := by unfold LIM; rfl
      refine ⟨n, rfl, by omega, by omega, k _ ?_⟩
      have := walkD_range (lo := 0) (n := n.toNat) (F1 := F1)
      simpa using this
    · rw [if_neg hn] at qi; cases qi
theorem pi_rng2 (hg : Gl X "range") (hm : X.mg "range" = none) (ha : PA X [e, e2] (tL W (evL Γ asg (.cons e' (.cons e2' .nil))))) (hs : starEach [e, e2] X.env = [(false, eval e X.env), (false, eval e2 X.env)]) (hs2 : starEach [e2] X.env = [(false, eval e2 X.env)]) :
    PI X tg (.Call (.Name "range" p) [e, e2] [] pos) (iD W (evL Γ asg (.cons e' (.cons e2' .nil))) .rng2) := by
  refine pi_imp (pi_range2 hg hm ha hs hs2) fun σ H R z => ?_
  refine src_imp z fun F ρ1 ds xs vs F1 H1 qi hv rp er k => ?_
  unfold itemsOf at qi
  split at qi <;> first | (cases qi; done) | skip
  all_goals (rename_i hk; first | (cases hk; done) | skip)
  rename_i a b
  cases rp with
  | cons r1 rr =>
    cases r1
    cases rr with
    | cons r2 rr =>
      cases rr
      cases r2
      by_cases hn : (-LIM < a ∧ a < LIM) ∧ (-LIM < b ∧ b < LIM)
      · rw [if_pos hn] at qi
        cases qi
        have hL : LIM = 1000000 := by unfold LIM; rfl
        exact ⟨a, b, rfl, ⟨by omega, by omega, by omega, by omega⟩, k _ walkD_range⟩
      · rw [if_neg hn] at qi; cases qi
theorem walkD_enum {K : PySem.W.Frag} {a : Addr} {us : List V} {xs : List D} {F1 : Hp} (ha : Rd F1 a (.lst us)) (r : RpL F1 us xs) : WalkD (Ite K a) F1 (xs.zipIdx.map fun p => .tup [.int (p.2 : Nat), p.1]) := by
  unfold WalkD
  have el : (xs.zipIdx.map fun p => D.tup [.int (p.2 : Nat), p.1]).length = us.length := by simp [r.len]
  rw [el]
  refine walk_enum.mono (fun H le => .inl (le.rd ha)) fun i H2 v H3 hi _ y => ?_
  obtain ⟨T, x, y', rfl, hT, rfl, e1, e2⟩ := y
  cases e1
  obtain ⟨d, e3, rd⟩ := r.getV e2
  refine ⟨.tup [.int (i : Nat), d], ?_, fun F l1 l2 => ⟨_, .pair l2 hT (.int _) (rd.mono l1)⟩⟩
  rw [List.getElem?_map, List.getElem?_zipIdx, e3]
  simp
theorem pi_enm {elts : List Expr} {kk : Nat} {tpos : Pos} (hg : Gl X "enumerate") (hm : X.mg "enumerate" = none) (ha : PA X [e] (tL W (evL Γ asg (.cons e' .nil)))) (hs : starEach [e] X.env = [(false, eval e X.env)]) :
    PI X (.Tuple elts kk tpos) (.Call (.Name "enumerate" p) [e] [] pos) (iD W (evL Γ asg (.cons e' .nil)) .enum) := by
  refine pi_imp (pi_enum hg hm ha hs) fun σ H R z => ?_
  refine src_imp z fun F ρ1 ds xs vs F1 H1 qi hv rp er k => ?_
  unfold itemsOf at qi
  split at qi <;> first | (cases qi; done) | skip
  all_goals (rename_i hk; first | (cases hk; done) | skip)
  cases qi
  cases rp with
  | cons r1 rr =>
    cases rr
    cases r1 with
    | lst ea r => exact ⟨_, _, rfl, .inl (er.le.rd ea), k _ (walkD_enum ea r)⟩
theorem walk_zipT {K : PySem.W.Frag} {a b : Addr} {xs ys : List V} {n : Nat} (hn : n = min xs.length ys.length) : Walk (RZ.ItzT K a b) n (fun H => SqT K H a xs ∧ SqT K H b ys) (YPair (fun i => xs[i]?) (fun i => ys[i]?)) := by
  subst hn
  refine ⟨fun i _ hi q => ?_, fun _ q => ⟨xs, ys, q.1, q.2, by omega⟩, fun i H v H' _ q y => ?_⟩
  · have h1 : i < xs.length := by omega
    have h2 : i < ys.length := by omega
    exact ⟨xs, ys, xs[i], ys[i], q.1, q.2, by simp [h1], by simp [h2]⟩
  · obtain ⟨T, x, z, g1, g2, g3, g4, g5⟩ := y
    exact ⟨T, x, z, g1, g2, g3, g4 xs q.1, g5 ys q.2⟩
theorem walkD_zip {J : It} {us ws : List V} {xs ys : List D} {F1 : Hp} {G : Hp → Prop} (w : Walk J (min us.length ws.length) G (YPair (fun i => us[i]?) (fun i => ws[i]?))) (hg : ∀ H, Le F1 H → G H) (r : RpL F1 us xs) (r2 : RpL F1 ws ys) : WalkD J F1 ((xs.zip ys).map pairD) := by
  unfold WalkD
  have el : ((xs.zip ys).map pairD).length = min us.length ws.length := by simp [r.len, r2.len]
  rw [el]
  refine w.mono hg fun i H2 v H3 hi _ y => ?_
  obtain ⟨T, x, y', rfl, hT, rfl, e1, e2⟩ := y
  obtain ⟨d, e3, rd⟩ := r.getV e1
  obtain ⟨d2, e4, rd2⟩ := r2.getV e2
  refine ⟨.tup [d, d2], ?_, fun F l1 l2 => ⟨_, .pair l2 hT (rd.mono l1) (rd2.mono l1)⟩⟩
  have ez : (xs.zip ys)[i]? = some (d, d2) := List.getElem?_zip_eq_some.mpr ⟨e3, e4⟩
  rw [List.getElem?_map, ez]
  rfl
theorem pi_zp {elts : List Expr} {kk : Nat} {tpos : Pos} (hg : Gl X "zip") (hm : X.mg "zip" = none) (ha : PA X [e, e2] (tL W (evL Γ asg (.cons e' (.cons e2' .nil))))) (hs : starEach [e, e2] X.env = (false, eval e X.env) :: starEach [e2] X.env)
    (hpl : (backTo pos (starEach [e2] X.env)).any (·.1) = false) :
    PI X (.Tuple elts kk tpos) (.Call (.Name "zip" p) [e, e2] [] pos) (iD W (evL Γ asg (.cons e' (.cons e2' .nil))) .zip) := by
  refine pi_imp (RZ.pi_zipA hg hm ha hs hpl) fun σ H R z => ?_
  refine src_imp z fun F ρ1 ds xs vs F1 H1 qi hv rp er k => ?_
  unfold itemsOf at qi
  split at qi <;> first | (cases qi; done) | skip
  all_goals (rename_i hk; first | (cases hk; done) | skip)
  all_goals
    cases qi
    cases rp with
    | cons r1 rr =>
      cases rr with
      | cons r2 rr =>
        cases rr
        first
        | cases r1 with
          | lst ea r =>
            cases r2 with
            | lst eb r' => exact ⟨_, _, _, _, rfl, .inl ⟨.inl (er.le.rd ea), .inl (er.le.rd eb), k _ (walkD_zip (walk_zip rfl) (fun H le => ⟨.inl (le.rd ea), .inl (le.rd eb)⟩) r r')⟩⟩
        | cases r1 with
          | tup ea r =>
            cases r2 with
            | tup eb r' => exact ⟨_, _, _, _, rfl, .inr ⟨.of (er.le _ _ ea), .of (er.le _ _ eb), k _ (walkD_zip (walk_zipT rfl) (fun H le => ⟨.of (le _ _ ea), .of (le _ _ eb)⟩) r r')⟩⟩
end
end Mx

end
section
set_option Elab.async false
set_option linter.all false
set_option autoImplicit false
set_option maxRecDepth 100000
set_option maxHeartbeats 4000000
/-! MxH: methods, stores, errors. -/
namespace Mx
open PySem PySem.Spec L2
variable [CA]
section
variable {Γ : Tab} {asg : Nat → List Bool} {X : Cx} {W : WE} {o e : Expr} {o' e' args : E} {es : List Expr} {pos p2 apos cpos : Pos} {name : Str}
theorem tyV_of {F H : Hp} {K : PySem.W.Frag} {x : V} {d : D} {t : Ty} (le : Le F H) (b : Bp F H x d) (h : d.isTy t = true) (ht : t = .list ∨ t = .str ∨ t = .dict) : tyV K (tyName t) x H := by
  rcases ht with rfl | rfl | rfl
  · cases d <;> first | (cases h; done) | skip
    obtain ⟨a, us, rfl, e, r⟩ := b.lst le
    exact .inl ⟨rfl, us, .inl e⟩
  · cases d <;> first | (cases h; done) | skip
    obtain rfl := b.str
    rfl
  · cases d <;> first | (cases h; done) | skip
    obtain ⟨a, us, rfl, e, r⟩ := b.dic le
    exact .inr (.inr (.inl ⟨rfl, .inl ⟨us, e⟩⟩))
theorem met_imp {p : Pr} {t : Ty} (ht : t = .list ∨ t = .str ∨ t = .dict) {σ : St} {H : Hp} {Q : VK} (z : tE W (evE Γ asg (.met p t o' args)) σ H Q) :
    tBM X.K (tyName t) (rDm (pr p)) (tO W (opd (isVar o') (evE Γ asg o'))) (tOs W (evO Γ asg args)) σ H Q := by
  show tO W (opd (isVar o') (evE Γ asg o')) σ H fun x H1 => tyV X.K (tyName t) x H1 ∧ tOs W (evO Γ asg args) σ H1 fun xs H2 => rDm (pr p) x xs H2 Q
  refine step0 (f := fun x => match x.1.get x.2 with
    | some d => if d.isTy t then (evO Γ asg args x.2).bind fun y => prE p (x.1 :: y.1) y.2 else .bad
    | none => .bad) z fun F ρ hl er x oa ρ1 F1 H1 e1 hl1 ok1 rel1 g1 => ?_
  dsimp only at g1
  cases eg : oa.get ρ1 with
  | none => rw [eg] at g1; exact g1.elim
  | some d =>
    rw [eg] at g1
    dsimp only at g1
    by_cases hd : d.isTy t = true
    · rw [if_pos hd] at g1
      refine ⟨tyV_of rel1.er.le (bp_of rel1.er (σ := σ) (ρ := ρ1) (fun p hp => List.mem_append_left _ hp) (fun p hp => List.mem_append_right _ hp) ok1 eg) hd ht, ?_⟩
      refine step (f := fun y => prE p (oa :: y.1) y.2) rel1 hl1 g1 fun xs os ρ2 F2 H2 e2 hl2 ok2 rel2 g2 => ?_
      have rel3 : Rel F H (zp σ ρ) F2 H2 ((enOs xs os ++ enO x oa) ++ zp σ ρ2) := by rw [List.append_assoc]; exact rel2
      exact sl_end (g := pr p) (W := W) (vs := x :: xs) (os := oa :: os) hl2 ⟨ok1, ok2⟩ rel3 (fun q hq => by
        have hq : q ∈ enO x oa ++ enOs xs os := hq
        rcases List.mem_append.mp hq with h | h
        · exact List.mem_append_right _ h
        · exact List.mem_append_left _ h) (Q := Q) g2
    · rw [if_neg hd] at g1; exact g1.elim
theorem pe_met {p : Pr} {t : Ty} {id : String} (ht : t = .list ∨ t = .str ∨ t = .dict) (pa : PlainAttrs (tyName t)) (slot : Slot (tyName t) name id) (hty : typeOf (.builtin id) = pure (.type "method_descriptor")) (hm : MtR X id (rDm (pr p)))
    (ho : PE X o (tO W (opd (isVar o') (evE Γ asg o')))) (ha : PA X (e :: es) (tOs W (evO Γ asg args)))
    (hbase : attributeBase o name X.env (eval o X.env) = eval o X.env)
    (hfew : ((backTo cpos (starEach (e :: es) X.env)).all (fun x => !x.1) && (backToKw cpos (keywordEach [] X.env)).all (fun x => x.1.isSome)
      && decide ((e :: es).length + ([] : List Keyword).length + (if ([] : List Keyword).isEmpty then 0 else 1) < 30)) = true)
    (hline : (apos.endLine == cpos.line) = true) (hs : starEach (e :: es) X.env = (false, eval e X.env) :: starEach es X.env) (hplain : (backTo cpos (starEach es X.env)).any (·.1) = false) :
    PE X (.Call (.Attribute o name apos) (e :: es) [] cpos) (tE W (evE Γ asg (.met p t o' args))) :=
  pe_imp (pe_bm pa slot hty hm ho ha hbase hfew hline hs hplain) fun σ H Q z => met_imp ht z

/-! ### what changes a slot's own list -/
theorem own_fin {i : Nat} {σ : St} {F H F1 H1 : Hp} {ρ ρ1 : Env} {a : Addr} {d d' : D} {o : HO} {v : V} {dv : D} {Q : VK} (hl1 : ρ1.length = σ.length) (es : σ[i]? = some (some (.ref a))) (er : ρ1[i]? = some (.own d))
    (rel : Rel F H (zp σ ρ) F1 H1 (zp σ ρ1)) (w : OwnAt F1 (upd H1 a o) a d') (rv : Rp F1 v dv) (g : gR W enE okE (R.ok (Sl.shr dv, ρ1.set i (.own d'))) F H σ ρ Q) : Q v (upd H1 a o) := by
  obtain ⟨Rs, p, q, _⟩ := zp_split1 es er
  have r1 := (rel.permR p).upd w
  exact gR_ok g (by rw [List.length_set]; exact hl1) trivial ((r1.permR (q _).symm).shr rv)
theorem mut_pre {m : MM} {i : Nat} {σ : St} {H : Hp} {Q : VK} (hm : m ≠ .update) (z : tE W (evE Γ asg (.mut m i args)) σ H Q) {rr : V → List V → Hp → VK → Prop}
    (fin : ∀ (F F1 H1 : Hp) (ρ ρ1 : Env) (a : Addr) (us vs : List V) (xs ds : List D) (v : D) (d' : D), ρ1.length = σ.length → σ[i]? = some (some (.ref a)) → ρ1[i]? = some (.own (.lst xs)) → H1 a = some (.lst us) → F1 a = none → RpL F1 us xs → RpL F1 vs ds → Le F1 H1 →
      mutD m (.lst xs) ds = some (v, d') → Rel F H (zp σ ρ) F1 H1 (zp σ ρ1) → gR W enE okE (R.ok (Sl.shr v, ρ1.set i (.own d'))) F H σ ρ Q → rr (.ref a) vs H1 Q) :
    tBM X.K "list" rr (tVar i) (tL W (evL Γ asg args)) σ H Q := by
  obtain ⟨F, ρ, hl, er, g⟩ := z
  have g : gR W enE okE (if mutOk m ρ[i]? then (evL Γ asg args ρ).bind (mutK m i) else .bad) F H σ ρ Q := g
  by_cases hk : mutOk m ρ[i]? = true
  · rw [if_pos hk] at g
    have hx : ∃ xs, ρ[i]? = some (.own (.lst xs)) := by
      cases q : ρ[i]? with
      | none => rw [q] at hk; cases m <;> cases hk
      | some s =>
        rw [q] at hk
        cases s with
        | own d => cases d <;> first | exact ⟨_, rfl⟩ | (cases m <;> first | (cases hk; done) | exact absurd rfl hm)
        | _ => cases m <;> cases hk
    obtain ⟨xs0, ex0⟩ := hx
    obtain ⟨u, e3⟩ := zp_at hl ex0
    obtain ⟨Rs, p, q, _⟩ := zp_split1 e3 ex0
    obtain ⟨a, ea, w⟩ := er.each _ (p.mem_iff.mpr List.mem_cons_self)
    have ea : u = some (.ref a) := ea
    subst ea
    obtain ⟨_, us0, eu, _⟩ := w
    refine ⟨.ref a, e3, .inl ⟨rfl, us0, .of eu⟩, ?_⟩
    refine ⟨F, ρ, hl, er, ?_⟩
    cases qa : evL Γ asg args ρ with
    | bad => rw [qa] at g; exact g
    | exc c ρ' => rw [qa] at g; exact g
    | ok y =>
      obtain ⟨ds, ρ1⟩ := y
      rw [qa] at g
      intro vs F1 H1 hl1 ok1 rel1
      have g1 : gR W enE okE (match ρ1[i]? with
        | some (.own d) => (match mutD m d ds with
          | some (v, d') => R.ok (Sl.shr v, ρ1.set i (.own d'))
          | none => .bad)
        | _ => .bad) F H σ ρ Q := g
      split at g1
      · rename_i d ed
        have er1 : ER F1 H1 (zp σ ρ1) := rel1.er.sub (List.sublist_append_right _ _)
        obtain ⟨Rs1, p1, q1, _⟩ := zp_split1 e3 ed
        obtain ⟨a', ea', w1⟩ := er1.each _ (p1.mem_iff.mpr List.mem_cons_self)
        have ea' : some (V.ref a) = some (.ref a') := ea'
        cases ea'
        split at g1
        · rename_i v d' em
          cases d with
          | lst xs =>
            obtain ⟨fn, us, hu, ru⟩ := w1
            exact fin F F1 H1 ρ ρ1 a us vs xs ds v d' hl1 e3 ed hu fn ru (rpL_of rel1.er ok1 fun p hp => List.mem_append_left _ hp) rel1.er.le em (rel1.subR (List.sublist_append_right _ _)) g1
          | dic _ => cases m <;> first | (cases em; done) | exact absurd rfl hm
          | _ => exact w1.2.elim
        · exact g1.elim
      · exact g1.elim
  · rw [if_neg hk] at g; exact g.elim
theorem app_imp {i : Nat} {σ : St} {H : Hp} {Q : VK} (z : tE W (evE Γ asg (.mut .append i args)) σ H Q) : tBM X.K "list" rAppend (tVar i) (tL W (evL Γ asg args)) σ H Q := by
  refine mut_pre (by decide) z fun F F1 H1 ρ ρ1 a us vs xs ds v d' hl es er hu fn ru rv le em rel g => ?_
  cases rv with
  | nil => cases em
  | cons r1 rr =>
    cases rr with
    | cons _ _ => cases em
    | nil =>
      rename_i y d
      have em : (if xs.length < LIM then some (D.non, D.lst (xs ++ [d])) else none) = some (v, d') := em
      by_cases hz : xs.length < LIM
      · rw [if_pos hz] at em
        cases em
        refine ⟨a, us, y, rfl, rfl, hu, ?_, own_fin (d' := .lst (xs ++ [d])) hl es er rel ⟨fn, _, upd_same, ru.app (.cons r1 .nil)⟩ .non g⟩
        rw [ru.len, sizeLine_eq]
        have : LIM = 1000000 := by unfold LIM; rfl
        omega
      · rw [if_neg hz] at em; cases em
theorem ext_imp {i : Nat} {σ : St} {H : Hp} {Q : VK} (z : tE W (evE Γ asg (.mut .extend i args)) σ H Q) : tBM X.K "list" rExtR (tVar i) (tL W (evL Γ asg args)) σ H Q := by
  refine mut_pre (by decide) z fun F F1 H1 ρ ρ1 a us vs xs ds v d' hl es er hu fn ru rv le em rel g => ?_
  cases rv with
  | nil => cases em
  | cons r1 rr =>
    cases rr with
    | cons _ _ => rename_i d _ _ _ _ _ _; cases d <;> cases em
    | nil =>
      rename_i y d
      cases r1 <;> first | (cases em; done) | skip
      rename_i b bs ys eb rb
      have em : (if xs.length + ys.length < LIM then some (D.non, D.lst (xs ++ ys)) else none) = some (v, d') := em
      by_cases hz : xs.length + ys.length < LIM
      · rw [if_pos hz] at em
        cases em
        refine ⟨a, b, us, bs, rfl, rfl, hu, le.rd eb, ?_, own_fin (d' := .lst (xs ++ ys)) hl es er rel ⟨fn, _, upd_same, ru.app rb⟩ .non g⟩
        rw [ru.len, rb.len]
        exact lim_le hz
      · rw [if_neg hz] at em; cases em
theorem rp_last {F : Hp} {us : List V} {xs : List D} {d : D} (r : RpL F us xs) (e : getAt xs (-1) = some d) : ∃ us' y, us = us' ++ [y] ∧ Rp F y d ∧ RpL F us' xs.dropLast := by
  have hx : xs ≠ [] := by intro z; subst z; cases e
  have hu : us ≠ [] := by intro z; subst z; cases r; exact hx rfl
  refine ⟨us.dropLast, us.getLast hu, (List.dropLast_concat_getLast hu).symm, ?_, ?_⟩
  · have e2 : xs[xs.length - 1]? = some d := by
      have hp : 0 < xs.length := List.length_pos_iff.mpr hx
      unfold getAt atIx at e
      have h1 : ¬ (0 : Int) ≤ -1 := by omega
      rw [if_neg h1, if_pos (by omega)] at e
      have : ((-1 : Int) + xs.length).toNat = xs.length - 1 := by omega
      rw [this] at e
      exact e
    obtain ⟨v, ev, rv⟩ := r.get e2
    have : us.getLast hu = v := by
      rw [← r.len] at ev
      have := List.getLast?_eq_getElem? (l := us)
      rw [List.getLast?_eq_some_getLast hu] at this
      rw [ev] at this
      cases this; rfl
    rw [this]; exact rv
  · rw [List.dropLast_eq_take, List.dropLast_eq_take, r.len]
    exact r.take _
theorem pop_imp {i : Nat} {σ : St} {H : Hp} {Q : VK} (z : tE W (evE Γ asg (.mut .pop i .nil)) σ H Q) : tBM0 X.K "list" rPop (tVar i) σ H Q := by
  have := mut_pre (X := X) (rr := fun x vs H Q => vs = [] ∧ rPop x [] H Q) (by decide) z fun F F1 H1 ρ ρ1 a us vs xs ds v d' hl es er hu fn ru rv le em rel g => ?_
  · obtain ⟨x, h1, h2, h3⟩ := this
    obtain ⟨F, ρ, hl, er, g⟩ := h3
    exact ⟨x, h1, h2, (g [] F H hl rfl (Rel.refl er)).2⟩
  cases rv with
  | cons _ _ => cases em
  | nil =>
    have em : (getAt xs (-1)).map (fun x => (x, D.lst xs.dropLast)) = some (v, d') := em
    cases e1 : getAt xs (-1) with
    | none => rw [e1] at em; cases em
    | some d =>
      rw [e1] at em
      cases em
      obtain ⟨us', y, rfl, ry, r'⟩ := rp_last ru e1
      refine ⟨rfl, a, us' ++ [y], y, rfl, rfl, hu, by simp, ?_⟩
      rw [List.dropLast_concat]
      exact own_fin (d' := .lst xs.dropLast) hl es er rel ⟨fn, _, upd_same, r'⟩ ry g
end
end Mx

end
section
set_option Elab.async false
set_option linter.all false
set_option autoImplicit false
set_option maxRecDepth 100000
set_option maxHeartbeats 4000000
/-! MxH2: stores, raise, star. -/
namespace Mx
open PySem PySem.Spec L2
variable [CA]
theorem ofR_bind {α β : Type} (r : R α) (g : α → R β) (f : β → O) : ofR (r.bind g) f = ofR r fun x => ofR (g x) f := by cases r <;> rfl
section
variable {Γ : Tab} {asg : Nat → List Bool} {X : Cx} {W : WE} {ws : List Nat} {pos : Pos} {e ix : Expr} {e' ix' : E} {k : C} {rest : List Stmt}
theorem evL2 (ρ : Env) : evL Γ asg (.cons e' (.cons ix' .nil)) ρ = (kep (evE Γ asg e') ρ).bind fun x => (kep (evE Γ asg ix') x.2).bind fun y => R.ok ([x.1, y.1], y.2) := by
  show ((kep (evE Γ asg e') ρ).bind fun (d, ρ1) => ((kep (evE Γ asg ix') ρ1).bind fun (d2, ρ2) => (R.ok ([], ρ2)).bind fun (ds, ρ3) => R.ok (d2 :: ds, ρ3)).bind fun (ds, ρ2) => R.ok (d :: ds, ρ2)) = _
  simp only [bind_assoc, bind_ok]
/-- x[ix] = e -/
theorem pss_setI {i : Nat} {tx : Expr} {p : Pos} (he : PE X e (tE W (evE Γ asg e'))) (hv : PE X tx (tVar i)) (hi : PE X ix (tE W (evE Γ asg ix')))
    (ha : ∀ v, assign (.Subscript tx ix p) X.env v = (do
      let ov ← holding [v] (eval tx X.env)
      let iv ← holding [v, ov] (eval ix X.env)
      standAt p
      holding [v, ov, iv] (setItem ov iv v)
      release [v, ov, iv] [])) (hs : swapsWithSole [.Subscript tx ix p] e pos.line X.env = pure false) (hw : swappedStores [.Subscript tx ix p] e X.env = pure none)
    (h1 : (assignEach [.Subscript tx ix p] X.env).map (·.2) = [assign (.Subscript tx ix p) X.env]) (hr : PSs X rest (tC W ws (evC Γ asg k))) :
    PSs X (.Assign [.Subscript tx ix p] e pos :: rest) (tC W ws (evC Γ asg (.setI i ix' e' k))) := by
  refine pss_imp (pss_cons (ps_asg (pe_kep he) (pg_sub hv (pe_kep hi) set_list ha) hs hw h1) hr) fun D σ H z => ?_
  obtain ⟨F, ρ, hl, er, g⟩ := z
  have g : gO W ws (if !ownAt ρ i then .bad else ofR (evL Γ asg (.cons e' (.cons ix' .nil)) ρ) fun x => match x.1 with
    | [v, y] => (match x.2[i]? with
      | some (.own d) => (match setD d y v with
        | some d' => evC Γ asg k (x.2.set i (.own d'))
        | none => .bad)
      | _ => .bad)
    | _ => .bad) F H σ ρ D := g
  cases ho : ownAt ρ i with
  | false => rw [ho] at g; exact g.elim
  | true =>
  rw [ho] at g
  have g : gO W ws (ofR (evL Γ asg (.cons e' (.cons ix' .nil)) ρ) fun x => match x.1 with
    | [v, y] => (match x.2[i]? with
      | some (.own d) => (match setD d y v with
        | some d' => evC Γ asg k (x.2.set i (.own d'))
        | none => .bad)
      | _ => .bad)
    | _ => .bad) F H σ ρ D := g
  obtain ⟨a, e3⟩ : ∃ a, σ[i]? = some (some (V.ref a)) := by
    unfold ownAt at ho
    split at ho
    · rename_i d0 ex0
      obtain ⟨u, e3⟩ := zp_at hl ex0
      obtain ⟨Rs, p, q, _⟩ := zp_split1 e3 ex0
      obtain ⟨a, ea, w⟩ := er.each _ (p.mem_iff.mpr List.mem_cons_self)
      have ea : u = some (.ref a) := ea
      exact ⟨a, by rw [← ea]; exact e3⟩
    · cases ho
  rw [evL2, ofR_bind] at g
  refine stepO0 (At.refl hl er) g fun v dv ρ1 F1 H1 e1 hl1 _ rel1 g1 => ?_
  rw [ofR_bind] at g1
  refine ⟨.ref a, e3, ?_⟩
  have rel1 : Rel F H (zp σ ρ) F1 H1 ((some v, .shr dv) :: zp σ ρ1) := rel1
  refine stepO (G := [(some v, .shr dv)]) rfl hl1 .refl rel1 g1 fun y dy ρ2 F2 H2 e2 hl2 _ rel2 g2 => ?_
  have rel2 : Rel F H (zp σ ρ) F2 H2 ((some y, .shr dy) :: (some v, .shr dv) :: zp σ ρ2) := rel2
  have g2 : gO W ws (match ρ2[i]? with
      | some (.own d) => (match setD d dy dv with
        | some d' => evC Γ asg k (ρ2.set i (.own d'))
        | none => .bad)
      | _ => .bad) F H σ ρ D := g2
  split at g2
  · rename_i d ed
    have er2 := rel2.tail.tail.er
    obtain ⟨Rs1, p1, q1, _⟩ := zp_split1 e3 ed
    obtain ⟨a', ea', w1⟩ := er2.each _ (p1.mem_iff.mpr List.mem_cons_self)
    have ea' : some (V.ref a) = some (.ref a') := ea'
    cases ea'
    split at g2
    · rename_i d' em
      have rpy : Rp F2 y dy := rel2.er.rpv
      have rpv' : Rp F2 v dv := rel2.tail.er.rpv
      have hlt : i < ρ2.length := (List.getElem?_eq_some_iff.mp ed).1
      cases d with
      | lst xs =>
        obtain ⟨fn, us, hu, ru⟩ := w1
        cases dy <;> first | (have em' : (none : Option Mx.D) = some d' := em; cases em'; done) | skip
        rename_i j _ _
        have em : (atIx xs.length j).map (fun n => Mx.D.lst (xs.set n dv)) = some d' := em
        cases ej : atIx xs.length j with
        | none => rw [ej] at em; cases em
        | some n =>
          rw [ej] at em
          cases em
          cases rpy
          refine ⟨a, us, j, n, rfl, rfl, hu, by rw [ru.len]; exact ej, ?_⟩
          have r3 := ((rel2.tail.tail.permR p1).upd (o := .lst (us.set n v)) (d' := .lst (xs.set n dv)) ⟨fn, _, upd_same, ru.set rpv' n⟩).permR (q1 (.own (.lst (xs.set n dv)))).symm
          exact tailO (ρ := ρ2.set i (.own (.lst (xs.set n dv)))) ⟨rfl, by rw [List.length_set]; exact hl2, .refl, r3⟩ g2
      | dic kvs =>
        have em' : (none : Option Mx.D) = some d' := by cases dy <;> exact em
        cases em'
      | _ => exact w1.2.elim
    · exact g2.elim
  · exact g2.elim
/-- raise C("..") -/
theorem pss_rse {c : Str} (hc : X.calm = true) (tk : Takes X (wX CA.ca W)) (he : PMk X e (fun _ H Q => Q (.ref (CA.ca c)) none H)) : PSs X (.Raise (some e) none pos :: rest) (tC W ws (evC Γ asg (.rse c))) := by
  refine pss_imp (pss_cons (ps_raise hc tk he) pss_never) fun D σ H z => ?_
  obtain ⟨F, ρ, hl, er, g⟩ := z
  exact ⟨c, rfl, rfl, g σ F H rfl hl .refl (Rel.refl er)⟩
end
end Mx

end
section
set_option Elab.async false
set_option linter.all false
set_option autoImplicit false
set_option maxRecDepth 100000
set_option maxHeartbeats 4000000
/-! MxT: try .. except C as e: y = e; the error is kept. -/
namespace L2
open PySem PySem.Spec PyProof.Rows
variable [Mx.CA]
section
variable {X : Cx} {pins : List (Addr × Obj)} {σ : St} {H : Hp} {s : Shared}
/-- an error that stands in the heap is taken into ours -/
theorem Inv.adopt (I : Inv X pins σ H s) {a C : Addr} {ob : Obj} {fv : Array Value} (ha : s.heap.get? a = some ob) (hz : Zc (.ref C) none ob) (hd : ob.data = .fields fv) (na : H a = none) (h0 : X.s_0.heap.get? a = none)
    (hp : ∀ q ∈ X.pn ++ pins, q.1 ≠ a) (nL : a ≠ X.env.locals) : Inv X pins σ (upd H a (Mx.ExV C a)) s := by
  have ne : ∀ b o, X.s_0.heap.get? b = some o → b ≠ a := fun b o e z => by rw [z, h0] at e; cases e
  have old : ∀ b o, H b = some o → upd H a (Mx.ExV C a) b = some o := fun b o e => by rw [upd_ne (ne_of_none e na)]; exact e
  refine ⟨I.ok, I.os, I.bare, ⟨I.base.keep, I.base.slot, fun b o e n hx => ?_, I.base.there, fun b xs e => old _ _ (I.base.tups b xs e), fun b o u e => old _ _ (I.base.frzs b o u e), fun b ps e => ?_⟩, I.loc, I.cell, ?_, fun x c e => ?_, fun q hq => ?_, fun b o e => ?_, I.len⟩
  · rw [upd_ne (ne b o e)]
    exact I.base.free b o e n hx
  · obtain ⟨more, e2⟩ := I.base.tbls b ps e
    exact ⟨more, old _ _ e2⟩
  · rw [upd_ne (Ne.symm nL)]
    exact I.free
  · have nc : c ≠ a := fun z => by
      obtain ⟨v, oc, e1, e2⟩ := I.cell x c e
      rw [z, ha] at e1
      cases e1
      first
        | (rw [hd] at e2; cases e2; done)
        | (obtain ⟨e2, e3⟩ := e2; rw [hd] at e3; cases e3; done)
        | (obtain ⟨e2, e3⟩ := e2; rw [hd] at e2; cases e2; done)
    rw [upd_ne nc]
    exact I.freeC x c e
  · obtain ⟨e1, e2, e3, e4, e5⟩ := I.pin q hq
    exact ⟨e1, by rw [upd_ne (hp q hq)]; exact e2, e3, e4, e5⟩
  · by_cases hb : b = a
    · subst hb
      rw [upd_same] at e
      cases e
      exact ⟨⟨ob, fv, ha, hz, hd⟩, ⟨ob, ha⟩, fun h1 h2 ⟨oe, vs, q1, q2, q3⟩ k => ⟨oe, vs, k _ q1, q2, q3⟩⟩
    · rw [upd_ne hb] at e
      exact (I.hok b o e).stay (fun _ _ _ q => q) (fun c q => old _ _ q) fun c xs q => old _ _ q
end
/-- what the clause wishes: slot i is the clause's own name, slot j keeps the error -/
def wKeep (K : PySem.W.Frag) (c : Value) (i j : Nat) (Wout : WX) (D : Ends) : WX := fun cls d σ H =>
  ∃ b, PySem.W.exmOne K cls c = some b ∧ (b = true → d = none ∧ ∃ C, cls = .ref C ∧ ∀ a, H a = none → D.nx (((σ.set i (some (.ref a))).set j (some (.ref a))).set i none) (upd H a (Mx.ExV C a))) ∧ (b = false → Wout cls d σ H)
section
variable {X : Cx} {x n y : Str} {c : Value} {i j : Nat} {body : List Stmt} {np py pn2 ps pos pos' : Pos} {tb : WX → TS} {Wout : WX}
theorem ps_try_keep (hst : X.stack = X.env :: X.outer) (hfl : X.env.frame = some X.env.locals) (hex : X.ex = []) (hN : X.N.Nodup) (hi : X.N[i]? = some n) (hj : X.N[j]? = some y) (hln : X.env.kindOf n = some .local) (hly : X.env.kindOf y = some .local) (hc : Names X x c) (tk : Takes X Wout)
    (hsw : swapsWith (.Name n pn2) (some (.Name y py)) ps.line X.env = pure false) (hdn : (n == ("__debug__" : Str)) = false) (hdc : (n == ("__classdict__" : Str)) = false)
    (hb : ∀ (W : WX) (pn : List (Addr × Obj)) (xe : Value → Shared → Prop), Takes (X.tr pn xe) W → PassesOwn (model X.prog X.w) X.A X.env xe → PSs (X.tr pn xe) body (tb W)) :
    PS X (.Try body [.ExceptHandler (some (.Name x np)) (some n) [.Assign [.Name y py] (.Name n pn2) ps] pos'] [] [] pos) (fun D σ H => tb (wKeep X.K c i j Wout D) D σ H) := by
  refine ⟨fun pins s σ H D I0 wish => ?_⟩
  have okX := I0.ok
  have frX : X.A.frames = some (X.env :: X.outer) := by rw [okX.frames, hst]
  have locN : Loc X.env.scope n := .inl hln
  have locY : Loc X.env.scope y := .inl hly
  refine wpAny_Try_except ?_
  have bodyRun := (hb (wKeep X.K c i j Wout D) (X.pn ++ pins) (fun e s₁ => wpAny (model X.prog X.w) X.A (noteFrame e X.env) (fun _ s₂ => wpAny (model X.prog X.w) X.A (setFlight e none) (fun _ s₃ =>
    wpAny (model X.prog X.w) X.A (handleBy e X.env [.ExceptHandler (some (.Name x np)) (some n) [.Assign [.Name y py] (.Name n pn2) ps] pos']) (SP X pins D) X.xe s₃) X.xe s₂) X.xe s₁) ?caught PassesOwn.looking).run [] s σ H D (I0.toTry _) wish
  case caught =>
    intro u s' air
    obtain ⟨a, B, sI, pins', σ', H', cls, d, rfl, Jt, nb, up, sky, na, os, ag, b, hb1, hyes, hno⟩ := air
    have J := Jt.ofTry okX
    have skyE : Sky B (X.env :: X.outer) a (Zc cls d) X.env.locals s'.heap := by rw [← hst]; exact sky
    show wpAny (model X.prog X.w) X.A (noteFrame (.ref a) X.env) _ _ _
    refine Sky.land Zc.steady frX hfl skyE fun g3 flA upA => ?_
    have JA : Inv X pins σ' H' { s' with heap := g3 } := J.landed nb flA.1 (up.trans upA) os ag
    obtain ⟨oA, vA, heA, hzA, hdA⟩ := flA.there
    have offFrames : a ∉ frs (X.env :: X.outer) := fun hm => by
      obtain ⟨_, o', e', hnf⟩ := flA.2.2.1.mem hm
      rw [heA] at e'
      cases e'
      exact hnf _ hdA
    have nL : a ≠ X.env.locals := fun z => offFrames (List.mem_filterMap.mpr ⟨X.env, List.mem_cons_self, by rw [hfl, z]⟩)
    have nF : a ∉ X.fs := fun hm => by
      obtain ⟨e, he, q⟩ := List.mem_filterMap.mp hm
      exact offFrames (List.mem_filterMap.mpr ⟨e, List.mem_cons_of_mem _ he, q⟩)
    have gone : ∀ o, sI.heap.get? a = some o → False := fun o e => by
      have z := nb a o e (by rw [hst]; exact offFrames)
      rw [flA.2.1] at z
      cases z
    have h0 : X.s_0.heap.get? a = none := by
      cases q : X.s_0.heap.get? a with
      | none => rfl
      | some o =>
        obtain ⟨o', e'⟩ := J.base.there a o q (by rw [hex]; exact List.not_mem_nil)
        exact (gone o' e').elim
    have hpn : ∀ q ∈ X.pn ++ pins, q.1 ≠ a := fun q hq z => by
      obtain ⟨e1, _⟩ := J.pin q hq
      rw [z] at e1
      exact gone _ e1
    have SA := JA.suite heA hdA na nL nF
    refine wpAny_handleBy_cons (codeAny_handlers_test ?_) (by intro q; cases q)
    have clsOf : PySem.W.Looks (model X.prog X.w) g3 (typeOf (.ref a)) cls := fun A Q E s k q => wpAny_typeOf_ref (k _ _ heA) (by rw [hzA.1]; exact q)
    have matches_ := PySem.W.exm_one (M := model X.prog X.w) (JA.kIn) clsOf hb1
    have named : ∀ {Q : Value → Shared → Prop} {E : Value → Shared → Prop}, Q c { s' with heap := g3 } → wpAny (model X.prog X.w) (X.A.mark (some (.ref a))) (eval (.Name x np) X.env) Q E { s' with heap := g3 } := fun {Q E} q => by
      obtain ⟨hg, hdbg, hm | ⟨hm, hv, hnn⟩⟩ := hc
      · exact ld_glob (X := X.suite a ((a, oA) :: (X.pn ++ pins))) SA hg hm q hdbg
      · exact ld_blt (X := X.suite a ((a, oA) :: (X.pn ++ pins))) SA hg hm hv q hnn hdbg
    refine named (matches_.here ?_)
    cases b with
    | true =>
      obtain ⟨rfl, C, rfl, wishD⟩ := hyes rfl
      refine codeAny_handlers_suite_as ?_
      refine HandSPX.lands_againZ flA fun g4 flB upB => ?_
      have JB : Inv X pins σ' H' { s' with heap := g4 } := J.landed nb flB.1 ((up.trans upA).trans upB) os ag
      obtain ⟨oB, vB, heB, hzB, hdB⟩ := flB.there
      have SB := JB.suite heB hdB na nL nF
      refine store_ok (X := X.suite a ((a, oB) :: (X.pn ++ pins))) (v := .ref a) SB hN hi locN rfl (fun s5 S5 => ?_) (.inr hln)
      have hlen : σ'.length = X.N.length := J.len
      have hin : i < σ'.length := by rw [hlen]; exact (List.getElem?_eq_some_iff.mp hi).1
      have suiteP : PSs (X.suite a ((a, oB) :: (X.pn ++ pins))) [.Assign [.Name y py] (.Name n pn2) ps] (tSeq (tAsg (tVar i) (gName j)) tNext) := pss_cons (ps_set (X := X.suite a ((a, oB) :: (X.pn ++ pins))) hN hj locY (pe_var (X := X.suite a ((a, oB) :: (X.pn ++ pins))) hi (.inl hln) hdn hdc) hsw (.inr hly)) pss_nil
      refine wpAny_mono (suiteP.run [] s5 _ H' { nx := fun σ6 H6 => σ6 = (σ'.set i (some (.ref a))).set j (some (.ref a)) ∧ H6 = H', rt := fun _ _ => False, bk := fun _ _ => False, ct := fun _ _ => False } S5 ⟨.ref a, by rw [List.getElem?_set_self hin], rfl, rfl⟩) (fun f s6 hsp => ?_) (fun _ _ z => False.elim z)
      cases f with
      | next =>
        obtain ⟨σ6, H6, S6, rfl, rfl⟩ := hsp
        obtain ⟨pa, pb, _⟩ := S6.pin (a, oB) (List.mem_append_left _ List.mem_cons_self)
        have J6 := (S6.unsuite okX).adopt pa hzB hdB pb h0 hpn nL
        exact gone_ok J6 hN hi hln fun s7 J7 => ⟨_, _, J7, wishD a na⟩
      | brk =>
        obtain ⟨σ6, H6, S6, q6⟩ := hsp
        exact q6.elim
      | cont =>
        obtain ⟨σ6, H6, S6, q6⟩ := hsp
        exact q6.elim
      | ret u =>
        obtain ⟨v6, σ6, H6, S6, r6, q6⟩ := hsp
        exact q6.elim
    | false =>
      show wpAny _ X.A (handleBy (.ref a) X.env []) _ _ _
      refine wpAny_handleBy_nil ?_
      obtain ⟨k1, k2, k3, oe, vs, T, oT, ts', he, hz, hd, h1, hr⟩ := id flA
      unfold PySem.passOn
      refine wpAny_bind (wpAny_field he hd h1 ?_)
      rw [if_neg (show ¬ ((Value.ref T == Value.none) = true) from by simp)]
      have away : wpAny (model X.prog X.w) X.A (setFlight (.ref a) X.env.frame) (fun _ s4 => wpAny (model X.prog X.w) X.A (throw (.ref a) : Sem Flow) (SP X pins D) X.xe s4) X.xe { s' with heap := g3 } := by
        rw [hfl]
        refine HandSPX.setFlight_upZ flA fun g4 held upB => wpAny_throw (tk _ _ ?_)
        exact ⟨a, B, sI, pins, σ', H', cls, d, rfl, J, nb, (up.trans upA).trans upB, .inr (.inr (by rw [hst]; exact held)), na, os, ag, hno rfl⟩
      first
        | exact wpAny_bind (wpAny_pure (wpAny_bind away))
        | exact wpAny_bind away
  refine wpAny_mono bodyRun (fun f s1 hsp => ?_) (fun e s1 he => he)
  cases f with
  | next =>
    obtain ⟨σ2, H2, J2, q⟩ := hsp
    exact wpAny_execs_nil ⟨σ2, H2, J2.ofTry okX, q⟩
  | brk =>
    obtain ⟨σ2, H2, J2, q⟩ := hsp
    exact ⟨σ2, H2, J2.ofTry okX, q⟩
  | cont =>
    obtain ⟨σ2, H2, J2, q⟩ := hsp
    exact ⟨σ2, H2, J2.ofTry okX, q⟩
  | ret u =>
    obtain ⟨v, σ2, H2, J2, r, q⟩ := hsp
    exact ⟨v, σ2, H2, J2.ofTry okX, r, q⟩
end
end L2

end
section
set_option Elab.async false
set_option linter.all false
set_option autoImplicit false
set_option maxRecDepth 100000
set_option maxHeartbeats 4000000
/-! MxT2: try in the evaluator's words; isinstance; x[::-1]. -/
namespace Mx
open PySem PySem.Spec L2
variable [CA]
theorem zp_set_non {σ : St} {ρ : Env} {i : Nat} {F0 H0 F H : Hp} {L0 : Lt} (hl : ρ.length = σ.length) (h : Rel F0 H0 L0 F H (zp σ ρ)) : Rel F0 H0 L0 F H (zp (σ.set i none) (ρ.set i .non)) := by
  by_cases hi : i < ρ.length
  · have h1 : σ[i]? = some σ[i] := List.getElem?_eq_getElem (by omega)
    obtain ⟨R, p, q⟩ := zp_split h1 (List.getElem?_eq_getElem hi)
    exact (((h.permR p).subR (L2 := R) (List.sublist_cons_self _ _)).non).permR (q _ _).symm
  · rw [List.set_eq_of_length_le (by omega), List.set_eq_of_length_le (by omega)]
    exact h
section
variable {Γ : Tab} {asg : Nat → List Bool} {X : Cx} {W : WE} {ws : List Nat} {k : C} {rest : List Stmt} {x n y : Str} {i j : Nat} {body : List Stmt} {np py pn2 ps pos pos' : Pos} {body' : C}
theorem pss_try (hE : ErrsOk X.K) (hst : X.stack = X.env :: X.outer) (hfl : X.env.frame = some X.env.locals) (hex : X.ex = []) (hN : X.N.Nodup) (hi : X.N[i]? = some n) (hj : X.N[j]? = some y) (hij : i ≠ j) (hwi : i ∈ ws) (hwj : j ∈ ws) (hln : X.env.kindOf n = some .local) (hly : X.env.kindOf y = some .local)
    (hc : Names X x (.ref (CA.ca "SeatError"))) (tk : Takes X (wX CA.ca W)) (hsw : swapsWith (.Name n pn2) (some (.Name y py)) ps.line X.env = pure false) (hdn : (n == ("__debug__" : Str)) = false) (hdc : (n == ("__classdict__" : Str)) = false)
    (hb : ∀ (W' : WE) (pn : List (Addr × Obj)) (xe : Value → Shared → Prop), Takes (X.tr pn xe) (wX CA.ca W') → PassesOwn (model X.prog X.w) X.A X.env xe → PSs (X.tr pn xe) body (tC W' ws (evC Γ asg body')))
    (hr : PSs X rest (tC W ws (evC Γ asg k))) :
    PSs X (.Try body [.ExceptHandler (some (.Name x np)) (some n) [.Assign [.Name y py] (.Name n pn2) ps] pos'] [] [] pos :: rest) (tC W ws (evC Γ asg (.tryE j i body' k))) := by
  refine pss_imp (pss_cons (ps_try_keep (tb := fun Wx => tC (fun c σ H => Wx (.ref (CA.ca c)) none σ H) ws (evC Γ asg body')) hst hfl hex hN hi hj hln hly hc tk hsw hdn hdc fun W' pn xe tk' pass => ?_) hr) fun D σ H z => ?_
  · exact hb _ pn xe (tk'.imp fun cls d σ H ⟨c, e1, e2, w⟩ => by rw [e1, e2]; exact w) pass
  · obtain ⟨F, ρ, hl, er, g⟩ := z
    have g : gO W ws (match evC Γ asg body' ρ with
      | .exc c ρ1 => if errs.contains c && decide (i < ρ1.length) && decide (j < ρ1.length) then evC Γ asg k ((ρ1.set j (.shr (.exc c))).set i .non) else .bad
      | o => o.then (evC Γ asg k)) F H σ ρ D := g
    show tC _ ws (evC Γ asg body') _ σ H
    refine ⟨F, ρ, hl, er, ?_⟩
    cases q : evC Γ asg body' ρ with
    | bad => rw [q] at g; exact g
    | nx ρ' =>
      rw [q] at g
      have g : gO W ws (evC Γ asg k ρ') F H σ ρ D := g
      exact fun σ' F' H' l1 l2 s rel => tailO ⟨l1, l2, s, rel⟩ g
    | ret s ρ' =>
      rw [q] at g
      exact g
    | exc c ρ1 =>
      rw [q] at g
      dsimp only at g
      by_cases hcond : (errs.contains c && decide (i < ρ1.length) && decide (j < ρ1.length)) = true
      · rw [if_pos hcond] at g
        simp only [Bool.and_eq_true, decide_eq_true_eq] at hcond
        obtain ⟨⟨c1, c2⟩, c3⟩ := hcond
        intro σ' F' H' l1 l2 s rel
        show ∃ b, _ ∧ _ ∧ _
        refine ⟨true, hE.exm c c1, fun _ => ⟨rfl, CA.ca c, rfl, fun a na => ?_⟩, fun z => by cases z⟩
        have nw : New F' H' (upd F' a (ExV (CA.ca c) a)) (upd H' a (ExV (CA.ca c) a)) (.ref a) (.shr (.exc c)) := New.at rel.er.le na fun F2 _ e => .exc e
        have r2 := rel.trans (nw.rel rel.er)
        have a1 := At.set (σ0 := σ) (ρ0 := ρ) (ws := ws) l1 l2 s c3 hwj r2
        have e1 : ((σ'.set i (some (V.ref a))).set j (some (V.ref a))).set i none = (σ'.set j (some (V.ref a))).set i none := by
          rw [List.set_comm _ _ hij, List.set_set]
        rw [e1]
        have a2 : At ws F H σ ρ (upd F' a (ExV (CA.ca c) a)) (upd H' a (ExV (CA.ca c) a)) ((σ'.set j (some (V.ref a))).set i none) ((ρ1.set j (.shr (.exc c))).set i .non) :=
          ⟨by rw [List.length_set]; exact a1.ls, (List.length_set).trans (a1.lr.trans (List.length_set).symm), fun m hm => by
            rw [List.getElem?_set_ne (fun z => hm (by rw [← z]; exact hwi))]; exact a1.sm m hm, zp_set_non a1.lr a1.rel⟩
        exact tailO a2 g
      · rw [if_neg hcond] at g; exact g.elim
end

/-! ### isinstance -/
section
variable {Γ : Tab} {asg : Nat → List Bool} {X : Cx} {W : WE} {e c : Expr} {e' : E} {pos p : Pos}
theorem pe_isi {t : Ty} (hg : Gl X "isinstance") (hm : X.mg "isinstance" = none) (he : PE X e (tO W (opd (isVar e') (evE Γ asg e')))) (hc : PE X c (L2.tC (.ty (tyName t))))
    (hs : starEach [e, c] X.env = (false, eval e X.env) :: starEach [c] X.env) (hs2 : starEach [c] X.env = (false, eval c X.env) :: starEach [] X.env) (hpl : (backTo pos (starEach [c] X.env)).any (·.1) = false) :
    PE X (.Call (.Name "isinstance" p) [e, c] [] pos) (tE W (evE Γ asg (.pr (.isI t) (.cons e' .nil)))) := by
  refine pe_imp (pe_callB (ob_isi (t := t)) hg hm (by kernel_rfl) (pa_cons he (pa_cons hc pa_nil hs2) hs) (by decide) (by decide) hs hpl) fun σ H Q z => ?_
  have z2 := prs_imp z
  obtain ⟨F, ρ, hl, er, g⟩ := z2
  refine ⟨F, ρ, hl, er, ?_⟩
  have e0 : evO Γ asg (.cons e' .nil) ρ = (opd (isVar e') (evE Γ asg e') ρ).bind fun x => R.ok ([x.1], x.2) := rfl
  rw [e0] at g
  cases q : opd (isVar e') (evE Γ asg e') ρ with
  | bad => rw [q] at g; exact g
  | exc c ρ' => rw [q] at g; exact g
  | ok y =>
    obtain ⟨o, ρ1⟩ := y
    rw [q] at g
    intro v F1 H1 hl1 ok1 rel1
    have := g [v] F1 H1 hl1 ⟨ok1, trivial⟩ (by
      show Rel F H (zp σ ρ) F1 H1 ((enO v o ++ []) ++ zp σ ρ1)
      rw [List.append_nil]; exact rel1)
    exact ⟨v, rfl, this⟩
theorem pe_isx {n : Str} (hn : errs.contains n = true ∨ n = "SeatError" ∨ n = "ValueError") (hE : ErrsOk X.K) (hg : Gl X "isinstance") (hm : X.mg "isinstance" = none) (he : PE X e (tO W (opd (isVar e') (evE Γ asg e')))) (hc : PE X c (L2.tC (clsV n)))
    (hs : starEach [e, c] X.env = (false, eval e X.env) :: starEach [c] X.env) (hs2 : starEach [c] X.env = (false, eval c X.env) :: starEach [] X.env) (hpl : (backTo pos (starEach [c] X.env)).any (·.1) = false) :
    PE X (.Call (.Name "isinstance" p) [e, c] [] pos) (tE W (evE Γ asg (.pr (.isX n) (.cons e' .nil)))) := by
  refine pe_imp (pe_callB (ob_isx hn hE) hg hm (by kernel_rfl) (pa_cons he (pa_cons hc pa_nil hs2) hs) (by decide) (by decide) hs hpl) fun σ H Q z => ?_
  have z2 := prs_imp z
  obtain ⟨F, ρ, hl, er, g⟩ := z2
  refine ⟨F, ρ, hl, er, ?_⟩
  have e0 : evO Γ asg (.cons e' .nil) ρ = (opd (isVar e') (evE Γ asg e') ρ).bind fun x => R.ok ([x.1], x.2) := rfl
  rw [e0] at g
  cases q : opd (isVar e') (evE Γ asg e') ρ with
  | bad => rw [q] at g; exact g
  | exc c ρ' => rw [q] at g; exact g
  | ok y =>
    obtain ⟨o, ρ1⟩ := y
    rw [q] at g
    intro v F1 H1 hl1 ok1 rel1
    have := g [v] F1 H1 hl1 ⟨ok1, trivial⟩ (by
      show Rel F H (zp σ ρ) F1 H1 ((enO v o ++ []) ++ zp σ ρ1)
      rw [List.append_nil]; exact rel1)
    exact ⟨v, rfl, this⟩
end
end Mx

end
section
set_option Elab.async false
set_option linter.all false
set_option autoImplicit false
set_option maxRecDepth 100000
set_option maxHeartbeats 4000000
/-! MxR: x[::-1]. -/
namespace Mx
open PySem PySem.Spec L2 PyProof.Rows
variable [CA]
def tRev (K : PySem.W.Frag) (te : L2.TE) : L2.TE := fun σ H Q => te σ H fun x H1 => ∃ a xs, x = .ref a ∧ ((SqL K H1 a xs ∧ ∀ p, H1 p = none → Q (.ref p) (upd H1 p (.lst xs.reverse))) ∨ (SqT K H1 a xs ∧ ∀ p, H1 p = none → Q (.ref p) (upd H1 p (.tup xs.reverse))))
end Mx
namespace Mx
open PySem PySem.Spec L2 PyProof.Rows
variable [CA]
theorem pe_rev0 {X : Cx} {e : Expr} {te : L2.TE} {k : Nat} {p1 p2 p3 pos : Pos} (he : PE X e te) : PE X (.Subscript e (.Slice none none (some (.UnaryOp .USub (.Constant (.int 1) k p1) p2)) p3) pos) (tRev X.K te) := by
  refine ⟨fun pins s σ H Q I0 wish => ?_⟩
  refine Subscript_ (thn (he.run pins s σ H _ I0 wish) fun v sA ⟨x, HA, IA, rA, a, xs, eX, both⟩ => ?_)
  subst eX
  cases rA
  have minus1 : PO X (some (.UnaryOp .USub (.Constant (.int 1) k p1) p2)) (tPart (tUn (rU fun i => .int (-i)) (L2.tC (.int 1)))) := po_some (pe_un un_neg pe_int)
  refine wpAny_Slice (thn (po_none.run pins sA σ HA (fun o HB => o = none ∧ HB = HA) IA ⟨rfl, rfl⟩) fun vl sB ⟨l, HB, IB, pl, eL, eB⟩ => ?_)
  subst eL eB
  refine thn (po_none.run pins sB σ HB (fun o HC => o = none ∧ HC = HB) IB ⟨rfl, rfl⟩) fun vu sC ⟨u, HC, IC, pu, eU, eC⟩ => ?_
  subst eU eC
  refine thn (minus1.run pins sC σ HC (fun o HD => o = some (-1) ∧ HD = HC) IC ⟨1, rfl, -1, rfl, rfl, rfl⟩) fun vs sD ⟨o, HD, ID, pst, eO, eD⟩ => ?_
  subst eO eD
  have IE : Inv X pins σ HD { sD with heap := sD.heap.push { cls := .type "slice", data := .fields #[vl, vu, vs] } } := ID.kept (t' := sD.toks) fun b ob q => Heap.get?_push_of_some _ q
  show wpAny (model X.prog X.w) X.A (subscriptTail e (.Slice none none (some (.UnaryOp .USub (.Constant (.int 1) k p1) p2)) p3) (.ref a) (.ref sD.heap.objs.size)) (EP X pins σ Q) X.xe { sD with heap := sD.heap.push { cls := .type "slice", data := .fields #[vl, vu, vs] } }
  rcases both with ⟨hL, q⟩ | ⟨hT, q⟩
  · obtain ⟨its, r, ht, hz⟩ := IE.list hL
    have lenR := r.length
    refine tail_any (ops := [.ref a, .ref sD.heap.objs.size]) ht.isList.typeIs (PySem.slot_list_getitem.lookup) ?_ (by with_unfolding_all rfl)
    refine wpAny_getItem_list_slice ht.isList (Heap.IsSliceOf.new _ vl vu vs) pl pu pst (by decide) ?_ (by rw [List.size_toArray]; omega)
    rw [PySem.W.krv_pick]
    refine ⟨.ref _, _, IE.laid (t' := sD.toks) (o := .lst xs.reverse) (fun b ob q => Heap.get?_push_of_some _ q) (Nat.le_refl _) ?_, rfl, q _ (IE.hok.fresh (Nat.le_refl _))⟩
    exact ⟨by rw [List.length_reverse]; exact hz, _, 0, r.reverse, Heap.get?_push_size _ rfl⟩
  · obtain ⟨its, r, ht, hz⟩ := IE.tuple hT
    have lenR := r.length
    refine tail_any (ops := [.ref a, .ref sD.heap.objs.size]) ht.typeIs (PyProof.Rows.slot_tuple_getitem.lookup) ?_ (by with_unfolding_all rfl)
    refine od_revT ht (Heap.IsSliceOf.new _ vl vu vs) pl pu pst ?_ (by rw [List.size_toArray]; omega)
    refine ⟨.ref _, _, IE.laid (t' := sD.toks) (o := .tup xs.reverse) (fun b ob q => Heap.get?_push_of_some _ q) (Nat.le_refl _) ?_, rfl, q _ (IE.hok.fresh (Nat.le_refl _))⟩
    exact ⟨by rw [List.length_reverse]; exact hz, _, r.reverse, IsTup.new _ _⟩
end Mx
namespace Mx
open PySem PySem.Spec L2
variable [CA]
section
variable {Γ : Tab} {asg : Nat → List Bool} {X : Cx} {W : WE} {a : Expr} {a' : E} {pos p1 p2 p3 : Pos} {k : Nat}
theorem pe_rev (ha : PE X a (tO W (opd (isVar a') (evE Γ asg a')))) : PE X (.Subscript a (.Slice none none (some (.UnaryOp .USub (.Constant (.int 1) k p1) p2)) p3) pos) (tE W (evE Γ asg (.pr .rev (.cons a' .nil)))) := by
  refine pe_imp (pe_rev0 ha) fun σ H Q z => ?_
  rw [ev_pr1] at z
  refine step0 z fun F ρ hl er x oa ρ1 F1 H1 e1 hl1 ok1 rel1 g1 => ?_
  have rel2 : Rel F H (zp σ ρ) F1 H1 (enOs [x] [oa] ++ zp σ ρ1) := by
    show Rel F H (zp σ ρ) F1 H1 ((enO x oa ++ []) ++ zp σ ρ1)
    rw [List.append_nil]; exact rel1
  have := sl_end (g := pr .rev) (W := W) (vs := [x]) (os := [oa]) hl1 ⟨ok1, trivial⟩ rel2 (fun q hq => hq) (Q := Q) g1
  obtain ⟨F', d, s, le, b, e, k⟩ := rd1 this
  cases d <;> first | (have g' : (none : Option Sl) = some s := e; cases g'; done) | skip
  · cases e
    obtain ⟨p, us, rfl, hu, r⟩ := b.lst le
    exact ⟨p, us, rfl, .inl ⟨.inl hu, fun q hq => k _ _ _ (.ownL le hq r.reverse)⟩⟩
  · cases e
    obtain ⟨p, us, rfl, hu, r⟩ := b.tup
    exact ⟨p, us, rfl, .inr ⟨.of (le _ _ hu), fun q hq => k _ _ _ (.tup le hq r.reverse)⟩⟩
end
end Mx

end
section
set_option Elab.async false
set_option linter.all false
set_option autoImplicit false
set_option maxRecDepth 100000
set_option maxHeartbeats 4000000
/-! MxX: from the program's expressions to the evaluator's code. -/
namespace Mx
open PySem
/-- what is known of the program: its defs by their names, intsD and texts by names, whether all errors are there -/
structure Tb where
  fns : List Str
  gInts : List (Str × Int)
  gStrs : List (Str × Str)
  blts : List Str
  full : Bool
  excs : List Str
  one : List Str
/-- where one compiles: the slots' names, the scope, which cells one may write -/
structure Ct where
  N : List Str
  sc : Scope
  wr : Str → Bool
structure Rc where
  e : Ct → Expr → Option E
  t : Ct → Expr → Option E
def visB (sc : Scope) (x : Str) : Bool := sc.names.lookup x == some .local || sc.names.lookup x == some .cell || sc.names.lookup x == some .free
def slot? (ct : Ct) (x : Str) : Option Nat := if visB ct.sc x && !(x == "__debug__") && !(x == "__classdict__") then ct.N.findIdx? (· == x) else none
def glB (ct : Ct) (x : Str) : Bool := ct.sc.names.lookup x == some .globalImplicit && !(x == "__debug__")
def noStar : Expr → Bool
  | .Starred .. => false
  | _ => true
def noSlice : Expr → Bool
  | .Slice .. => false
  | _ => true
def cOs (r : Rc) (ct : Ct) : List Expr → Option E
  | [] => some .nil
  | a :: es => if noStar a then (match r.e ct a with
    | some a' => (cOs r ct es).map (.cons a' ·)
    | none => none) else none
def cAnd (op : BoolOp) (r : Ct → Expr → Option E) (ct : Ct) : List Expr → Option E
  | [] => none
  | [a] => r ct a
  | a :: b :: es => (match r ct a, cAnd op r ct (b :: es) with
    | some a', some b' => some (match op with
      | .And => .and2 a' b'
      | .Or => .or2 a' b')
    | _, _ => none)
def binP : Operator → Option Pr
  | .Add => some .add | .Sub => some .sub | .Mult => some .mul | .FloorDiv => some .fdiv | .Mod => some .mod | .Pow => some .pow
  | _ => none
def cmpP : CmpOp → Option Pr
  | .Eq => some .eq | .NotEq => some .ne | .Lt => some .lt | .LtE => some .le | .Gt => some .gt | .GtE => some .ge | .Is => some .isC | .IsNot => some .isntC | .In => some .inn | .NotIn => some .nin
def cmpC (r : Rc) (ct : Ct) : Expr → Option E
  | .Compare a [op] [b] _ => if behindInMarks op b then none else (match cmpP op, r.e ct a, r.e ct b with
    | some p, some a', some b' => some (.pr p (.cons a' (.cons b' .nil)))
    | _, _, _ => none)
  | .Compare a [op, op2] [b, c] _ => if lastMarks [op, op2] [b, c] then none else (match cmpP op, cmpP op2, r.e ct a, r.e ct b, r.e ct c with
    | some p, some q, some a', some b', some c' => some (.chain p q a' b' c')
    | _, _, _, _, _ => none)
  | _ => none
def tyOf (x : Str) : Option Ty := if x = "int" then some .int else if x = "bool" then some .bool else if x = "str" then some .str else if x = "tuple" then some .tuple else if x = "list" then some .list else if x = "dict" then some .dict else none
/-- the primitive that a built-in's call is; true: a type's -/
def bltP (x : Str) (n : Nat) : Option (Pr × Bool) :=
  if x = "len" ∧ n = 1 then some (.len, false) else if x = "abs" ∧ n = 1 then some (.abs, false) else if x = "all" ∧ n = 1 then some (.all, false) else if x = "any" ∧ n = 1 then some (.any, false)
  else if x = "sum" ∧ n = 1 then some (.sum, false) else if x = "max" ∧ n = 2 then some (.max2, false) else if x = "min" ∧ n = 2 then some (.min2, false) else if x = "sorted" ∧ n = 1 then some (.sorted, false)
  else if x = "list" ∧ n = 1 then some (.list, true) else if x = "tuple" ∧ n = 1 then some (.tuple, true) else none
/-- targets -/
def cTgt (ct : Ct) : Nat → Expr → Option T
  | 0, _ => none
  | _ + 1, .Name x _ => (match ct.sc.names.lookup x with
    | some .local => (ct.N.findIdx? (· == x)).map .nm
    | some .cell => if ct.wr x then (ct.N.findIdx? (· == x)).map .nm else none
    | _ => none)
  | n + 1, .Tuple es _ _ => (cTgts n es).map .tp
  | _, _ => none
where cTgts (n : Nat) : List Expr → Option T
  | [] => some .nil
  | a :: es => if noStar a then (match cTgt ct n a with
    | some a' => (cTgts n es).map (.cons a' ·)
    | none => none) else none
/-- what is walked -/
def cSrc (tb : Tb) (r : Rc) (ct : Ct) (tg : Expr) (it : Expr) : Option (K × E) := match it with
  | .Call (.Name x _) [a] [] _ =>
    if x = "range" ∧ glB ct x ∧ tb.blts.contains x ∧ noStar a then (r.e ct a).map fun a' => (.rng, .cons a' .nil)
    else if x = "enumerate" ∧ glB ct x ∧ tb.blts.contains x ∧ noStar a then (match tg with
      | .Tuple .. => (r.e ct a).map fun a' => (.enum, .cons a' .nil)
      | _ => none)
    else (r.e ct it).map fun a' => (.val, .cons a' .nil)
  | .Call (.Name x _) [a, b] [] _ =>
    if x = "range" ∧ glB ct x ∧ tb.blts.contains x ∧ noStar a ∧ noStar b then (match r.e ct a, r.e ct b with
      | some a', some b' => some (.rng2, .cons a' (.cons b' .nil))
      | _, _ => none)
    else if x = "zip" ∧ glB ct x ∧ tb.blts.contains x ∧ noStar a ∧ noStar b then (match tg, r.e ct a, r.e ct b with
      | .Tuple .., some a', some b' => some (.zip, .cons a' (.cons b' .nil))
      | _, _, _ => none)
    else (r.e ct it).map fun a' => (.val, .cons a' .nil)
  | .Set .. => none
  | _ => (r.e ct it).map fun a' => (.val, .cons a' .nil)
/-- the block's own names with their slots -/
def ownOf (N : List Str) (scope : Scope) : List (Str × Nat) := scope.names.filterMap fun y => if y.2 == .local || y.2 == .cell then (N.findIdx? (· == y.1)).map fun i => (y.1, i) else none
def blkB (N : List Str) (sc scope : Scope) (own : List (Str × Nat)) : Bool :=
  decide (scope.kind = .function) && scope.names.all (fun y => scope.names.lookup y.1 == some y.2) && own.all (fun p => N[p.2]? == some p.1)
    && scope.names.all (fun y => !(y.2 == .free) || sc.names.lookup y.1 == some .cell || sc.names.lookup y.1 == some .free)
    && scope.names.all fun y => !(y.2 == .local || y.2 == .cell) || (own.map (·.1)).contains y.1 || !N.contains y.1
def cComp (tb : Tb) (r : Rc) (ct : Ct) (tg it : Expr) (ifs : List Expr) (elt : Expr) (scope : Scope) : Option (List Nat × T × K × E × E × E) :=
  let own := ownOf ct.N scope
  let ct2 : Ct := ⟨ct.N, L2.relS scope ct.sc, fun x => scope.names.lookup x == some .cell⟩
  if blkB ct.N ct.sc scope own then (match cSrc tb r ct tg it, cTgt ct2 5 tg, (match ifs with | [] => some (E.cst (.bl true)) | [c] => r.t ct2 c | _ => none), r.e ct2 elt with
    | some (k, src), some t, some cnd, some el => if t.slots.all ((own.map (·.2)).contains ·) then some (own.map (·.2), t, k, src, cnd, el) else none
    | _, _, _, _ => none) else none
def cCst : Const → Option D
  | .none => some .non
  | .bool b => some (.bl b)
  | .int i => some (.int i)
  | .str x => some (.str x)
  | _ => none
def cSub (r : Rc) (ct : Ct) (a sl : Expr) : Option E := match sl with
  | .Slice none none (some (.UnaryOp .USub (.Constant (.int 1) _ _) _)) _ => (r.e ct a).map fun a' => .pr .rev (.cons a' .nil)
  | .Slice none (some b) none _ => (match r.e ct a, r.e ct b with
    | some a', some b' => some (.pr (.slc false true) (.cons a' (.cons b' .nil)))
    | _, _ => none)
  | .Slice (some b) none none _ => (match r.e ct a, r.e ct b with
    | some a', some b' => some (.pr (.slc true false) (.cons a' (.cons b' .nil)))
    | _, _ => none)
  | .Slice (some b) (some c) none _ => (match r.e ct a, r.e ct b, r.e ct c with
    | some a', some b', some c' => some (.sl3 a' b' c')
    | _, _, _ => none)
  | .Slice .. => none
  | _ => (match r.e ct a, r.e ct sl with
    | some a', some b' => some (.pr .idx (.cons a' (.cons b' .nil)))
    | _, _ => none)
def noCall : Expr → Bool
  | .Call .. => false
  | _ => true
def cMeth (r : Rc) (ct : Ct) (o : Expr) (name : Str) (args : List Expr) : Option E :=
  if !noCall o then none else if name = "append" ∨ name = "extend" then (match o, args with
    | .Name x _, [_] => (match slot? ct x, cOs r ct args with
      | some i, some as => some (.mut (if name = "append" then .append else .extend) i as)
      | _, _ => none)
    | _, _ => none)
  else if name = "pop" then (match o, args with
    | .Name x _, [] => (slot? ct x).map fun i => .mut .pop i .nil
    | _, _ => none)
  else if name = "index" ∨ name = "count" then (match args with
    | [_] => (match r.e ct o, cOs r ct args with
      | some o', some as => some (.met (if name = "index" then .index else .count) .list o' as)
      | _, _ => none)
    | _ => none)
  else none
def cCall (tb : Tb) (r : Rc) (ct : Ct) (x : Str) (args : List Expr) : Option E :=
  if !glB ct x then none else match args with
  | [] => none
  | a :: es => (match tb.fns.findIdx? (· == x) with
    | some f => (cOs r ct (a :: es)).map fun as => .call f as
    | none => if !tb.blts.contains x then none else if x = "isinstance" then (match es with
      | [.Name y _] => if !noStar a || !glB ct y then none else (match r.e ct a with
        | none => none
        | some a' => if tb.blts.contains y then (match tyOf y with
            | some t => some (.pr (.isI t) (.cons a' .nil))
            | none => if tb.full && (y == "ValueError") then some (.pr (.isX y) (.cons a' .nil)) else none)
          else if tb.full && (errs.contains y || y == "SeatError") then some (.pr (.isX y) (.cons a' .nil)) else none)
      | _ => none)
      else (match bltP x (es.length + 1) with
        | some (p, _) => (cOs r ct (a :: es)).map fun as => .pr p as
        | none => none))
def cKey (tb : Tb) (r : Rc) (ct : Ct) (x : Str) (args : List Expr) (kw : Keyword) (kws : List Keyword) : Option E := match args, kws, kw.arg, kw.value with
  | [a], [], some kn, .Name y _ => if x == "sorted" && kn == "key" && glB ct x && glB ct y && tb.blts.contains x && tb.one.contains y && noStar a then (match tb.fns.findIdx? (· == y), r.e ct a with
      | some f, some a' => some (.srt f (.cons a' .nil))
      | _, _ => none) else none
  | _, _, _, _ => none
def lE (tb : Tb) (r : Rc) (ct : Ct) : Expr → Option E
  | .Name x _ => (match slot? ct x with
    | some i => some (.var i)
    | none => if glB ct x then (match tb.gInts.lookup x with
      | some i => some (.cst (.int i))
      | none => (tb.gStrs.lookup x).map fun z => .cst (.str z)) else none)
  | .Constant c _ _ => (cCst c).map .cst
  | .BinOp a op b _ => (match binP op, r.e ct a, r.e ct b with
    | some p, some a', some b' => some (.pr p (.cons a' (.cons b' .nil)))
    | _, _, _ => none)
  | .UnaryOp .USub a _ => (r.e ct a).map fun a' => .pr .neg (.cons a' .nil)
  | .UnaryOp .Not a _ => (r.e ct a).map .not
  | .BoolOp op es _ => cAnd op r.e ct es
  | .Compare a ops bs p => cmpC r ct (.Compare a ops bs p)
  | .IfExp c a b _ => (match r.t ct c, r.e ct a, r.e ct b with
    | some c', some a', some b' => some (.ifx c' a' b')
    | _, _, _ => none)
  | .Tuple es _ _ => (cOs r ct es).map .tup
  | .List es _ => (cOs r ct es).map .lst
  | .Subscript a sl _ => cSub r ct a sl
  | .ListComp elt [⟨tg, it, ifs, 0⟩] scope _ => (cComp tb r ct tg it ifs elt scope).map fun z => .comp z.1 z.2.1 z.2.2.1 z.2.2.2.1 z.2.2.2.2.1 z.2.2.2.2.2
  | .Call (.Name x _) args [] _ => cCall tb r ct x args
  | .Call (.Name x _) args (kw :: kws) _ => cKey tb r ct x args kw kws
  | .Call (.Attribute o name ap) args [] p => if ap.endLine == p.line then cMeth r ct o name args else none
  | _ => none
/-- tests -/
def lT (tb : Tb) (r : Rc) (ct : Ct) : Expr → Option E
  | .UnaryOp .Not a _ => (r.t ct a).map .not
  | .UnaryOp .. => none
  | .BoolOp op es _ => cAnd op r.t ct es
  | .IfExp .. => none
  | .Compare a ops bs p => cmpC r ct (.Compare a ops bs p)
  | e => (r.e ct e).map .tv
def rcN (tb : Tb) : Nat → Rc
  | 0 => ⟨fun _ _ => none, fun _ _ => none⟩
  | n + 1 => ⟨lE tb (rcN tb n), lT tb (rcN tb n)⟩
end Mx

end
section
set_option Elab.async false
set_option linter.all false
set_option autoImplicit false
set_option maxRecDepth 100000
set_option maxHeartbeats 4000000
/-! MxY: the compiled code does what the expressions do. -/
namespace Mx
open PySem PySem.Spec L2
variable [CA]
structure GoodX (Γ : Tab) (asg : Nat → List Bool) (tb : Tb) (k : Nat) (X : Cx) : Prop where
  fnok : ∀ f x, tb.fns[f]? = some x → ∃ fa fd ps, FnOk X.prog X.w X.K X.mg X.base (L2.CX X.prog X.w) k fa fd ps (spF CA.ca Γ f (asg f).length) ∧ X.mg x = some (.ref fa) ∧ PySem.W.keepIn X.K (.ref fa) = true ∧ Binds X.K fd ps [] ∧ (tb.one.contains x = true → (asg f).length = 1)
  int : ∀ x i, tb.gInts.lookup x = some i → ∃ t, X.mg x = some (.int i t)
  str : ∀ x z, tb.gStrs.lookup x = some z → ∃ t, X.mg x = some (.str z t)
  blt : ∀ x, tb.blts.contains x = true → X.mg x = none
  err : tb.full = true → ErrsOk X.K ∧ ∀ n, errs.contains n = true ∨ n = "SeatError" → X.mg n = some (.ref (CA.ca n))
  exc : ∀ c, tb.excs.contains c = true → PySem.W.excIn X.K (CA.ca c) [.type "ValueError", .type "Exception", .type "BaseException", .type "object"] "ValueError.__new__" = true ∧ X.mg c = some (.ref (CA.ca c)) ∧ PySem.W.keepIn X.K (.ref (CA.ca c)) = true ∧
    PySem.W.subIn X.K (.ref (CA.ca c)) (.type "BaseException") = some true ∧ PySem.W.typeIn X.K (.ref (CA.ca c)) = some (.type "type")
  calm : X.calm = true
  nod : X.N.Nodup
  room : Room (k + 1) X.A
structure Good (Γ : Tab) (asg : Nat → List Bool) (tb : Tb) (k : Nat) (X : Cx) (W : WE) (ct : Ct) : Prop extends GoodX Γ asg tb k X where
  hN : X.N = ct.N
  sc : X.env.scope = ct.sc
  wr : X.fn = ct.wr
  tk : Takes X (wX CA.ca W)
structure ROk (Γ : Tab) (asg : Nat → List Bool) (tb : Tb) (k : Nat) (r : Rc) : Prop where
  e : ∀ ct a a', r.e ct a = some a' → ∀ X W, Good Γ asg tb k X W ct → PE X a (tE W (evE Γ asg a'))
  v : ∀ ct a i, r.e ct a = some (.var i) → ∀ X W, Good Γ asg tb k X W ct → PE X a (tVar i)
  t : ∀ ct a a', r.t ct a = some a' → ∀ X W, Good Γ asg tb k X W ct → PT X a (tT W (evT Γ asg a'))
theorem star_cons {a : Expr} (h : noStar a = true) (es : List Expr) (env : PySem.Env) : starEach (a :: es) env = (false, eval a env) :: starEach es env := by
  cases a <;> first | rfl | cases h
theorem isVar_eq {e : E} {i : Nat} (h : isVar e = some i) : e = .var i := by
  cases e <;> first | (cases h; rfl) | cases h
theorem findIdx_get {N : List Str} {x : Str} {i : Nat} (h : N.findIdx? (· == x) = some i) : N[i]? = some x := by
  obtain ⟨h1, h2, _⟩ := List.findIdx?_eq_some_iff_getElem.mp h
  rw [List.getElem?_eq_getElem h1]
  exact congrArg some (by simpa using h2)
section
variable {Γ : Tab} {asg : Nat → List Bool} {tb : Tb} {k : Nat} {r : Rc} {ct : Ct} {X : Cx} {W : WE}
theorem slot_ok {x : Str} {i : Nat} {pos : Pos} (h : slot? ct x = some i) (g : Good Γ asg tb k X W ct) : PE X (.Name x pos) (tVar i) := by
  unfold slot? at h
  split at h
  · rename_i hc
    simp only [Bool.and_eq_true, Bool.not_eq_true'] at hc
    obtain ⟨⟨h1, h2⟩, h3⟩ := hc
    refine pe_var (by rw [g.hN]; exact findIdx_get h) ?_ h2 h3
    unfold visB at h1
    simp only [Bool.or_eq_true, beq_iff_eq] at h1
    unfold Vis
    rw [g.sc]
    rcases h1 with (h1 | h1) | h1
    · exact .inl h1
    · exact .inr (.inl h1)
    · exact .inr (.inr h1)
  · cases h
theorem gl_ok {x : Str} (h : glB ct x = true) (g : Good Γ asg tb k X W ct) : Gl X x ∧ (x == ("__debug__" : Str)) = false := by
  unfold glB at h
  simp only [Bool.and_eq_true, Bool.not_eq_true', beq_iff_eq] at h
  refine ⟨?_, h.2⟩
  show X.env.scope.names.lookup x = _
  rw [g.sc]
  exact h.1
theorem op_ok (R : ROk Γ asg tb k r) {a : Expr} {a' : E} (h : r.e ct a = some a') (g : Good Γ asg tb k X W ct) : PE X a (tO W (opd (isVar a') (evE Γ asg a'))) :=
  pe_opd (fun i hi => R.v ct a i (by rw [h, isVar_eq hi]) X W g) fun _ => R.e ct a a' h X W g
theorem os_ok (R : ROk Γ asg tb k r) (g : Good Γ asg tb k X W ct) : ∀ {es : List Expr} {as : E}, cOs r ct es = some as → PA X es (tOs W (evO Γ asg as))
  | [], _, h => by cases h; exact pa_os_nil
  | a :: es, as, h => by
    unfold cOs at h
    split at h
    · rename_i hs
      split at h
      · rename_i a' ha
        cases q : cOs r ct es with
        | none => rw [q] at h; cases h
        | some r' =>
          rw [q] at h
          cases h
          exact pa_os_cons (op_ok R ha g) (os_ok R g q) (star_cons hs _ _)
      · cases h
    · cases h
theorem l_ok (R : ROk Γ asg tb k r) (g : Good Γ asg tb k X W ct) : ∀ {es : List Expr} {as : E}, cOs r ct es = some as → PA X es (tL W (evL Γ asg as))
  | [], _, h => by cases h; exact pa_l_nil
  | a :: es, as, h => by
    unfold cOs at h
    split at h
    · rename_i hs
      split at h
      · rename_i a' ha
        cases q : cOs r ct es with
        | none => rw [q] at h; cases h
        | some r' =>
          rw [q] at h
          cases h
          exact pa_l_cons (R.e _ _ _ ha X W g) (l_ok R g q) (star_cons hs _ _)
      · cases h
    · cases h
theorem as_ok (R : ROk Γ asg tb k r) (g : Good Γ asg tb k X W ct) : ∀ {es : List Expr} {as : E} (bs : List Bool), cOs r ct es = some as → PA X es (tOs W (evA Γ asg as bs))
  | [], _, bs, h => by
    cases h
    cases bs with
    | nil => exact pa_as_nil
    | cons b bs => exact ⟨fun pos pins s σ H Q I z => (z.choose_spec.choose_spec.2.2 : False).elim⟩
  | a :: es, as, bs, h => by
    unfold cOs at h
    split at h
    · rename_i hs
      split at h
      · rename_i a' ha
        cases q : cOs r ct es with
        | none => rw [q] at h; cases h
        | some r' =>
          rw [q] at h
          cases h
          cases bs with
          | nil => exact ⟨fun pos pins s σ H Q I z => (z.choose_spec.choose_spec.2.2 : False).elim⟩
          | cons b bs => exact pa_as_cons (pe_arg (op_ok R ha g) (R.e _ _ _ ha X W g)) (as_ok R g bs q) (star_cons hs _ _)
      · cases h
    · cases h
end
end Mx

end
section
set_option Elab.async false
set_option linter.all false
set_option autoImplicit false
set_option maxRecDepth 100000
set_option maxHeartbeats 4000000
/-! MxY2: operators, calls, subscripts, methods. -/
namespace Mx
open PySem PySem.Spec L2
variable [CA]
section
variable {Γ : Tab} {asg : Nat → List Bool} {tb : Tb} {k : Nat} {r : Rc} {ct : Ct} {X : Cx} {W : WE} {pos : Pos}
theorem Good.hu (g : Good Γ asg tb k X W ct) : X.A.units + 200 < cLine := by have := g.room.un; omega
theorem binop_ok (R : ROk Γ asg tb k r) (g : Good Γ asg tb k X W ct) {a b : Expr} {op : Operator} {e' : E} (h : lE tb r ct (.BinOp a op b pos) = some e') : PE X (.BinOp a op b pos) (tE W (evE Γ asg e')) := by
  have h : (match binP op, r.e ct a, r.e ct b with
    | some p, some a', some b' => some (E.pr p (.cons a' (.cons b' .nil)))
    | _, _, _ => none) = some e' := h
  split at h
  · rename_i p a' b' hp ha hb
    cases h
    have oa := op_ok R ha g
    have ob := op_ok R hb g
    cases op <;> first | (cases hp; done) | skip
    · cases hp; exact pe_pr2 od_add oa ob
    · cases hp; exact pe_pr2 od_sub oa ob
    · cases hp; exact pe_pr2 od_mul oa ob
    · cases hp; exact pe_pr2 od_mod oa ob
    · cases hp; exact pe_pr2 od_pow oa ob
    · cases hp; exact pe_pr2 od_fdiv oa ob
  · cases h
theorem cmp_or {op : CmpOp} {p : Pr} (h : cmpP op = some p) (g : Good Γ asg tb k X W ct) : OpR X (compareOp op) (rD2 (pr p)) := by
  have hu := g.hu
  cases op <;> cases h
  · exact od_eq (by omega)
  · exact od_ne (by omega)
  · exact od_lt (by omega)
  · exact od_le
  · exact od_gt (by omega)
  · exact od_ge
  · exact od_is
  · exact od_isnt
  · exact od_in (by omega)
  · exact od_nin (by omega)
theorem cmp_ok (R : ROk Γ asg tb k r) (g : Good Γ asg tb k X W ct) {a : Expr} {ops : List CmpOp} {bs : List Expr} {e' : E} (h : cmpC r ct (.Compare a ops bs pos) = some e') :
    PE X (.Compare a ops bs pos) (tE W (evE Γ asg e')) ∧ PT X (.Compare a ops bs pos) (tT W (evT Γ asg e')) := by
  match ops, bs, h with
  | [op], [b], h =>
    have h : (if behindInMarks op b then none else (match cmpP op, r.e ct a, r.e ct b with
      | some p, some a', some b' => some (E.pr p (.cons a' (.cons b' .nil)))
      | _, _, _ => none)) = some e' := h
    split at h
    · cases h
    · rename_i hm
      split at h
      · rename_i p a' b' hp ha hb
        cases h
        exact ⟨pe_cmp2 (cmp_or hp g) (op_ok R ha g) (op_ok R hb g) (by simpa using hm), pt_cmp2 (cmp_or hp g) (op_ok R ha g) (op_ok R hb g) (by simpa using hm)⟩
      · cases h
  | [op, op2], [b, c], h =>
    have h : (if lastMarks [op, op2] [b, c] then none else (match cmpP op, cmpP op2, r.e ct a, r.e ct b, r.e ct c with
      | some p, some q, some a', some b', some c' => some (E.chain p q a' b' c')
      | _, _, _, _, _ => none)) = some e' := h
    split at h
    · cases h
    · rename_i hm
      split at h
      · rename_i p q a' b' c' hp hq ha hb hc
        cases h
        exact ⟨pe_chain2 (cmp_or hp g) (cmp_or hq g) (op_ok R ha g) (op_ok R hb g) (op_ok R hc g) (by simpa using hm), pt_chain2 (cmp_or hp g) (cmp_or hq g) (op_ok R ha g) (op_ok R hb g) (op_ok R hc g) (by simpa using hm)⟩
      · cases h
  | [], bs, h => cases h
  | [_], [], h => cases h
  | [_], _ :: _ :: _, h => cases h
  | [_, _], [], h => cases h
  | [_, _], [_], h => cases h
  | [_, _], _ :: _ :: _ :: _, h => cases h
  | _ :: _ :: _ :: _, bs, h => cases h
theorem andE_ok (R : ROk Γ asg tb k r) (g : Good Γ asg tb k X W ct) {op : BoolOp} : ∀ {es : List Expr} {e' : E}, cAnd op r.e ct es = some e' → PE X (.BoolOp op es pos) (tE W (evE Γ asg e')) ∧ ∀ i, e' = .var i → PE X (.BoolOp op es pos) (tVar i)
  | [], _, h => by cases h
  | [a], e', h => ⟨pe_one (R.e ct a e' h X W g), fun i hi => pe_one (R.v ct a i (by rw [← hi]; exact h) X W g)⟩
  | a :: b :: es, e', h => by
    unfold cAnd at h
    split at h
    · rename_i a' b' ha hb
      cases h
      have ih := (andE_ok R g hb).1
      cases op with
      | And => exact ⟨pe_and2 (R.e ct a a' ha X W g) ih, fun i hi => by cases hi⟩
      | Or => exact ⟨pe_or2 (R.e ct a a' ha X W g) ih, fun i hi => by cases hi⟩
    · cases h
theorem andT_ok (R : ROk Γ asg tb k r) (g : Good Γ asg tb k X W ct) {op : BoolOp} : ∀ {es : List Expr} {e' : E}, cAnd op r.t ct es = some e' → PW X (.BoolOp op es pos) (tT W (evT Γ asg e'))
  | [], _, h => by cases h
  | [a], e', h => by
    cases op with
    | And => exact pw_and1 (R.t ct a e' h X W g)
    | Or => exact pw_or1 (R.t ct a e' h X W g)
  | a :: b :: es, e', h => by
    unfold cAnd at h
    split at h
    · rename_i a' b' ha hb
      cases h
      have ih := andT_ok R g hb
      cases op with
      | And => exact pw_and2 (R.t ct a a' ha X W g) ih
      | Or => exact pw_or2 (R.t ct a a' ha X W g) ih
    · cases h
theorem name_ok (g : Good Γ asg tb k X W ct) {x : Str} {e' : E} (h : lE tb r ct (.Name x pos) = some e') : PE X (.Name x pos) (tE W (evE Γ asg e')) ∧ ∀ i, e' = .var i → PE X (.Name x pos) (tVar i) := by
  have h : (match slot? ct x with
    | some i => some (E.var i)
    | none => if glB ct x then (match tb.gInts.lookup x with
      | some i => some (.cst (.int i))
      | none => (tb.gStrs.lookup x).map fun z => .cst (.str z)) else none) = some e' := h
  split at h
  · rename_i i hi
    cases h
    exact ⟨pe_evar (slot_ok hi g), fun j hj => by cases hj; exact slot_ok hi g⟩
  · split at h
    · rename_i hg
      obtain ⟨g1, g2⟩ := gl_ok hg g
      split at h
      · rename_i i hi
        cases h
        obtain ⟨t, ht⟩ := g.int x i hi
        exact ⟨pe_cst (v := .int i) (pe_glob g1 ht ⟨t, rfl⟩ g2) fun F => .int i, fun j hj => by cases hj⟩
      · cases q : tb.gStrs.lookup x with
        | none => rw [q] at h; cases h
        | some z =>
          rw [q] at h
          cases h
          obtain ⟨t, ht⟩ := g.str x z q
          exact ⟨pe_cst (v := .str z) (pe_glob g1 ht ⟨t, rfl⟩ g2) fun F => .str z, fun j hj => by cases hj⟩
    · cases h
theorem cst_ok {c : Const} {d : D} {j : Nat} (h : cCst c = some d) : PE X (.Constant c j pos) (tE W (evE Γ asg (.cst d))) := by
  cases c <;> cases h
  · exact pe_cst (v := .non) pe_non fun F => .non
  · exact pe_cst (v := .bl _) pe_bl fun F => .bl _
  · exact pe_cst (v := .int _) pe_int fun F => .int _
  · exact pe_cst (v := .str _) pe_str fun F => .str _
theorem plainIx {b : Expr} (h : ∀ l u s p, b ≠ .Slice l u s p) : PlainIx b := by
  intro o i
  cases b <;> first | rfl | exact absurd rfl (h _ _ _ _)
theorem sub_ok (R : ROk Γ asg tb k r) (g : Good Γ asg tb k X W ct) {a sl : Expr} {e' : E} (h : cSub r ct a sl = some e') : PE X (.Subscript a sl pos) (tE W (evE Γ asg e')) := by
  unfold cSub at h
  split at h
  · cases q : r.e ct a with
    | none => rw [q] at h; cases h
    | some a' =>
      rw [q] at h
      cases h
      exact pe_rev (op_ok R q g)
  · split at h
    · rename_i a' b' ha hb
      cases h
      exact pe_sl01 (op_ok R ha g) (op_ok R hb g)
    · cases h
  · split at h
    · rename_i a' b' ha hb
      cases h
      exact pe_sl10 (op_ok R ha g) (op_ok R hb g)
    · cases h
  · split at h
    · rename_i a' b' c' ha hb hc
      cases h
      exact pe_sl11 (op_ok R ha g) (op_ok R hb g) (op_ok R hc g)
    · cases h
  · cases h
  · rename_i h1 h2 h3 h4 h5
    split at h
    · rename_i a' b' ha hb
      cases h
      exact pe_idx oi_idx (op_ok R ha g) (op_ok R hb g) (plainIx h5)
    · cases h
end
end Mx

end
section
set_option Elab.async false
set_option linter.all false
set_option autoImplicit false
set_option maxRecDepth 100000
set_option maxHeartbeats 4000000
/-! MxK: sorted(xs, key=f), f a def of the program. -/
namespace L2
open PySem PySem.Spec PyProof.Rows
section
variable {X : Cx} {pins : List (Addr × Obj)} {σ : St} {H : Hp} {s : Shared}
/-- something that stands in the heap is taken into ours -/
theorem Inv.adoptO (I : Inv X pins σ H s) {a : Addr} {o : HO} (new : ObjOk X.prog X.w (upd H a o) s.heap a o) (f : FpOk X pins H a) (h0 : X.s_0.heap.objs.size ≤ a) : Inv X pins σ (upd H a o) s := by
  obtain ⟨na, nL, nF, _, nC, hp⟩ := f
  have z0 : X.s_0.heap.get? a = none := Heap.get?_none_of_le h0
  have ne : ∀ b o, X.s_0.heap.get? b = some o → b ≠ a := fun b o e z => by rw [z, z0] at e; cases e
  have old : ∀ b u, H b = some u → upd H a o b = some u := fun b u e => by rw [upd_ne (ne_of_none e na)]; exact e
  refine ⟨I.ok, I.os, I.bare, ⟨I.base.keep, I.base.slot, fun b o e n hx => ?_, I.base.there, fun b xs e => old _ _ (I.base.tups b xs e), fun b o u e => old _ _ (I.base.frzs b o u e), fun b ps e => ?_⟩, I.loc, I.cell, ?_, fun x c e => ?_, fun q hq => ?_, fun b u e => ?_, I.len⟩
  · rw [upd_ne (ne b o e)]
    exact I.base.free b o e n hx
  · obtain ⟨more, e2⟩ := I.base.tbls b ps e
    exact ⟨more, old _ _ e2⟩
  · rw [upd_ne (Ne.symm nL)]
    exact I.free
  · rw [upd_ne (nC x c e)]
    exact I.freeC x c e
  · obtain ⟨e1, e2, e3, e4, e5⟩ := I.pin q hq
    exact ⟨e1, by rw [upd_ne (hp q hq)]; exact e2, e3, e4, e5⟩
  · by_cases hb : b = a
    · subst hb
      rw [upd_same] at e
      cases e
      exact new
    · rw [upd_ne hb] at e
      exact (I.hok b u e).stay (fun _ _ _ q => q) (fun c q => old _ _ q) fun c xs q => old _ _ q
/-- the context of a built-in's own calls -/
abbrev Cx.inB (X : Cx) : Cx := { X with A := X.A.in1.in1, xe := fun _ _ => False }
theorem Inv.inB (I : Inv X pins σ H s) (hc : X.calm = true) : Inv X.inB pins σ H s :=
  ⟨⟨I.ok.mod, I.ok.kind, I.ok.glob, I.ok.blt, I.ok.above, I.ok.inj, I.ok.has, I.ok.cab, fun _ => I.ok.hd hc, I.ok.frames, I.ok.stk, I.ok.exf, I.ok.bs, I.ok.bsz, I.ok.noex, I.ok.exfs, I.ok.funs, I.ok.frf⟩, I.os, I.bare, I.base, I.loc, I.cell, I.free, I.freeC, I.pin, I.hok, I.len⟩
theorem Inv.outB (I : Inv X.inB pins σ H s) (ok : X.Ok) : Inv X pins σ H s := ⟨ok, I.os, I.bare, I.base, I.loc, I.cell, I.free, I.freeC, I.pin, I.hok, I.len⟩
end
end L2
namespace Mx
open PySem PySem.Spec L2
variable [CA]
/-- what calls on given things may do -/
structure NewC (F H F' H' : Hp) : Prop where
  mono : Le F F'
  keep : Le H H'
  le : Le F' H'
  frz : ∀ a, H a ≠ none → F a = none → F' a = none
theorem NewC.refl {F H : Hp} (le : Le F H) : NewC F H F H := ⟨.refl, .refl, le, fun _ _ e => e⟩
theorem NewC.trans {F H F1 H1 F2 H2 : Hp} (x : NewC F H F1 H1) (y : NewC F1 H1 F2 H2) : NewC F H F2 H2 :=
  ⟨x.mono.trans y.mono, x.keep.trans y.keep, y.le, fun a n e => y.frz a (fun z => by
    cases q : H a with
    | none => exact n q
    | some o => rw [x.keep a o q] at z; cases z) (x.frz a n e)⟩
/-- a call on what is given to all -/
theorem call_new {F H F' H' : Hp} {x u : V} {d kd : D} {out : Sl} (r : Rel F H (ent [x] [.shr d]) F' H' ((some u, .shr kd) :: ent [x] [out])) : NewC F H F' H' ∧ Rp F' u kd := by
  have no : ∀ a, ¬ Own (ent [x] [.shr d]) a := fun a ⟨p, hp, e, d', q⟩ => by
    have : p = (some x, Sl.shr d) := by simpa [ent] using hp
    rw [this] at q
    cases q
  exact ⟨⟨r.mono, fun a o e => r.keep a o e (no a), r.er.le, fun a n e => r.frz a n (no a) e⟩, r.er.rpv⟩
/-- sorted(v, key=f): f's keys by the table -/
def rSrt (Γ : Tab) (f : Nat) (fa : Addr) : List V → List V → Hp → VK → Prop := fun vs zs H Q => ∃ v F xs ks ys, vs = [v] ∧ zs = [.ref fa] ∧ Le F H ∧ Rp F v (.lst xs) ∧ keysBy (fun x => frE (Γ f [.shr x])) xs = some ks ∧ sortBy ks xs = some ys ∧ ∀ v' F' H', New F H F' H' v' (.own (.lst ys)) → Q v' H'
theorem keys_len {g : D → R (Sl × Env)} : ∀ {xs ks : List D}, keysBy g xs = some ks → ks.length = xs.length ∧ ∀ (j : Nat) (d : D), xs[j]? = some d → ∃ kd ρ, g d = .ok (.shr kd, ρ) ∧ ks[j]? = some kd
  | [], _, h => by cases h; exact ⟨rfl, fun j d e => by simp at e⟩
  | x :: xs, ks, h => by
    unfold keysBy at h
    split at h
    · rename_i kd ρ hk
      cases q : keysBy g xs with
      | none => rw [q] at h; cases h
      | some ks' =>
        rw [q] at h
        cases h
        obtain ⟨h1, h2⟩ := keys_len q
        refine ⟨by simp [h1], fun j d e => ?_⟩
        cases j with
        | zero =>
          have e : some x = some d := by simpa using e
          cases e
          exact ⟨kd, ρ, hk, rfl⟩
        | succ j => simpa using h2 j d (by simpa using e)
    · cases h
end Mx

end
section
set_option Elab.async false
set_option linter.all false
set_option autoImplicit false
set_option maxRecDepth 100000
set_option maxHeartbeats 8000000
/-! MxK2: sorted(xs, key=f), the rule. -/
namespace Mx
open PySem PySem.Spec L2 PyProof.Rows PySem.W
variable [CA]
section
variable {X : Cx} {Γ : Tab} {f : Nat}
theorem zip_fst {α β γ : Type} (g : α → γ) : ∀ {as : List α} {bs : List β}, as.length = bs.length → (as.zip bs).map (fun p => g p.1) = as.map g
  | [], [], _ => rfl
  | [], _ :: _, h => by simp at h
  | _ :: _, [], h => by simp at h
  | a :: as, b :: bs, h => by
    show g a :: (as.zip bs).map _ = g a :: as.map g
    rw [zip_fst g (by simpa using h)]
theorem er_one {F H : Hp} (le : Le F H) {x : V} {d : D} (r : Rp F x d) : ER F H (ent [x] [.shr d]) :=
  ER.shr (L := []) ⟨le, fun p hp => by simp at hp, List.Pairwise.nil⟩ r
theorem frE_ok {r : FR} {kd : D} {ρ : Mx.Env} (h : frE r = .ok (.shr kd, ρ)) : ∃ outs, r = .ok (.shr kd) outs := by
  cases r with
  | ok v outs =>
    have h : R.ok (v, []) = R.ok (Sl.shr kd, ρ) := h
    cases h
    exact ⟨outs, rfl⟩
  | exc c outs => cases h
  | bad => cases h
theorem vals_at : ∀ {xs : List V} {us : List Value}, Vals xs us → ∀ {j : Nat} {u : Value}, us[j]? = some u → ∃ x, xs[j]? = some x ∧ RelV x u
  | _, _, .nil, j, u, e => by simp at e
  | x :: _, v :: _, .cons r t, 0, u, e => by
    have e : v = u := by simpa using e
    subst e
    exact ⟨x, rfl, r⟩
  | _, _, .cons r t, j + 1, u, e => by
    obtain ⟨x, h1, h2⟩ := vals_at t (j := j) (by simpa using e)
    exact ⟨x, by simpa using h1, h2⟩
theorem keys_each {pins : List (Addr × Obj)} {σ : L2.St} {H F : Hp} {s : Shared} (I : Inv X pins σ H s) (le : Le F H) : ∀ {us : List Value} {xs : List V} {ks : List D}, Vals xs us → RpL F xs ks → (∀ k ∈ ks, plainD 60 k = true) → EachIs (fun v k => ∃ as, Reads s.heap v k as) us (ks.map toPy)
  | _, _, _, .nil, .nil, _ => .nil
  | _, _, _, .cons v vv, .cons r rr, h => .cons (reads_of I le (h _ List.mem_cons_self) (.inl r) v) (keys_each I le vv rr fun k hk => h k (List.mem_cons_of_mem _ hk))
theorem take_snoc {α : Type} {l : List α} {j : Nat} {x : α} (h : l[j]? = some x) : l.take (j + 1) = l.take j ++ [x] := by rw [List.take_add_one, h]; rfl
theorem cr_srt {k : Nat} {fa : Addr} {fd : FuncData} {ps : List Str} (hc : X.calm = true) (FN : FnOk X.prog X.w X.K X.mg X.base (L2.CX X.prog X.w) k fa fd ps (spF CA.ca Γ f 1)) (hr : Room (k + 1) X.A) (hb : Binds X.K fd ps []) :
    CallRK X (.builtin "sorted") [Str.ofString "key"] (rSrt Γ f fa) := by
  intro pins s σ H vs zs us ws Q I r rz h
  obtain ⟨v, F0, xs, ks, ys, rfl, rfl, le, rp, hk, hsrt, K⟩ := h
  cases rp with
  | lst e rl =>
  rename_i l xsV
  obtain rfl := Vals.ref1 r
  obtain rfl := Vals.ref1 rz
  obtain ⟨its, rv, hpl, hz⟩ := I.list (.inl (le.rd e))
  have hlv := rv.length
  have hlx : its.length = xs.length := by rw [← hlv]; exact rl.len
  obtain ⟨hkl, hke⟩ := keys_len hk
  have hZ : its.length ≤ sizeLine := by rw [← hlv]; exact hz
  -- the order
  unfold sortBy at hsrt
  by_cases hq : (comparable ks && ks.length == xs.length && decide (xs.length < LIM)) = true
  case neg => rw [if_neg hq] at hsrt; cases hsrt
  rw [if_pos hq] at hsrt
  cases hsrt
  simp only [Bool.and_eq_true, decide_eq_true_eq] at hq
  obtain ⟨⟨hcmp, _⟩, hlim⟩ := hq
  obtain ⟨c1, c2, c3⟩ := comp_of hcmp
  have so := sortable_of (ps := ks) (f := id) hcmp fun p hp => hp
  show wpAny (model X.prog X.w) X.A (call (.builtin "sorted") [.ref l] [(Str.ofString "key", .ref fa)]) (EP X pins σ Q) X.xe s
  refine sorted_of_sort hpl.isList hZ (ksk_s1 _ _) (fun _ => ksk_l1 _ _) fun E' => ?_
  rw [ksk_t1]
  have ho : (copyHeap s.heap its).get? (s.heap.objs.size + 1) = some (seqObj "list" its.toArray 0) := copyHeap_at s.heap its
  have ha : s.heap.objs.size + 1 < (copyHeap s.heap its).objs.size := Heap.lt_size ho
  obtain ⟨e1, ho1⟩ : ∃ e1, ((copyHeap s.heap its).update (s.heap.objs.size + 1) (Obj.mapSeq fun _ => (#[] : Array Value))).get? (s.heap.objs.size + 1) = some (seqObj "list" #[] e1) := ⟨_, get?_update_seq ho fun _ => #[]⟩
  unfold ksk_tree
  refine wpAny_bind (listItems_at ho rfl ?_)
  refine wpAny_bind (listUpdate_at ho rfl ?_ (by rw [List.size_toArray]; exact hZ) (Nat.zero_le _))
  refine wpAny_bind (seqEpoch_at ho1 rfl ?_)
  refine wpAny_bind (wpAny_newTuple ?_ (by show its.length ≤ _; exact hZ))
  refine wpAny_bind (wpAny_newList ?_ (Nat.zero_le _))
  refine wpAny_holding ?_
  have nkS : (sortingHeap (copyHeap s.heap its) (s.heap.objs.size + 1) its).get? (((copyHeap s.heap its).update (s.heap.objs.size + 1) (Obj.mapSeq fun _ => (#[] : Array Value))).push (seqObj "tuple" its.toArray 0)).objs.size = some (seqObj "list" #[] 0) := Heap.get?_push_size _ rfl
  have naS : (sortingHeap (copyHeap s.heap its) (s.heap.objs.size + 1) its).get? (s.heap.objs.size + 1) = some (seqObj "list" #[] e1) := Heap.get?_push_of_some _ (Heap.get?_push_of_some _ ho1)
  have hkS : s.heap.objs.size + 1 < (((copyHeap s.heap its).update (s.heap.objs.size + 1) (Obj.mapSeq fun _ => (#[] : Array Value))).push (seqObj "tuple" its.toArray 0)).objs.size := by
    rw [size_push', Heap.size_update]; omega
  have hS : ∀ b o, s.heap.get? b = some o → (sortingHeap (copyHeap s.heap its) (s.heap.objs.size + 1) its).get? b = some o := fun _ _ => sorting_copy_old
  show wpAny (model X.prog X.w) X.A.in1.in1 (ksk_rest (s.heap.objs.size + 1) (.ref fa) false its.toArray e1 (.ref (((copyHeap s.heap its).update (s.heap.objs.size + 1) (Obj.mapSeq fun _ => (#[] : Array Value))).push (seqObj "tuple" its.toArray 0)).objs.size)) _ E' { s with heap := sortingHeap (copyHeap s.heap its) (s.heap.objs.size + 1) its }
  generalize (((copyHeap s.heap its).update (s.heap.objs.size + 1) (Obj.mapSeq fun _ => (#[] : Array Value))).push (seqObj "tuple" its.toArray 0)).objs.size = kS at *
  generalize sortingHeap (copyHeap s.heap its) (s.heap.objs.size + 1) its = hp at *
  have fA : FpOk X pins H (s.heap.objs.size + 1) := I.fpOk (Nat.le_succ _) (I.hok.fresh (Nat.le_succ _))
  have fK : FpOk X pins H kS := I.fpOk (by omega) (I.hok.fresh (by omega))
  have hA0 : X.s_0.heap.objs.size ≤ s.heap.objs.size + 1 := Nat.le_succ_of_le I.sz
  have okX := I.ok
  generalize hga : s.heap.objs.size + 1 = a at *
  obtain ⟨_, a1, a2, a3, a4, a5⟩ := fA
  obtain ⟨_, k1, k2, k3, k4, k5⟩ := fK
  have hne : kS ≠ a := Nat.ne_of_gt hkS
  have I1 : Inv X pins σ H { s with heap := hp } := I.kept (t' := s.toks) hS
  have I2 : Inv X.inB ((kS, seqObj "list" #[] 0) :: (a, seqObj "list" #[] e1) :: pins) σ H { s with heap := hp } := (I1.inB hc).pins_of fun p hp' => by
    rcases List.mem_cons.mp hp' with rfl | hp'
    · exact ⟨nkS, I.hok.fresh (by omega), k1, k2, fun v z => by cases z⟩
    rcases List.mem_cons.mp hp' with rfl | hp'
    · exact ⟨naS, I.hok.fresh (by omega), a1, a2, fun v z => by cases z⟩
    · exact I1.pin p (List.mem_append_right _ hp')
  unfold ksk_rest
  refine wpAny_bind (wpAny_rule ?_)
  first
    | rw [List.forIn_toArray]
    | (rw [← Array.forIn_toList]; simp only [List.toList_toArray])
    | rw [← Array.forIn_toList]
  refine wpAny_bind (ksk_fold (fun i s' => ∃ F' H' kA e kv, Inv X.inB ((kS, seqObj "list" kA e) :: (a, seqObj "list" #[] e1) :: pins) σ H' s' ∧ NewC F0 H F' H' ∧ Vals kv kA.toList ∧ RpL F' kv (ks.take i)) its 0 _ ⟨F0, H, #[], 0, [], I2, .refl le, .nil, by rw [List.take_zero]; exact .nil⟩ ?step ?done)
  case step =>
    rintro j x s' hx ⟨F', H', kA, e, kv, J, nc, vk, rk⟩
    simp only [Nat.zero_add] at rk ⊢
    obtain ⟨xv, hxv, rx⟩ := vals_at rv hx
    obtain ⟨d, hd, rd⟩ := rl.getV hxv
    obtain ⟨kd, ρ, hfr, hkj⟩ := hke j d hd
    obtain ⟨outs, hΓ⟩ := frE_ok hfr
    have hzk : kA.size ≤ its.length := by
      have h1 := vk.length
      have h2 := rk.len
      rw [List.length_take] at h2
      rw [← Array.length_toList]
      omega
    have sp : spF CA.ca Γ f 1 [xv] H' (fun u H'' => ∃ F'', NewC F' H' F'' H'' ∧ Rp F'' u kd) (fun _ _ _ => False) := by
      refine ⟨rfl, F', [.shr d], rfl, er_one nc.le (rd.mono nc.mono), ?_⟩
      rw [hΓ]
      intro u F'' H'' hl rel
      match outs, hl with
      | [out], _ => exact ⟨F'', call_new rel⟩
    have run := run_fnS (X := X.inB) (E := fun _ _ _ _ => False) (σ := σ) FN (by
      have r0 := hr
      exact ⟨r0.hd, by have := r0.dp; show X.A.depth + 3 * k + 5 < _; omega, by have := r0.un; show X.A.units + 1 + 1 + 16 * k + 200 < _; omega⟩) hb (fun pins H s e s' _ c => by
        obtain ⟨a, B, H', cls, d, _, _, _, _, _, _, _, z⟩ := c
        exact z.elim) J (show Vals [xv] [x] from .cons rx .nil) sp
    refine wpAny_bind (wpAny_attempt (wpAny_mono run (fun u s'' he => ?_) fun _ _ hF => hF.elim))
    obtain ⟨uv, H'', J', ru, F'', nc2, rku⟩ := he
    try dsimp only
    have nk2 : s''.heap.get? kS = some (seqObj "list" kA e) := (J'.pin (kS, seqObj "list" kA e) (List.mem_append_right _ List.mem_cons_self)).1
    have hk2 : H'' kS = none := (J'.pin (kS, seqObj "list" kA e) (List.mem_append_right _ List.mem_cons_self)).2.1
    have na2 : s''.heap.get? a = some (seqObj "list" #[] e1) := (J'.pin (a, seqObj "list" #[] e1) (List.mem_append_right _ (List.mem_cons_of_mem _ List.mem_cons_self))).1
    have ha2 : H'' a = none := (J'.pin (a, seqObj "list" #[] e1) (List.mem_append_right _ (List.mem_cons_of_mem _ List.mem_cons_self))).2.1
    have same := Heap.SameBut.update s''.heap kS (Obj.mapSeq (·.push u))
    obtain ⟨e2, he2⟩ : ∃ e2, (s''.heap.update kS (Obj.mapSeq (·.push u))).get? kS = some (seqObj "list" (kA.push u) e2) := ⟨_, get?_update_seq nk2 (·.push u)⟩
    refine wpAny_bind (listUpdate_at nk2 rfl ?_ (Nat.le_trans hzk hZ) (Nat.le_trans (Nat.le_of_eq (Array.size_push ..)) (Nat.succ_le_succ (Nat.le_trans hzk hZ))))
    have Ju : Inv X.inB pins σ H'' s'' := J'.pins_of fun p hp' => J'.pin p (List.mem_append_right _ (List.mem_cons_of_mem _ (List.mem_cons_of_mem _ hp')))
    have Jt : Inv X.inB pins σ H'' { s'' with heap := s''.heap.update kS (Obj.mapSeq (·.push u)) } := Ju.turnedL (t' := s''.toks) (ch := [kS]) (fun b o hb' q => (same.2 b (fun z => hb' (by simp [z]))).trans q) fun b hb' => by
      have : b = kS := by simpa using hb'
      subst this
      exact ⟨hk2, k1, k2, k3, k4, k5⟩
    refine wpAny_pure ⟨rfl, F'', H'', kA.push u, e2, kv ++ [uv], ?_, nc.trans nc2, ?_, ?_⟩
    · refine Jt.pins_of fun p hp' => ?_
      rcases List.mem_cons.mp hp' with rfl | hp'
      · exact ⟨he2, hk2, k1, k2, fun v z => by cases z⟩
      rcases List.mem_cons.mp hp' with rfl | hp'
      · exact ⟨(same.2 a hne.symm).trans na2, ha2, a1, a2, fun v z => by cases z⟩
      · exact Jt.pin p (List.mem_append_right _ hp')
    · have ea : (kA.push u).toList = kA.toList ++ [u] := by simp
      rw [ea]
      exact vk.append (.cons ru .nil)
    · rw [take_snoc hkj]
      exact (rk.mono nc2.mono).app (.cons rku .nil)
  case done =>
    rintro s' ⟨F', H', kA, e, kv, J, nc, vk, rk⟩
    rw [Nat.zero_add, hlx, ← hkl, List.take_length] at rk
    have nk' : s'.heap.get? kS = some (seqObj "list" kA e) := (J.pin (kS, seqObj "list" kA e) (List.mem_append_right _ List.mem_cons_self)).1
    have hk' : H' kS = none := (J.pin (kS, seqObj "list" kA e) (List.mem_append_right _ List.mem_cons_self)).2.1
    have na' : s'.heap.get? a = some (seqObj "list" #[] e1) := (J.pin (a, seqObj "list" #[] e1) (List.mem_append_right _ (List.mem_cons_of_mem _ List.mem_cons_self))).1
    have ha' : H' a = none := (J.pin (a, seqObj "list" #[] e1) (List.mem_append_right _ (List.mem_cons_of_mem _ List.mem_cons_self))).2.1
    have Ju : Inv X.inB pins σ H' s' := J.pins_of fun p hp' => J.pin p (List.mem_append_right _ (List.mem_cons_of_mem _ (List.mem_cons_of_mem _ hp')))
    have ek := keys_each J nc.le vk rk c1
    have hsz : kA.size = its.length := by
      have h1 := vk.length
      have h2 := rk.len
      rw [← Array.length_toList]
      omega
    obtain ⟨G, g1, g2⟩ := restrict s'.heap fun b => decide (b ≠ kS ∧ b ≠ a)
    have gk : ∀ b o, G.get? b = some o → b ≠ kS ∧ b ≠ a ∧ s'.heap.get? b = some o := fun b o q => by
      by_cases z : b ≠ kS ∧ b ≠ a
      · rw [g1 b (by simpa using z)] at q
        exact ⟨z.1, z.2, q⟩
      · rw [g2 b (by simpa using z)] at q; cases q
    try dsimp only
    refine wpAny_bind (listItems_at nk' rfl ?_)
    refine keyH_end (κ := dataKind s'.heap (ks.map toPy)) (h₁ := G) (vs := its) (fun b o _ q => (gk b o q).2.2) (g2 kS (by simp)) nk' na' hne (SortsAt.data (s := s') ek so.1 so.2 fun d hd => ?_) hsz hZ fun h3 tk3 c k3 n3 => ⟨rfl, ?_⟩
    · obtain ⟨z, hz', rfl⟩ := List.mem_map.mp hd
      obtain ⟨_, q⟩ := plain_py 60 z (c1 z hz')
      have := hr.un
      show X.A.units + 1 + 1 + _ < _
      omega
    · have bs : (ks.zip xs).map (fun p => toPy p.1) = ks.map toPy := zip_fst toPy hkl
      have ko : KeyedOut false ((ks.zip xs).map fun p => toPy p.1) its (sortVals (dataKind s'.heap (ks.map toPy)) false kA.toList its) := by
        rw [bs]
        exact ⟨s'.heap, kA.toList, so.1, rfl, ek⟩
      have eo := keyedOut_each (fun p : D × D => toPy p.1) ko (rv_each (F := F') rv (rl.mono nc.mono) hkl)
      rw [le_sort hcmp fun p hp' => zip_mem1 hp'] at eo
      obtain ⟨yv, v1, v2⟩ := each_rv eo
      have hyl : yv.length ≤ sizeLine := by
        rw [v2.len, List.length_map, (List.mergeSort_perm _ _).length_eq, List.length_zip, hkl, Nat.min_self]
        exact lim_le hlim
      have J3 : Inv X.inB pins σ H' { s' with heap := h3, toks := tk3 } := Ju.turnedL (t' := tk3) (ch := [kS, a]) (fun b o hb' q => k3 b o (fun z => hb' (by simp [z])) (by rw [g1 b (by simp; exact ⟨fun z => hb' (by simp [z]), fun z => hb' (by simp [z])⟩)]; exact q)) fun b hb' => by
        rcases List.mem_cons.mp hb' with rfl | hb'
        · exact ⟨hk', k1, k2, k3, k4, k5⟩
        · have : b = a := by simpa using hb'
          subst this
          exact ⟨ha', a1, a2, a3, a4, a5⟩
      have J4 := (J3.outB okX).adoptO (o := .lst yv) (a := a) ⟨hyl, _, c, v1, n3⟩ ⟨ha', a1, a2, a3, a4, a5⟩ hA0
      have hf : F' a = none := by
        cases q : F' a with
        | none => rfl
        | some o => rw [nc.le a o q] at ha'; cases ha'
      have hH : H a = none := by
        cases q : H a with
        | none => rfl
        | some o => rw [nc.keep a o q] at ha'; cases ha'
      exact ⟨.ref a, _, J4, rfl, K _ F' _ ⟨nc.mono, nc.keep.trans fun b o q => by rw [upd_ne (ne_of_none q ha')]; exact q, fun b o q => by rw [upd_ne (ne_of_none q hf)]; exact nc.le b o q, nc.frz, ⟨a, rfl, hf, yv, upd_same, v2⟩, fun b ⟨q, _⟩ => by
        have : some (V.ref a) = some (.ref b) := q
        cases this
        exact hH⟩⟩
end
end Mx
namespace Mx
open PySem PySem.Spec L2
variable [CA]
section
variable {Γ : Tab} {asg : Nat → List Bool} {X : Cx} {W : WE} {a : Expr} {a' src : E} {pos np gp kp : Pos}
theorem srt_imp {f : Nat} {fa : Addr} {σ : St} {H : Hp} {Q : VK} (z : tE W (evE Γ asg (.srt f src)) σ H Q) : tL W (evL Γ asg src) σ H fun vs H1 => rSrt Γ f fa vs [.ref fa] H1 Q := by
  refine step0 (f := fun x => match x.1 with
    | [.lst xs] => (match (keysBy (fun x => frE (Γ f [.shr x])) xs).bind fun ks => sortBy ks xs with
      | some ys => R.ok (Sl.own (.lst ys), x.2)
      | none => .bad)
    | _ => .bad) z fun F ρ hl er vs ds ρ1 F1 H1 e1 hl1 ok1 rel1 g1 => ?_
  dsimp only at g1
  split at g1
  · rename_i xs
    have rp := rpL_of rel1.er ok1 fun p hp => List.mem_append_left _ hp
    cases rp with
    | cons r1 rr =>
      cases rr
      cases hk : keysBy (fun x => frE (Γ f [.shr x])) xs with
      | none => rw [hk] at g1; exact g1.elim
      | some ks =>
        rw [hk] at g1
        have g1 : gR W enE okE (match sortBy ks xs with
          | some ys => R.ok (Sl.own (.lst ys), ρ1)
          | none => .bad) F H σ ρ Q := g1
        cases hs : sortBy ks xs with
        | none => rw [hs] at g1; exact g1.elim
        | some ys =>
          rw [hs] at g1
          have er1 : ER F1 H1 (zp σ ρ1) := rel1.er.sub (List.sublist_append_right _ _)
          exact ⟨_, F1, xs, ks, ys, rfl, rfl, er1.le, r1, hk, hs, fun v' F' H' n => gR_ok g1 hl1 trivial ((rel1.subR (List.sublist_append_right _ _)).trans (n.rel er1))⟩
  · exact g1.elim
theorem pe_srt {k : Nat} {f : Nat} {fa : Addr} {fd : FuncData} {ps : List Str} {y : Str} (hc : X.calm = true) (FN : FnOk X.prog X.w X.K X.mg X.base (L2.CX X.prog X.w) k fa fd ps (spF CA.ca Γ f 1)) (hr : Room (k + 1) X.A) (hb : Binds X.K fd ps [])
    (hg : Gl X "sorted") (hm : X.mg "sorted" = none) (hgy : Gl X y) (hmy : X.mg y = some (.ref fa)) (hdy : (y == ("__debug__" : Str)) = false) (hs : starEach [a] X.env = (false, eval a X.env) :: starEach [] X.env) (ha : PA X [a] (tL W (evL Γ asg (.cons a' .nil)))) :
    PE X (.Call (.Name "sorted" np) [a] [⟨some "key", .Name y gp, kp⟩] pos) (tE W (evE Γ asg (.srt f (.cons a' .nil)))) := by
  refine pe_imp (pe_callBK (cr_srt hc FN hr hb) hg hm (by kernel_rfl) ha (pk_cons (pe_glob (v := .ref fa) hgy hmy rfl hdy) pk_nil) (by decide) (by decide) (by rw [hs]; rfl) (by rw [hs]; rfl) rfl rfl rfl) fun σ H Q z => srt_imp z
end
end Mx

end
section
set_option Elab.async false
set_option linter.all false
set_option autoImplicit false
set_option maxRecDepth 100000
set_option maxHeartbeats 4000000
/-! MxY3: calls, methods. -/
namespace Mx
open PySem PySem.Spec L2
variable [CA]
section
variable {Γ : Tab} {asg : Nat → List Bool} {tb : Tb} {k : Nat} {r : Rc} {ct : Ct} {X : Cx} {W : WE} {pos np : Pos}
theorem cOs_cons {a : Expr} {es : List Expr} {e' : E} (h : cOs r ct (a :: es) = some e') : noStar a = true ∧ ∃ a' r', e' = .cons a' r' ∧ r.e ct a = some a' ∧ cOs r ct es = some r' := by
  unfold cOs at h
  split at h
  · rename_i hs
    split at h
    · rename_i a' ha
      cases q : cOs r ct es with
      | none => rw [q] at h; cases h
      | some r' => rw [q] at h; cases h; exact ⟨hs, a', r', rfl, ha, rfl⟩
    · cases h
  · cases h
theorem stars_none : ∀ {es : List Expr} {e' : E} (env : PySem.Env), cOs r ct es = some e' → (backTo pos (starEach es env)).any (·.1) = false
  | [], _, _, _ => rfl
  | a :: es, e', env, h => by
    obtain ⟨hs, a', r', _, _, hr⟩ := cOs_cons h
    rw [star_cons hs]
    show (false || (backTo pos (starEach es env)).any (·.1)) = false
    rw [stars_none env hr]
    rfl
theorem bltf_ok {x : Str} {p : Pr} {n : Nat} (h : bltP x n = some (p, false)) (g : Good Γ asg tb k X W ct) : ∃ id, CallR X (.builtin id) (rD (pr p)) ∧ bootBuiltins x = some (.builtin id) ∧ x ≠ "__name__" := by
  have hu := g.hu
  have hc := g.calm
  unfold bltP at h
  split at h
  · rename_i hx; cases h; rw [hx.1]; exact ⟨"len", ob_len, by kernel_rfl, by decide⟩
  split at h
  · rename_i hx; cases h; rw [hx.1]; exact ⟨"abs", ob_abs, by kernel_rfl, by decide⟩
  split at h
  · rename_i hx; cases h; rw [hx.1]; exact ⟨"all", ob_all hc, by kernel_rfl, by decide⟩
  split at h
  · rename_i hx; cases h; rw [hx.1]; exact ⟨"any", ob_any hc, by kernel_rfl, by decide⟩
  split at h
  · rename_i hx; cases h; rw [hx.1]; exact ⟨"sum", ob_sum hc, by kernel_rfl, by decide⟩
  split at h
  · rename_i hx; cases h; rw [hx.1]; exact ⟨"max", ob_max2 hc, by kernel_rfl, by decide⟩
  split at h
  · rename_i hx; cases h; rw [hx.1]; exact ⟨"min", ob_min2 hc, by kernel_rfl, by decide⟩
  split at h
  · rename_i hx; cases h; rw [hx.1]; exact ⟨"sorted", ob_sorted (by omega), by kernel_rfl, by decide⟩
  split at h
  · cases h
  split at h <;> cases h
theorem bltt_ok {x : Str} {p : Pr} {n : Nat} (h : bltP x n = some (p, true)) (g : Good Γ asg tb k X W ct) : ∃ id, CallR X (.type id) (rD (pr p)) ∧ bootBuiltins x = some (.type id) ∧ x ≠ "__name__" := by
  unfold bltP at h
  iterate 8 (split at h; (· cases h))
  split at h
  · rename_i hx; cases h; rw [hx.1]; exact ⟨"list", ob_list, by kernel_rfl, by decide⟩
  split at h
  · rename_i hx; cases h; rw [hx.1]; exact ⟨"tuple", ob_tuple, by kernel_rfl, by decide⟩
  · cases h
theorem ty_ok {y : Str} {t : Ty} (h : tyOf y = some t) : y = tyName t ∧ bootBuiltins y = some (.type (tyName t)) ∧ y ≠ "__name__" := by
  unfold tyOf at h
  split at h
  · rename_i e; cases h; rw [e]; exact ⟨rfl, by kernel_rfl, by decide⟩
  split at h
  · rename_i e; cases h; rw [e]; exact ⟨rfl, by kernel_rfl, by decide⟩
  split at h
  · rename_i e; cases h; rw [e]; exact ⟨rfl, by kernel_rfl, by decide⟩
  split at h
  · rename_i e; cases h; rw [e]; exact ⟨rfl, by kernel_rfl, by decide⟩
  split at h
  · rename_i e; cases h; rw [e]; exact ⟨rfl, by kernel_rfl, by decide⟩
  split at h
  · rename_i e; cases h; rw [e]; exact ⟨rfl, by kernel_rfl, by decide⟩
  · cases h
theorem call_ok (R : ROk Γ asg tb k r) (g : Good Γ asg tb k X W ct) {x : Str} {args : List Expr} {e' : E} (h : cCall tb r ct x args = some e') : PE X (.Call (.Name x np) args [] pos) (tE W (evE Γ asg e')) ∧ ∀ i, e' ≠ .var i := by
  unfold cCall at h
  split at h
  · cases h
  rename_i hg0
  obtain ⟨hg, hdb⟩ := gl_ok (by simpa using hg0) g
  split at h
  · cases h
  rename_i a es
  split at h
  · rename_i f hf
    cases q : cOs r ct (a :: es) with
    | none => rw [q] at h; cases h
    | some as =>
      rw [q] at h
      cases h
      obtain ⟨fa, fd, ps, F, hm, hk, hb, _⟩ := g.fnok f x (findIdx_get hf)
      have hs := (cOs_cons q).1
      refine ⟨?_, fun i hi => by cases hi⟩
      refine pe_call2 (ca := CA.ca) (CX := L2.CX X.prog X.w) (E := fun σ cls d H => wX CA.ca W cls d σ H) F (g.room.mono (Nat.le_succ k)) hg hm hk hb (fun σ => passAt g.tk σ) rfl (fun c σ H w => ⟨c, rfl, rfl, w⟩) (as_ok R g _ q) hdb (star_cons hs _ _) ?_
      obtain ⟨_, _, r', _, _, hr⟩ := cOs_cons q
      exact stars_none _ hr
  · split at h
    · cases h
    rename_i hbl
    have hm := g.blt x (by simpa using hbl)
    split at h
    · rename_i hx
      subst hx
      split at h
      · rename_i y yp
        split at h
        · cases h
        rename_i hst
        simp only [Bool.or_eq_true, Bool.not_eq_true', not_or, Bool.not_eq_false] at hst
        obtain ⟨hgy, hdy⟩ := gl_ok hst.2 g
        split at h
        · cases h
        rename_i a' ha
        have oa := op_ok R ha g
        have s1 := star_cons (es := [Expr.Name y yp]) hst.1 X.env
        split at h
        · rename_i hby
          split at h
          · rename_i t ht
            cases h
            obtain ⟨e1, e2, e3⟩ := ty_ok ht
            exact ⟨pe_isi hg hm oa (pe_bltn hgy (g.blt y hby) e2 rfl e3 hdy) s1 rfl rfl, fun i hi => by cases hi⟩
          · split at h
            · rename_i hv
              cases h
              simp only [Bool.and_eq_true, beq_iff_eq] at hv
              obtain ⟨hfull, rfl⟩ := hv
              obtain ⟨hE, _⟩ := g.err hfull
              refine ⟨pe_isx (.inr (.inr rfl)) hE hg hm oa ?_ s1 rfl rfl, fun i hi => by cases hi⟩
              exact pe_bltn (v := clsV "ValueError") hgy (g.blt _ hby) (u := .type "ValueError") (by kernel_rfl) rfl (by decide) hdy
            · cases h
        · split at h
          · rename_i hv
            cases h
            simp only [Bool.and_eq_true, Bool.or_eq_true, beq_iff_eq] at hv
            obtain ⟨hfull, hy⟩ := hv
            obtain ⟨hE, hmg⟩ := g.err hfull
            have hne : y ≠ "ValueError" := by
              rintro rfl
              rcases hy with hy | hy
              · exact absurd hy (by decide)
              · exact absurd hy (by decide)
            refine ⟨pe_isx (hy.elim .inl fun z => .inr (.inl z)) hE hg hm oa ?_ s1 rfl rfl, fun i hi => by cases hi⟩
            unfold clsV
            rw [if_neg hne]
            exact pe_glob hgy (hmg y hy) rfl hdy
          · cases h
      · cases h
    · split at h
      · rename_i p bb hp
        cases q : cOs r ct (a :: es) with
        | none => rw [q] at h; cases h
        | some as =>
          rw [q] at h
          cases h
          obtain ⟨hs, a', r', rfl, ha, hr⟩ := cOs_cons q
          refine ⟨?_, fun i hi => by cases hi⟩
          cases bb with
          | false =>
            obtain ⟨id, c1, c2, c3⟩ := bltf_ok hp g
            exact pe_blt c1 hg hm c2 (os_ok R g q) c3 hdb (star_cons hs _ _) (stars_none _ hr)
          | true =>
            obtain ⟨id, c1, c2, c3⟩ := bltt_ok hp g
            exact pe_blty c1 hg hm c2 (os_ok R g q) c3 hdb (star_cons hs _ _) (stars_none _ hr)
      · cases h
theorem key_ok (R : ROk Γ asg tb k r) (g : Good Γ asg tb k X W ct) {x : Str} {args : List Expr} {kw : Keyword} {kws : List Keyword} {e' : E} (h : cKey tb r ct x args kw kws = some e') :
    PE X (.Call (.Name x np) args (kw :: kws) pos) (tE W (evE Γ asg e')) ∧ ∀ i, e' ≠ .var i := by
  obtain ⟨ka, kv, kp⟩ := kw
  unfold cKey at h
  split at h
  · rename_i a kn y gp e1 e2
    dsimp only at e1 e2
    subst e1 e2
    split at h
    · rename_i hc
      simp only [Bool.and_eq_true, beq_iff_eq] at hc
      obtain ⟨⟨⟨⟨⟨⟨rfl, rfl⟩, h3⟩, h4⟩, h5⟩, h6⟩, h7⟩ := hc
      split at h
      · rename_i f a' hf ha
        cases h
        obtain ⟨fa, fd, ps, F, hm, hk, hb, h1⟩ := g.fnok f y (findIdx_get hf)
        rw [h1 h6] at F
        obtain ⟨hgy, hdy⟩ := gl_ok h4 g
        exact ⟨pe_srt g.calm F g.room hb (gl_ok h3 g).1 (g.blt _ h5) hgy hm hdy (star_cons h7 _ _) (pa_l_cons (R.e _ _ _ ha X W g) pa_l_nil (star_cons h7 _ _)), fun i hi => by cases hi⟩
      · cases h
    · cases h
  · cases h
theorem base_ok {o : Expr} (h : noCall o = true) (name : Str) (env : PySem.Env) : attributeBase o name env (eval o env) = eval o env := by
  cases o <;> first | rfl | cases h
theorem meth_ok (R : ROk Γ asg tb k r) (g : Good Γ asg tb k X W ct) {o : Expr} {name : Str} {ap : Pos} {args : List Expr} {e' : E} (hl : (ap.endLine == pos.line) = true) (h : cMeth r ct o name args = some e') :
    PE X (.Call (.Attribute o name ap) args [] pos) (tE W (evE Γ asg e')) ∧ ∀ i, e' ≠ .var i := by
  have hu := g.hu
  unfold cMeth at h
  split at h
  · cases h
  rename_i hnc
  have hbase := base_ok (o := o) (by simpa using hnc) name X.env
  split at h
  · rename_i hname
    split at h
    · rename_i x xp a
      split at h
      · rename_i i as hi has
        cases h
        refine ⟨?_, fun i hi => by cases hi⟩
        obtain ⟨hs, a', r', e1, ha, hr⟩ := cOs_cons has
        have hv := slot_ok (pos := xp) hi g
        have s1 := star_cons (es := []) hs X.env
        have hfew : ((backTo pos (starEach [a] X.env)).all (fun x => !x.1) && (backToKw pos (keywordEach [] X.env)).all (fun x => x.1.isSome) && decide (([a] : List Expr).length + ([] : List Keyword).length + (if ([] : List Keyword).isEmpty then 0 else 1) < 30)) = true := by
          rw [s1]; rfl
        by_cases hap : name = "append"
        · rw [if_pos hap]
          subst hap
          exact pe_imp (pe_bm PySem.F.plainAttrs_list PySem.F.slot_list_append PySem.F.type_list_append mt_append hv (l_ok R g has) hbase hfew hl s1 rfl) fun σ H Q z => app_imp z
        · rw [if_neg hap]
          rcases hname with z | z
          · exact absurd z hap
          · subst z
            exact pe_imp (pe_bm PySem.F.plainAttrs_list PySem.F.slot_list_extend PySem.F.type_list_extend mt_extR hv (l_ok R g has) hbase hfew hl s1 rfl) fun σ H Q z => ext_imp z
      · cases h
    · cases h
  split at h
  · rename_i hname
    subst hname
    split at h
    · rename_i x xp
      cases q : slot? ct x with
      | none => rw [q] at h; cases h
      | some i =>
        rw [q] at h
        cases h
        refine ⟨?_, fun i hi => by cases hi⟩
        exact pe_imp (pe_bm0 PySem.F.plainAttrs_list PySem.F.slot_list_pop PySem.F.type_list_pop mt_pop (slot_ok (pos := xp) q g) hbase hl) fun σ H Q z => pop_imp z
    · cases h
  split at h
  · rename_i hname
    split at h
    · rename_i a
      split at h
      · rename_i o' as ho has
        cases h
        refine ⟨?_, fun i hi => by cases hi⟩
        obtain ⟨hs, a', r', e1, ha, hr⟩ := cOs_cons has
        have s1 := star_cons (es := []) hs X.env
        have hfew : ((backTo pos (starEach [a] X.env)).all (fun x => !x.1) && (backToKw pos (keywordEach [] X.env)).all (fun x => x.1.isSome) && decide (([a] : List Expr).length + ([] : List Keyword).length + (if ([] : List Keyword).isEmpty then 0 else 1) < 30)) = true := by
          rw [s1]; rfl
        by_cases hap : name = "index"
        · rw [if_pos hap]
          subst hap
          exact pe_met (.inl rfl) PySem.F.plainAttrs_list PySem.F.slot_list_index PySem.F.type_list_index (ob_index (by omega)) (op_ok R ho g) (os_ok R g has) hbase hfew hl s1 rfl
        · rw [if_neg hap]
          rcases hname with z | z
          · exact absurd z hap
          · subst z
            exact pe_met (.inl rfl) PySem.F.plainAttrs_list PySem.F.slot_list_count PySem.F.type_list_count (ob_count (by omega)) (op_ok R ho g) (os_ok R g has) hbase hfew hl s1 rfl
      · cases h
    · cases h
  · cases h
end
end Mx

end
section
set_option Elab.async false
set_option linter.all false
set_option autoImplicit false
set_option maxRecDepth 100000
set_option maxHeartbeats 4000000
/-! MxY4: targets, what is walked, comprehensions; every expression. -/
namespace Mx
open PySem PySem.Spec L2
variable [CA]
theorem assign_cons {a : Expr} (h : noStar a = true) (es : List Expr) (env : PySem.Env) : assignEach (a :: es) env = (false, assign a env) :: assignEach es env := by
  cases a <;> first | rfl | cases h
section
variable {Γ : Tab} {asg : Nat → List Bool} {tb : Tb} {k : Nat} {r : Rc} {ct : Ct} {X : Cx} {W : WE} {pos : Pos}
theorem tgts_len {n : Nat} : ∀ {es : List Expr} {ts : T}, cTgt.cTgts ct n es = some ts → ∀ ds ρ ρ', setT.setTs ts ds ρ = some ρ' → ds.length = es.length
  | [], _, h, ds, ρ, ρ', e => by
    cases h
    cases ds with
    | nil => rfl
    | cons d ds => cases e
  | a :: es, _, h, ds, ρ, ρ', e => by
    unfold cTgt.cTgts at h
    split at h
    · split at h
      · rename_i a' ha
        cases q : cTgt.cTgts ct n es with
        | none => rw [q] at h; cases h
        | some ts =>
          rw [q] at h
          cases h
          cases ds with
          | nil => cases e
          | cons d ds =>
            have e : (setT a' d ρ).bind (setT.setTs ts ds) = some ρ' := e
            cases e1 : setT a' d ρ with
            | none => rw [e1] at e; cases e
            | some ρ1 =>
              rw [e1] at e
              simp [tgts_len q ds ρ1 ρ' e]
      · cases h
    · cases h
theorem tgts_star {n : Nat} : ∀ {es : List Expr} {ts : T}, cTgt.cTgts ct n es = some ts → ∀ env, (assignEach es env).length = es.length ∧ (assignEach es env).findIdx? (·.1) = none
  | [], _, _, env => ⟨rfl, rfl⟩
  | a :: es, _, h, env => by
    unfold cTgt.cTgts at h
    split at h
    · rename_i hs
      split at h
      · cases q : cTgt.cTgts ct n es with
        | none => rw [q] at h; cases h
        | some ts =>
          rw [assign_cons hs]
          obtain ⟨h1, h2⟩ := tgts_star q env
          refine ⟨by simp [h1], ?_⟩
          rw [List.findIdx?_cons, h2]
          rfl
      · cases h
    · cases h
structure GoodT (X : Cx) (ct : Ct) : Prop where
  calm : X.calm = true
  nod : X.N.Nodup
  hN : X.N = ct.N
  sc : X.env.scope = ct.sc
  wr : X.fn = ct.wr
theorem Good.gt (g : Good Γ asg tb k X W ct) : GoodT X ct := ⟨g.calm, g.nod, g.hN, g.sc, g.wr⟩
mutual
theorem tgt_ok (g : GoodT X ct) : ∀ (n : Nat) (tg : Expr) (t : T), cTgt ct n tg = some t → PG X tg (gT t)
  | 0, _, _, h => by simp [cTgt] at h
  | n + 1, tg, t, h => by
    unfold cTgt at h
    split at h
    · cases h
    · rename_i m x p e
      split at h
      · rename_i hx
        cases q : ct.N.findIdx? (· == x) with
        | none => rw [q] at h; cases h
        | some i =>
          rw [q] at h
          cases h
          have hx' : X.env.scope.names.lookup x = some .local := by rw [g.sc]; exact hx
          exact pg_nm (pg_name g.nod (by rw [g.hN]; exact findIdx_get q) (.inl hx') (.inr hx'))
      · rename_i hx
        split at h
        · rename_i hw
          cases q : ct.N.findIdx? (· == x) with
          | none => rw [q] at h; cases h
          | some i =>
            rw [q] at h
            cases h
            have hx' : X.env.scope.names.lookup x = some .cell := by rw [g.sc]; exact hx
            exact pg_nm (pg_name g.nod (by rw [g.hN]; exact findIdx_get q) (.inr hx') (.inl (by rw [g.wr]; exact hw)))
        · cases h
      · cases h
    · rename_i m es kk p e
      cases e
      cases q : cTgt.cTgts ct n es with
      | none => rw [q] at h; cases h
      | some ts =>
        rw [q] at h
        cases h
        obtain ⟨h1, h2⟩ := tgts_star q X.env
        exact pg_tp g.calm (tgts_ok g n es ts q) h1 h2 (tgts_len q)
    · cases h
theorem tgts_ok (g : GoodT X ct) : ∀ (n : Nat) (es : List Expr) (ts : T), cTgt.cTgts ct n es = some ts → PGs X es (gTs ts)
  | n, [], ts, h => by cases h; exact pgs_nl
  | n, a :: es, ts, h => by
    unfold cTgt.cTgts at h
    split at h
    · rename_i hs
      split at h
      · rename_i a' ha
        cases q : cTgt.cTgts ct n es with
        | none => rw [q] at h; cases h
        | some ts' =>
          rw [q] at h
          cases h
          exact pgs_cn (tgt_ok g n a a' ha) (tgts_ok g n es ts' q) (by rw [assign_cons hs]; rfl)
      · cases h
    · cases h
end
end
end Mx

end
section
set_option Elab.async false
set_option linter.all false
set_option autoImplicit false
set_option maxRecDepth 100000
set_option maxHeartbeats 4000000
/-! MxY5: sources, comprehensions; every expression. -/
namespace Mx
open PySem PySem.Spec L2
variable [CA]
section
variable {Γ : Tab} {asg : Nat → List Bool} {tb : Tb} {k : Nat} {r : Rc} {ct : Ct} {X : Cx} {W : WE} {pos : Pos}
theorem val_src (R : ROk Γ asg tb k r) (g : Good Γ asg tb k X W ct) {tg it : Expr} {kd : K} {src : E} (h : (r.e ct it).map (fun a' => (K.val, E.cons a' .nil)) = some (kd, src)) : PI X tg it (iD W (evL Γ asg src) kd) := by
  cases q : r.e ct it with
  | none => rw [q] at h; cases h
  | some a' =>
    rw [q] at h
    cases h
    exact pi_val (R.e ct it a' q X W g)
theorem src_ok (R : ROk Γ asg tb k r) (g : Good Γ asg tb k X W ct) {tg it : Expr} {kd : K} {src : E} (h : cSrc tb r ct tg it = some (kd, src)) : PI X tg it (iD W (evL Γ asg src) kd) ∧ ∀ x, foldedSetIterable it X.env x = pure x := by
  have one : ∀ {a : Expr} {a' : E}, r.e ct a = some a' → noStar a = true → PA X [a] (tL W (evL Γ asg (.cons a' .nil))) ∧ starEach [a] X.env = [(false, eval a X.env)] := fun {a a'} ha hs =>
    ⟨pa_l_cons (R.e _ _ _ ha X W g) pa_l_nil (star_cons hs _ _), star_cons hs _ _⟩
  have two : ∀ {a b : Expr} {a' b' : E}, r.e ct a = some a' → r.e ct b = some b' → noStar a = true → noStar b = true → PA X [a, b] (tL W (evL Γ asg (.cons a' (.cons b' .nil)))) := fun {a b a' b'} ha hb hs ht =>
    pa_l_cons (R.e _ _ _ ha X W g) (pa_l_cons (R.e _ _ _ hb X W g) pa_l_nil (star_cons ht _ _)) (star_cons hs _ _)
  unfold cSrc at h
  split at h
  · rename_i x p a q
    refine ⟨?_, fun _ => rfl⟩
    split at h
    · rename_i hc
      obtain ⟨rfl, hg, hb, hs⟩ := hc
      obtain ⟨hg, _⟩ := gl_ok hg g
      cases ha : r.e ct a with
      | none => rw [ha] at h; cases h
      | some a' =>
        rw [ha] at h
        cases h
        obtain ⟨o1, o2⟩ := one ha hs
        exact pi_rng1 hg (g.blt _ hb) o1 o2
    · split at h
      · rename_i hc
        obtain ⟨rfl, hg, hb, hs⟩ := hc
        obtain ⟨hg, _⟩ := gl_ok hg g
        split at h
        · cases ha : r.e ct a with
          | none => rw [ha] at h; cases h
          | some a' =>
            rw [ha] at h
            cases h
            obtain ⟨o1, o2⟩ := one ha hs
            exact pi_enm hg (g.blt _ hb) o1 o2
        · cases h
      · exact val_src R g h
  · rename_i x p a b q
    refine ⟨?_, fun _ => rfl⟩
    split at h
    · rename_i hc
      obtain ⟨rfl, hg, hb, hs, ht⟩ := hc
      obtain ⟨hg, _⟩ := gl_ok hg g
      split at h
      · rename_i a' b' ha hb'
        cases h
        exact pi_rng2 hg (g.blt _ hb) (two ha hb' hs ht) (by rw [star_cons hs, star_cons ht]; rfl) (star_cons ht _ _)
      · cases h
    · split at h
      · rename_i hc
        obtain ⟨rfl, hg, hb, hs, ht⟩ := hc
        obtain ⟨hg, _⟩ := gl_ok hg g
        split at h
        · rename_i a' b' ha hb'
          cases h
          exact pi_zp hg (g.blt _ hb) (two ha hb' hs ht) (star_cons hs _ _) (by rw [star_cons ht]; rfl)
        · cases h
      · exact val_src R g h
  · cases h
  · rename_i h1 h2 h3
    refine ⟨val_src R g h, fun x => ?_⟩
    cases it <;> first | rfl | exact absurd rfl (h3 _ _ _)
theorem blk_ok {N : List Str} {sc scope : Scope} {own : List (Str × Nat)} (h : blkB N sc scope own = true) : BlkOk N sc scope own := by
  unfold blkB at h
  simp only [Bool.and_eq_true, List.all_eq_true, decide_eq_true_eq, beq_iff_eq, Bool.or_eq_true, Bool.not_eq_true'] at h
  obtain ⟨⟨⟨⟨h1, h2⟩, h3⟩, h4⟩, h5⟩ := h
  refine ⟨h1, h2, h3, fun y hy e => ?_, fun y hy e => ?_⟩
  · rcases h4 y hy with (z | z) | z
    · rw [e] at z; cases z
    · exact .inl z
    · exact .inr z
  · rcases h5 y hy with (z | z) | z
    · rcases e with e | e <;> rw [e] at z <;> cases z
    · exact .inl (by simpa using z)
    · exact .inr (by simpa using z)
theorem Good.blk (g : Good Γ asg tb k X W ct) (s : Shared) (H : Hp) (scope : Scope) (C : Addr) (cl : List (Str × Addr)) (fp : List Addr) :
    Good Γ asg tb k (X.blk s H scope (compEnvC scope cl C X.env) fp) WN ⟨ct.N, relS scope ct.sc, fun x => scope.names.lookup x == some .cell⟩ where
  fnok := g.fnok
  int := g.int
  str := g.str
  blt := g.blt
  err := g.err
  exc := g.exc
  calm := g.calm
  nod := g.nod
  room := g.room
  hN := g.hN
  sc := by
    show relS scope X.env.scope = relS scope ct.sc
    rw [g.sc]
  wr := rfl
  tk := fun u s' ⟨a, B, sI, pins, σ, H, cls, d, e1, e2, e3, e4, e5, e6, e7, e8, c, _, _, w⟩ => w.elim
theorem tst_true : evT Γ asg (.cst (.bl true)) = fun ρ => R.ok (true, ρ) := rfl
theorem comp_ok (R : ROk Γ asg tb k r) (g : Good Γ asg tb k X W ct) {tg it elt : Expr} {ifs : List Expr} {scope : Scope} {own : List Nat} {t : T} {kd : K} {src cnd el : E} (h : cComp tb r ct tg it ifs elt scope = some (own, t, kd, src, cnd, el)) :
    ∃ ow : List (Str × Nat), own = ow.map (·.2) ∧ (∀ i ∈ t.slots, i ∈ own) ∧ BlkOk X.N X.env.scope scope ow ∧ PI X tg it (iD W (evL Γ asg src) kd) ∧ (∀ x, foldedSetIterable it X.env x = pure x) ∧
      (∀ (s : Shared) (H : Hp) (C : Addr) (cl : List (Str × Addr)) (fp : List Addr), PG (X.blk s H scope (compEnvC scope cl C X.env) fp) tg (gT t)) ∧
      (∀ (s : Shared) (H : Hp) (C : Addr) (cl : List (Str × Addr)) (fp : List Addr), PTs (X.blk s H scope (compEnvC scope cl C X.env) fp) ifs (tT WN (evT Γ asg cnd))) ∧
      (∀ (s : Shared) (H : Hp) (C : Addr) (cl : List (Str × Addr)) (fp : List Addr), PE (X.blk s H scope (compEnvC scope cl C X.env) fp) elt (tE WN (evE Γ asg el))) := by
  unfold cComp at h
  dsimp only at h
  split at h
  · rename_i hb
    split at h
    · rename_i k' src' t' cnd' el' e1 e2 e3 e4
      split at h
      · rename_i hsl
        cases h
        obtain ⟨hi, hf⟩ := src_ok R g e1
        refine ⟨ownOf ct.N scope, rfl, fun i hi => ?_, by rw [g.hN, g.sc]; exact blk_ok hb, hi, hf, fun s H C cl fp => tgt_ok (g.blk s H scope C cl fp).gt _ _ _ e2, fun s H C cl fp => ?_, fun s H C cl fp => R.e _ _ _ e4 _ _ (g.blk s H scope C cl fp)⟩
        · have := List.all_eq_true.mp hsl i hi
          simpa using this
        · split at e3
          · cases e3
            refine ⟨fun pins s2 σ H2 Q I z => pts_nil.run pins s2 σ H2 Q I ?_⟩
            obtain ⟨F, ρ, hl, er, q⟩ := z
            rw [tst_true] at q
            exact gR_ok (F' := F) (b := true) q hl rfl (Rel.refl er)
          · exact pts_one (R.t _ _ _ e3 _ _ (g.blk s H scope C cl fp))
          · cases e3
      · cases h
    · cases h
  · cases h
theorem lE_ok (R : ROk Γ asg tb k r) (g : Good Γ asg tb k X W ct) : ∀ (a : Expr) (a' : E), lE tb r ct a = some a' → PE X a (tE W (evE Γ asg a')) ∧ ∀ i, a' = .var i → PE X a (tVar i) := by
  intro a a' h
  cases a with
  | Name x p => exact name_ok g h
  | Constant c j p =>
    have h : (cCst c).map E.cst = some a' := h
    cases q : cCst c with
    | none => rw [q] at h; cases h
    | some d => rw [q] at h; cases h; exact ⟨cst_ok q, fun i hi => by cases hi⟩
  | BinOp a op b p =>
    refine ⟨binop_ok R g h, fun i hi => ?_⟩
    subst hi
    have h : (match binP op, r.e ct a, r.e ct b with
      | some p, some a', some b' => some (E.pr p (.cons a' (.cons b' .nil)))
      | _, _, _ => none) = some (.var i) := h
    split at h <;> cases h
  | UnaryOp op a p =>
    cases op with
    | USub =>
      have h : (r.e ct a).map (fun a' => E.pr .neg (.cons a' .nil)) = some a' := h
      cases q : r.e ct a with
      | none => rw [q] at h; cases h
      | some b => rw [q] at h; cases h; exact ⟨pe_pr1 od_neg (op_ok R q g), fun i hi => by cases hi⟩
    | Not =>
      have h : (r.e ct a).map E.not = some a' := h
      cases q : r.e ct a with
      | none => rw [q] at h; cases h
      | some b => rw [q] at h; cases h; exact ⟨pe_not2 (R.e _ _ _ q X W g), fun i hi => by cases hi⟩
    | _ => cases h
  | BoolOp op es p => exact andE_ok R g h
  | Compare a ops bs p =>
    have h : cmpC r ct (.Compare a ops bs p) = some a' := h
    refine ⟨(cmp_ok R g h).1, fun i hi => ?_⟩
    subst hi
    unfold cmpC at h
    split at h
    · split at h
      · cases h
      · split at h <;> cases h
    · split at h
      · cases h
      · split at h <;> cases h
    · cases h
  | IfExp c a b p =>
    have h : (match r.t ct c, r.e ct a, r.e ct b with
      | some c', some a', some b' => some (E.ifx c' a' b')
      | _, _, _ => none) = some a' := h
    split at h
    · rename_i c' a2 b' hc ha hb
      cases h
      exact ⟨pe_ifx2 (R.t _ _ _ hc X W g) (R.e _ _ _ ha X W g) (R.e _ _ _ hb X W g), fun i hi => by cases hi⟩
    · cases h
  | Tuple es j p =>
    have h : (cOs r ct es).map E.tup = some a' := h
    cases q : cOs r ct es with
    | none => rw [q] at h; cases h
    | some b => rw [q] at h; cases h; exact ⟨pe_tup2 (l_ok R g q), fun i hi => by cases hi⟩
  | List es p =>
    have h : (cOs r ct es).map E.lst = some a' := h
    cases q : cOs r ct es with
    | none => rw [q] at h; cases h
    | some b => rw [q] at h; cases h; exact ⟨pe_lst2 (l_ok R g q), fun i hi => by cases hi⟩
  | Subscript a sl p =>
    have h : cSub r ct a sl = some a' := h
    refine ⟨sub_ok R g h, fun i hi => ?_⟩
    subst hi
    unfold cSub at h
    split at h
    · cases q : r.e ct a with
      | none => rw [q] at h; cases h
      | some b => rw [q] at h; cases h
    · split at h <;> cases h
    · split at h <;> cases h
    · split at h <;> cases h
    · cases h
    · split at h <;> cases h
  | ListComp elt gens scope p =>
    match gens, h with
    | [⟨tg, it, ifs, 0⟩], h =>
      have h : (cComp tb r ct tg it ifs elt scope).map (fun z => E.comp z.1 z.2.1 z.2.2.1 z.2.2.2.1 z.2.2.2.2.1 z.2.2.2.2.2) = some a' := h
      cases q : cComp tb r ct tg it ifs elt scope with
      | none => rw [q] at h; cases h
      | some z =>
        obtain ⟨own, t, kd, src, cnd, el⟩ := z
        rw [q] at h
        cases h
        obtain ⟨ow, rfl, hsl, hb, hi, hf, hg, ht, he⟩ := comp_ok R g q
        exact ⟨pe_imp (pe_lc g.calm g.nod hi hb hg ht he hf) fun σ H Q z => comp_imp hsl z, fun i hi => by cases hi⟩
    | [], h => cases h
    | ⟨tg, it, ifs, .ofNat (n + 1)⟩ :: l, h => cases l <;> cases h
    | ⟨tg, it, ifs, .negSucc n⟩ :: l, h => cases l <;> cases h
    | ⟨tg, it, ifs, 0⟩ :: _ :: _, h => cases h
  | Call f args kws p =>
    cases kws with
    | cons kw kws =>
      cases f with
      | Name x np =>
        have z := key_ok (pos := p) (np := np) R g h
        exact ⟨z.1, fun i hi => (z.2 i hi).elim⟩
      | _ => cases h
    | nil =>
      cases f with
      | Name x np =>
        have z := call_ok (pos := p) (np := np) R g h
        exact ⟨z.1, fun i hi => (z.2 i hi).elim⟩
      | Attribute o name ap =>
        have h : (if ap.endLine == p.line then cMeth r ct o name args else none) = some a' := h
        split at h
        · rename_i hl
          exact ⟨(meth_ok R g hl h).1, fun i hi => ((meth_ok R g hl h).2 i hi).elim⟩
        · cases h
      | _ => cases h
  | _ => cases h
theorem plain_t (R : ROk Γ asg tb k r) (g : Good Γ asg tb k X W ct) {a : Expr} {a' : E} (h : (r.e ct a).map E.tv = some a') (hp : ∀ whole, isTrue a X.env whole = (do let v ← whole; standAt a.pos; holding [v] (truthy v))) : PT X a (tT W (evT Γ asg a')) := by
  cases q : r.e ct a with
  | none => rw [q] at h; cases h
  | some b => rw [q] at h; cases h; exact pt_ofB (R.e _ _ _ q X W g) hp
theorem lT_ok (R : ROk Γ asg tb k r) (g : Good Γ asg tb k X W ct) : ∀ (a : Expr) (a' : E), lT tb r ct a = some a' → PT X a (tT W (evT Γ asg a')) := by
  intro a a' h
  cases a with
  | UnaryOp op a p =>
    cases op with
    | Not =>
      have h : (r.t ct a).map E.not = some a' := h
      cases q : r.t ct a with
      | none => rw [q] at h; cases h
      | some b => rw [q] at h; cases h; exact pt_not2 (R.t _ _ _ q X W g)
    | _ => cases h
  | BoolOp op es p => exact (andT_ok R g h).pt
  | IfExp c a b p => cases h
  | Compare a ops bs p => exact (cmp_ok R g h).2
  | _ => exact plain_t R g h fun _ => rfl
end
theorem rc_ok {Γ : Tab} {asg : Nat → List Bool} {tb : Tb} {k : Nat} : ∀ n, ROk Γ asg tb k (rcN tb n)
  | 0 => ⟨fun _ _ _ h => (by cases h), fun _ _ _ h => (by cases h), fun _ _ _ h => (by cases h)⟩
  | n + 1 => ⟨fun ct a a' h X W g => (lE_ok (rc_ok n) g a a' h).1, fun ct a i h X W g => (lE_ok (rc_ok n) g a _ h).2 i rfl, fun ct a a' h X W g => lT_ok (rc_ok n) g a a' h⟩
end Mx

end
section
set_option Elab.async false
set_option linter.all false
set_option autoImplicit false
set_option maxRecDepth 100000
set_option maxHeartbeats 4000000
/-! MxZ: statements. -/
namespace Mx
open PySem PySem.Spec L2
def notComp : Expr → Bool
  | .ListComp .. => false
  | .SetComp .. => false
  | .DictComp .. => false
  | _ => true
def notTup : Expr → Bool
  | .Tuple .. => false
  | _ => true
def foldB : Expr → Bool
  | .Tuple vs _ _ => vs.all (foldedForSure 8)
  | _ => false
def nm? (ct : Ct) (x : Str) : Option Nat := match ct.sc.names.lookup x with
  | some .local => ct.N.findIdx? (· == x)
  | some .cell => if ct.wr x then ct.N.findIdx? (· == x) else none
  | _ => none
/-- a comprehension's value goes to a name on the same line -/
def swB (ct : Ct) (t : Str) (pos epos : Pos) (scope : Scope) : Bool := ct.sc.names.lookup t == some .local && pos.line == epos.line && !(scope.names.any fun (n, k) => n == t && (k == .local || k == .cell))
/-- code that tells nothing -/
def stub : C := .ret .nil
def cSt (tb : Tb) (r : Rc) (ct : Ct) (ws : List Nat) (rec : List Stmt → Option C) (rest : List Stmt) (st : Stmt) : Option C := match st with
  | .Return none _ => some .retN
  | .Return (some e) _ => (r.e ct e).map .ret
  | .Pass _ => rec rest
  | .Assign [.Name x p] e pos => (match nm? ct x with
    | none => none
    | some i => if !ws.contains i then none else (match e with
      | .ListComp elt [⟨tg, it, ifs, 0⟩] scope lp => if swB ct x p lp scope then (match cComp tb r ct tg it ifs elt scope, rec rest with
          | some z, some k => some (.asg (.nm i) (.comp z.1 z.2.1 z.2.2.1 z.2.2.2.1 z.2.2.2.2.1 z.2.2.2.2.2) k)
          | _, _ => none)
        else (match r.e ct e, rec rest with
          | some e', some k => some (.asg (.nm i) e' k)
          | _, _ => none)
      | _ => if notComp e then (match r.e ct e, rec rest with
          | some e', some k => some (.asg (.nm i) e' k)
          | _, _ => none) else none))
  | .Assign [.Tuple [.Name x px, .Name y py] kt pt] (.Tuple [a, b] k2 p2) pos => (match nm? ct x, nm? ct y, cOs r ct [a, b], rec rest with
    | some i, some j, some (.cons a' (.cons b' .nil)), some k => if [a, b].all (foldedForSure 8) then (match cTgt ct 5 (.Tuple [.Name x px, .Name y py] kt pt) with
        | some (.tp t) => if t.slots.all (ws.contains ·) then some (.asg (.tp t) (.tup (.cons a' (.cons b' .nil))) k) else none
        | _ => none)
      else if ct.sc.names.lookup x == some .local && ct.sc.names.lookup y == some .local && ws.contains i && ws.contains j && !(i == j) && (py.line == px.line) && !(x == y) && noStar a && noStar b
        && !([a, b].all (foldedForSure 8)) && !([a, b].all (constantsAlone 8)) then some (.par i j a' b' k) else none
    | _, _, _, _ => none)
  | .Assign [.Tuple ts kt pt] e pos => if notComp e && (notTup e || foldB e) then (match cTgt ct 5 (.Tuple ts kt pt), r.e ct e, rec rest with
    | some (.tp t), some e', some k => if t.slots.all (ws.contains ·) then some (.asg (.tp t) e' k) else none
    | _, _, _ => none) else none
  | .Assign [.Subscript (.Name x xp) ix p] e pos => if notComp e && noSlice ix then (match slot? ct x, r.e ct ix, r.e ct e, rec rest with
    | some i, some ix', some e', some k => some (.setI i ix' e' k)
    | _, _, _, _ => none) else none
  | .AugAssign (.Name x p) op e pos => (match nm? ct x, r.e ct e, rec rest with
    | some i, some e', some k => if ws.contains i then (match op with
      | .Add => some (.augI i .add e' k)
      | .Sub => some (.augI i .sub e' k)
      | _ => none) else none
    | _, _, _ => none)
  | .Expr e pos => if notComp e then (match r.e ct e, rec rest with
    | some e', some k => some (.exp e' k)
    | _, _ => none) else none
  | .If c a b pos => (match r.t ct c, rec a, rec b, rec rest with
    | some c', some a', some b', some k => some (.ife c' a' b' k)
    | _, _, _, _ => none)
  | .For tg it body [] pos => (match cSrc tb r ct tg it, cTgt ct 5 tg, rec body, rec rest with
    | some (kd, src), some t, some b, some k => if t.slots.all (ws.contains ·) then some (.for_ t kd src b k) else none
    | _, _, _, _ => none)
  | .While c body [] pos => (match r.t ct c, rec body, rec rest with
    | some c', some b, some k => some (.whl c' b k)
    | _, _, _ => none)
  | .Raise (some (.Call (.Name x _) [.Constant (.str _) _ _] [] _)) none _ => if glB ct x && tb.excs.contains x then some (.rse x) else none
  | .Try body [.ExceptHandler (some (.Name x _)) (some n2) [.Assign [.Name y py] (.Name n3 _) ps] _] [] [] _ => (match nm? ct n2, nm? ct y, rec body, rec rest with
    | some i, some j, some b, some k => if tb.full && glB ct x && (x == "SeatError") && (n3 == n2) && ct.sc.names.lookup n2 == some .local && ct.sc.names.lookup y == some .local && ws.contains i && ws.contains j && !(i == j) && !(n2 == "__debug__") && !(n2 == "__classdict__")
        then some (.tryE j i b k) else none
    | _, _, _, _ => none)
  | _ => none
/-- a statement that is not covered becomes such code -/
def cS (tb : Tb) (r : Rc) (ct : Ct) (ws : List Nat) : Nat → List Stmt → Option C
  | 0, _ => none
  | _ + 1, [] => some .done
  | n + 1, st :: rest => some ((cSt tb r ct ws (cS tb r ct ws n) rest st).getD stub)
variable [CA]
structure GoodS (Γ : Tab) (asg : Nat → List Bool) (tb : Tb) (k : Nat) (X : Cx) (W : WE) (ct : Ct) : Prop extends Good Γ asg tb k X W ct where
  pas : PassesOwn (model X.prog X.w) X.A X.env X.xe
  bk : X.env.blockKind = .function
  st : X.stack = X.env :: X.outer
  fl : X.env.frame = some X.env.locals
  ex : X.ex = []
section
variable {Γ : Tab} {asg : Nat → List Bool} {tb : Tb} {k : Nat} {r : Rc} {ct : Ct} {X : Cx} {W : WE} {ws : List Nat} {pos : Pos}
theorem nm_ok (g : GoodT X ct) {x : Str} {i : Nat} {p : Pos} (h : nm? ct x = some i) : PG X (.Name x p) (gName i) ∧ X.N[i]? = some x ∧ Loc X.env.scope x ∧ (X.fn x = true ∨ X.env.scope.names.lookup x = some .local) := by
  unfold nm? at h
  split at h
  · rename_i hx
    have hx' : X.env.scope.names.lookup x = some .local := by rw [g.sc]; exact hx
    have hN : X.N[i]? = some x := by rw [g.hN]; exact findIdx_get h
    exact ⟨pg_name g.nod hN (.inl hx') (.inr hx'), hN, .inl hx', .inr hx'⟩
  · rename_i hx
    split at h
    · rename_i hw
      have hx' : X.env.scope.names.lookup x = some .cell := by rw [g.sc]; exact hx
      have hN : X.N[i]? = some x := by rw [g.hN]; exact findIdx_get h
      have hw' : X.fn x = true := by rw [g.wr]; exact hw
      exact ⟨pg_name g.nod hN (.inr hx') (.inl hw'), hN, .inr hx', .inl hw'⟩
    · cases h
  · cases h
theorem swp_no {e : Expr} (h : notComp e = true) (t : Option Expr) (l : Nat) (env : PySem.Env) : swapsWith e t l env = pure false := by
  cases e <;> first | rfl | cases h
theorem sst_no {e : Expr} (h : notTup e = true) (t : Expr) (env : PySem.Env) : swappedStores [t] e env = pure none := by
  cases e <;> first | (cases h; done) | skip
  all_goals (cases t <;> rfl)
theorem sst_fold {vs : List Expr} {k : Nat} {p : Pos} (h : vs.all (foldedForSure 8) = true) (t : Expr) (env : PySem.Env) : swappedStores [t] (.Tuple vs k p) env = pure none := by
  cases t <;> first | rfl | skip
  all_goals
    unfold swappedStores
    simp only [h, if_true]
    repeat' split
    all_goals rfl
theorem sst_no2 {e : Expr} (h : (notTup e || foldB e) = true) (t : Expr) (env : PySem.Env) : swappedStores [t] e env = pure none := by
  rcases Bool.or_eq_true_iff.mp h with h | h
  · exact sst_no h t env
  · cases e <;> first | (cases h; done) | skip
    exact sst_fold h t env
theorem sst_nt {e : Expr} {t : Expr} (h : ∀ ts k p, t ≠ .Tuple ts k p) (h2 : ∀ ts p, t ≠ .List ts p) (env : PySem.Env) : swappedStores [t] e env = pure none := by
  cases t <;> first | rfl | exact absurd rfl (h _ _ _) | exact absurd rfl (h2 _ _)
theorem sw_comp {x : Str} {p lp spos : Pos} {elt : Expr} {gens : List Comprehension} {scope : Scope} (hb : X.env.blockKind = .function) (hs : X.env.scope = ct.sc) :
    swapsWith (.ListComp elt gens scope lp) (some (.Name x p)) spos.line X.env = pure (swB ct x p lp scope) := by
  show (pure (X.env.blockKind == .function && X.env.scope.names.lookup x == some .local && p.line == lp.line && !(scope.names.any fun (n, k) => n == x && (k == .local || k == .cell))) : Sem Bool) = _
  rw [hb, hs]
  rfl
theorem sst_two {x y : Str} {px py pt p2 : Pos} {kt k2 : Nat} {a b : Expr} (hb : X.env.blockKind = .function) (hx : X.env.scope.names.lookup x = some .local) (hy : X.env.scope.names.lookup y = some .local) (hl : (py.line == px.line) = true) (hne : (x == y) = false)
    (ha : noStar a = true) (hb2 : noStar b = true) (hf : [a, b].all (foldedForSure 8) = false) (hc : [a, b].all (constantsAlone 8) = false) : swappedStores [.Tuple [.Name x px, .Name y py] kt pt] (.Tuple [a, b] k2 p2) X.env = pure (some [x, y]) := by
  have hx' : X.env.kindOf x = some .local := hx
  have hy' : X.env.kindOf y = some .local := hy
  have hst : ([a, b].any fun | .Starred .. => true | _ => false) = false := by
    cases a <;> first | (cases ha; done) | (cases b <;> first | (cases hb2; done) | rfl)
  unfold swappedStores
  have hne2 : (y == x) = false := by
    cases q : (y == x) with
    | false => rfl
    | true => rw [eq_of_beq q] at hne; simp at hne
  simp only [hst, hf, hc, hb, List.length_cons, List.length_nil, List.head?_cons, Option.map_some, Option.getD_some, List.filterMap_cons, List.filterMap_nil, hx', hy']
  simp [Expr.pos, hl, List.eraseDups_cons, hne, hne2]
  rintro (z | z)
  · cases a <;> first | (cases ha; done) | cases z
  · cases b <;> first | (cases hb2; done) | cases z
theorem GoodS.tr (g : GoodS Γ asg tb k X W ct) {pn : List (Addr × Obj)} {xe : Value → Shared → Prop} {W' : WE} (tk : Takes (X.tr pn xe) (wX CA.ca W')) (pas : PassesOwn (model X.prog X.w) X.A X.env xe) : GoodS Γ asg tb k (X.tr pn xe) W' ct where
  fnok := g.fnok
  int := g.int
  str := g.str
  blt := g.blt
  err := g.err
  calm := g.calm
  nod := g.nod
  room := g.room
  hN := g.hN
  sc := g.sc
  wr := g.wr
  tk := tk
  pas := pas
  bk := g.bk
  st := g.st
  fl := g.fl
  ex := g.ex
  exc := g.exc
theorem rse_ok (g : Good Γ asg tb k X W ct) {c : Str} (h : tb.excs.contains c = true) {m : Str} {j : Nat} {p p2 pos : Pos} (hg : Gl X c) (hd : (c == ("__debug__" : Str)) = false) : PMk X (.Call (.Name c p) [.Constant (.str m) j p2] [] pos) (fun _ H Q => Q (.ref (CA.ca c)) none H) := by
  obtain ⟨e1, e2, e3, e4, e5⟩ := g.exc c h
  exact pmk_own PySem.F.excBase_ValueError e1 e2 e3 (raises_own e4 e5) hg hd
theorem lt_any {P : Prop} {b : Bool} (h : (!b) = true) : b = false := by simpa using h
end
end Mx

end
section
set_option Elab.async false
set_option linter.all false
set_option autoImplicit false
set_option maxRecDepth 100000
set_option maxHeartbeats 8000000
/-! MxZ2: the compiled statements. -/
namespace Mx
open PySem PySem.Spec L2
variable [CA]
section
variable {Γ : Tab} {asg : Nat → List Bool} {tb : Tb} {k : Nat} {r : Rc} {ct : Ct} {ws : List Nat}
theorem swps_no {e : Expr} (h : notComp e = true) (t : Expr) (l : Nat) (env : PySem.Env) : swapsWithSole [t] e l env = pure false := swp_no h (some t) l env
def SOk (Γ : Tab) (asg : Nat → List Bool) (tb : Tb) (k : Nat) (ct : Ct) (ws : List Nat) (sts : List Stmt) (c : C) : Prop := ∀ X W, GoodS Γ asg tb k X W ct → PSs X sts (tC W ws (evC Γ asg c))
theorem pss_bad {X : Cx} {W : WE} {ws : List Nat} {sts : List Stmt} : PSs X sts (tC W ws (evC Γ asg stub)) := by
  have no : ∀ D σ H, ¬ tC W ws (evC Γ asg stub) D σ H := by
    rintro D σ H ⟨F, ρ, _, _, g⟩
    exact g
  exact ⟨fun pins s σ H D _ z => (no _ _ _ z).elim⟩
theorem cSt_ok (R : ROk Γ asg tb k r) (rec : List Stmt → Option C) (ih : ∀ {sts : List Stmt} {c : C}, rec sts = some c → SOk Γ asg tb k ct ws sts c) (st : Stmt) (rest : List Stmt) (c : C) (h : cSt tb r ct ws rec rest st = some c) : SOk Γ asg tb k ct ws (st :: rest) c := by
  intro X W g
  unfold cSt at h
  split at h
  · cases h; exact pss_retN
  · rename_i e p
    cases q : r.e ct e with
    | none => rw [q] at h; cases h
    | some e' =>
      rw [q] at h
      cases h
      by_cases hv : ∃ i, e' = .var i
      · obtain ⟨i, rfl⟩ := hv
        exact pss_retV (R.v _ _ _ q X W g.toGood)
      · exact pss_ret (R.e _ _ _ q X W g.toGood) fun i z => hv ⟨i, z⟩
  · exact pss_pass (ih h X W g)
  · -- x = e
    rename_i x p e pos
    split at h
    · cases h
    rename_i i hi
    obtain ⟨hg, hN, hloc, hfn⟩ := nm_ok (p := p) g.toGood.gt hi
    split at h
    · cases h
    rename_i hw
    have hw : i ∈ ws := by simpa using hw
    split at h
    · rename_i elt tg it ifs scope lp
      split at h
      · rename_i hsw
        split at h
        · rename_i z k' hz hk
          cases h
          obtain ⟨own, t, kd, src, cnd, el⟩ := z
          obtain ⟨ow, rfl, hsl, hb, hpi, hf, hgt, ht, he⟩ := comp_ok R g.toGood hz
          have hl : X.env.scope.names.lookup x = some .local := by
            unfold swB at hsw
            simp only [Bool.and_eq_true, beq_iff_eq] at hsw
            rw [g.sc]; exact hsw.1.1
          have hsw2 := sw_comp (X := X) (ct := ct) (x := x) (p := p) (lp := lp) (spos := pos) (elt := elt) (gens := [⟨tg, it, ifs, 0⟩]) (scope := scope) g.bk g.sc
          rw [hsw] at hsw2
          exact pss_asgLc g.calm g.nod hN hl hw hsw2 hpi hb hgt ht he hf hsl (ih hk X W g)
        · cases h
      · rename_i hsw
        split at h
        · rename_i e' k' he hk
          cases h
          have hsw2 := sw_comp (X := X) (ct := ct) (x := x) (p := p) (lp := lp) (spos := pos) (elt := elt) (gens := [⟨tg, it, ifs, 0⟩]) (scope := scope) g.bk g.sc
          rw [Bool.not_eq_true _ |>.mp hsw] at hsw2
          exact pss_asgN (R.e _ _ _ he X W g.toGood) hg hw hsw2 (ih hk X W g)
        · cases h
    · split at h
      · rename_i hnc
        split at h
        · rename_i e' k' he hk
          cases h
          exact pss_asgN (R.e _ _ _ he X W g.toGood) hg hw (swps_no hnc _ _ _) (ih hk X W g)
        · cases h
      · cases h
  · -- x, y = a, b
    rename_i x px y py kt pt a b k2 p2 pos
    split at h
    · rename_i i j a' b' k' hi hj hab hk
      split at h
      · rename_i hfo
        split at h
        · rename_i t ht
          split at h
          · rename_i hs
            cases h
            exact pss_asgT (pe_tup2 (l_ok R g.toGood hab)) (tgt_ok g.toGood.gt _ _ _ ht) (fun i hi => by simpa using List.all_eq_true.mp hs i hi) rfl (sst_fold hfo _ _) rfl (ih hk X W g)
          · cases h
        · cases h
      split at h
      · rename_i hc
        cases h
        simp only [Bool.and_eq_true, Bool.not_eq_true', beq_iff_eq] at hc
        obtain ⟨⟨⟨⟨⟨⟨⟨⟨⟨⟨c1, c2⟩, c3⟩, c4⟩, c5⟩, c6⟩, c7⟩, c8⟩, c9⟩, c10⟩, c11⟩ := hc
        obtain ⟨_, hN, _, _⟩ := nm_ok (p := px) g.toGood.gt hi
        obtain ⟨_, hN2, _, _⟩ := nm_ok (p := py) g.toGood.gt hj
        have hx : X.env.scope.names.lookup x = some .local := by rw [g.sc]; exact c1
        have hy : X.env.scope.names.lookup y = some .local := by rw [g.sc]; exact c2
        exact pss_par g.calm g.nod hN hN2 (by simpa using c5) (by simpa using c3) (by simpa using c4) hx hy (l_ok R g.toGood hab) (sst_two g.bk hx hy (by simpa using c6) c7 c8 c9 c10 c11) (ih hk X W g)
      · cases h
    · cases h
  · -- a tuple of names
    rename_i ts kt pt e pos hno
    split at h
    · rename_i hc
      simp only [Bool.and_eq_true] at hc
      split at h
      · rename_i t e' k' ht he hk
        split at h
        · rename_i hs
          cases h
          exact pss_asgT (R.e _ _ _ he X W g.toGood) (tgt_ok g.toGood.gt _ _ _ ht) (fun i hi => by simpa using List.all_eq_true.mp hs i hi) (swps_no hc.1 _ _ _) (sst_no2 hc.2 _ _) rfl (ih hk X W g)
        · cases h
      · cases h
    · cases h
  · -- x[ix] = e
    rename_i x xp ix p e pos
    split at h
    · rename_i hc
      simp only [Bool.and_eq_true] at hc
      split at h
      · rename_i i ix' e' k' hi hix he hk
        cases h
        refine pss_setI (R.e _ _ _ he X W g.toGood) (slot_ok hi g.toGood) (R.e _ _ _ hix X W g.toGood) ?_ (swps_no hc.1 _ _ _) (sst_nt (fun _ _ _ z => by cases z) (fun _ _ z => by cases z) _) rfl (ih hk X W g)
        intro v
        have h2 := hc.2
        cases ix <;> first | rfl | cases h2
      · cases h
    · cases h
  · -- x += e
    rename_i x p op e pos
    split at h
    · rename_i i e' k' hi he hk
      obtain ⟨_, hN, hloc, hfn⟩ := nm_ok (p := p) g.toGood.gt hi
      split at h
      · rename_i hw
        have hw : i ∈ ws := by simpa using hw
        split at h
        · cases h
          exact pss_aug g.nod hN hloc (R.e _ _ _ he X W g.toGood) hw ip_add hfn (fun _ _ => rfl) (ih hk X W g)
        · cases h
          exact pss_aug g.nod hN hloc (R.e _ _ _ he X W g.toGood) hw ip_sub hfn (fun _ _ => rfl) (ih hk X W g)
        · cases h
      · cases h
    · cases h
  · -- e
    rename_i e pos
    split at h
    · rename_i hc
      split at h
      · rename_i e' k' he hk
        cases h
        exact pss_exp (R.e _ _ _ he X W g.toGood) (swp_no hc _ _ _) (ih hk X W g)
      · cases h
    · cases h
  · rename_i cc a b pos
    split at h
    · rename_i c' a' b' k' hc ha hb hk
      cases h
      exact pss_if (R.t _ _ _ hc X W g.toGood) (ih ha X W g) (ih hb X W g) (ih hk X W g)
    · cases h
  · rename_i tg it body pos
    split at h
    · rename_i kd src t b k' hs ht hb hk
      split at h
      · rename_i hsl
        cases h
        obtain ⟨hi, hf⟩ := src_ok R g.toGood hs
        exact pss_for g.pas g.calm hi (tgt_ok g.toGood.gt _ _ _ ht) (fun i hi => by simpa using List.all_eq_true.mp hsl i hi) (ih hb X W g) hf (ih hk X W g)
      · cases h
    · cases h
  · rename_i cc body pos
    split at h
    · rename_i c' b k' hc hb hk
      cases h
      exact pss_whl g.pas (R.t _ _ _ hc X W g.toGood) (ih hb X W g) (ih hk X W g)
    · cases h
  · rename_i x xp m j p2 p3 pos
    split at h
    · rename_i hc
      simp only [Bool.and_eq_true] at hc
      cases h
      obtain ⟨hg, hd⟩ := gl_ok hc.1 g.toGood
      exact pss_rse g.calm g.tk (rse_ok g.toGood hc.2 hg hd)
    · cases h
  · rename_i body x xp n2 y py n3 p3 ps pos' pos
    split at h
    · rename_i i j b k' hi hj hb hk
      split at h
      · rename_i hc
        cases h
        simp only [Bool.and_eq_true, Bool.not_eq_true', beq_iff_eq] at hc
        obtain ⟨⟨⟨⟨⟨⟨⟨⟨⟨⟨c1, c2⟩, c3⟩, c4⟩, c5⟩, c6⟩, c7⟩, c8⟩, c9⟩, c10⟩, c11⟩ := hc
        subst c3 c4
        obtain ⟨_, hN, _, _⟩ := nm_ok (p := xp) g.toGood.gt hi
        obtain ⟨_, hN2, _, _⟩ := nm_ok (p := py) g.toGood.gt hj
        obtain ⟨hg, hd⟩ := gl_ok c2 g.toGood
        obtain ⟨hE, hmg⟩ := g.err c1
        have hx : X.env.kindOf n3 = some .local := by show X.env.scope.names.lookup n3 = _; rw [g.sc]; exact c5
        have hy : X.env.kindOf y = some .local := by show X.env.scope.names.lookup y = _; rw [g.sc]; exact c6
        exact pss_try hE g.st g.fl g.ex g.nod hN hN2 (by simpa using c9) (by simpa using c7) (by simpa using c8) hx hy ⟨hg, hd, .inl (hmg _ (.inr rfl))⟩ g.tk rfl c10 c11 (fun W' pn xe tk pas => ih hb _ W' (g.tr tk pas)) (ih hk X W g)
      · cases h
    · cases h
  · cases h

theorem cS_ok (R : ROk Γ asg tb k r) : ∀ (n : Nat) (sts : List Stmt) (c : C), cS tb r ct ws n sts = some c → SOk Γ asg tb k ct ws sts c
  | 0, sts, c, h => by simp [cS] at h
  | n + 1, [], c, h => by
    have h : some C.done = some c := h
    cases h
    exact fun X W g => pss_done
  | n + 1, st :: rest, c, h => by
    have ih : ∀ {sts : List Stmt} {c : C}, cS tb r ct ws n sts = some c → SOk Γ asg tb k ct ws sts c := fun {sts c} => cS_ok R n sts c
    have h : some ((cSt tb r ct ws (cS tb r ct ws n) rest st).getD stub) = some c := h
    cases q : cSt tb r ct ws (cS tb r ct ws n) rest st with
    | none => rw [q] at h; cases h; exact fun X W g => pss_bad
    | some c' => rw [q] at h; cases h; exact cSt_ok R _ ih st rest c' q
end
end Mx

end
section
set_option Elab.async false
set_option linter.all false
set_option autoImplicit false
set_option maxRecDepth 100000
set_option maxHeartbeats 4000000
namespace Mx
open PySem PySem.Spec L2
theorem lookup_zip {α : Type} : ∀ {ps : List Str} {us : List α}, ps.Nodup → us.length = ps.length → ∀ p ∈ ps.zip us, (ps.zip us).lookup p.1 = some p.2
  | [], _, _, _, p, h => by simp at h
  | _ :: _, [], _, h, _, _ => by simp at h
  | x :: ps, u :: us, hn, hl, p, h => by
    have hn' := List.nodup_cons.mp hn
    rcases List.mem_cons.mp h with rfl | h
    · simp [List.lookup]
    · have hne : (p.1 == x) = false := by
        cases q : (p.1 == x) with
        | false => rfl
        | true =>
          have e := eq_of_beq q
          exact absurd (by rw [← e]; exact (List.of_mem_zip (a := p.1) (b := p.2) h).1) hn'.1
      show ((x, u) :: ps.zip us).lookup p.1 = _
      rw [List.lookup_cons, hne]
      exact lookup_zip hn'.2 (by simpa using hl) p h
theorem fm_lookup {α : Type} {L : List (Str × α)} : ∀ {ps : List Str} {us : List α}, us.length = ps.length → (∀ p ∈ ps.zip us, L.lookup p.1 = some p.2) → (ps.filterMap fun n => (L.lookup n).map (n, ·)) = ps.zip us
  | [], us, h, _ => by simp
  | x :: ps, [], h, _ => by simp at h
  | x :: ps, u :: us, h, k => by
    have h1 : L.lookup x = some u := k (x, u) List.mem_cons_self
    show List.filterMap _ (x :: ps) = (x, u) :: ps.zip us
    rw [List.filterMap_cons, h1]
    show (x, u) :: _ = _
    rw [fm_lookup (by simpa using h) fun p hp => k p (List.mem_cons_of_mem _ hp)]
theorem none_missing {α : Type} {L : List (Str × α)} : ∀ {ps : List Str} {us : List α}, us.length = ps.length → (∀ p ∈ ps.zip us, L.lookup p.1 = some p.2) → (ps.filter fun n => (L.lookup n).isNone) = []
  | [], us, h, _ => rfl
  | x :: ps, [], h, _ => by simp at h
  | x :: ps, u :: us, h, k => by
    have h1 : L.lookup x = some u := k (x, u) List.mem_cons_self
    rw [List.filter_cons, h1]
    simpa using none_missing (by simpa using h) fun p hp => k p (List.mem_cons_of_mem _ hp)
def psOf (a : Arguments) : List Str := a.args.map (·.arg)
def plainB (a : Arguments) : Bool := a.posonlyargs.isEmpty && a.vararg.isNone && a.kwonlyargs.isEmpty && a.kwarg.isNone && decide (psOf a).Nodup
theorem bind_plain {x qual : Str} {params : Arguments} {body : List Stmt} {scope : Scope} (h : plainB params = true) (kV doc pm : Value) (an : Option Addr) (cdv ct : Value) (us : List Value) (hl : us.length = (psOf params).length) :
    bindArgs (PySem.W.fnOf x qual params body scope .none kV doc pm an cdv ct) ⟨us, []⟩ = pure ((psOf params).zip us) := by
  unfold plainB at h
  simp only [Bool.and_eq_true, List.isEmpty_iff, Option.isNone_iff_eq_none, decide_eq_true_eq] at h
  obtain ⟨⟨⟨⟨h1, h2⟩, h3⟩, h4⟩, h5⟩ := h
  obtain ⟨po, as, va, ko, kd, kw, df⟩ := params
  dsimp only at h1 h2 h3 h4
  subst h1 h2 h3 h4
  have hz : ∀ p ∈ (psOf ⟨[], as, none, [], kd, none, df⟩).zip us, ((psOf ⟨[], as, none, [], kd, none, df⟩).zip us).lookup p.1 = some p.2 := lookup_zip h5 hl
  have hm := none_missing hl hz
  have hf := fm_lookup hl hz
  have hl2 : us.length = as.length := by rw [hl]; simp [psOf]
  unfold bindArgs
  have e0 : (PySem.W.fnOf x qual ⟨[], as, none, [], kd, none, df⟩ body scope .none kV doc pm an cdv ct).params = ⟨[], as, none, [], kd, none, df⟩ := rfl
  have e1 : (PySem.W.fnOf x qual ⟨[], as, none, [], kd, none, df⟩ body scope .none kV doc pm an cdv ct).defaults = .none := rfl
  have e2 : seqItems? Value.none = pure none := rfl
  have hps : List.map (fun x => x.arg) as = psOf ⟨[], as, none, [], kd, none, df⟩ := rfl
  have hlp : (psOf ⟨[], as, none, [], kd, none, df⟩).length = as.length := by simp [psOf]
  simp only [e0, e1, e2, List.map_nil, List.nil_append, hps, pure_bind, List.forIn_nil, Option.getD_none, hl, hlp, gt_iff_lt, Nat.lt_irrefl, decide_false, Bool.false_and, Bool.false_eq_true, if_false, List.isEmpty_nil, List.append_nil]
  simp [hl2, hlp, hm, hf]
  generalize psOf ⟨[], as, none, [], kd, none, df⟩ = ps at *
  intro x hx hno
  exfalso
  have hx2 := List.mem_of_mem_take hx
  obtain ⟨i, hi, e⟩ := List.mem_iff_getElem.mp hx2
  have hi2 : i < us.length := by omega
  exact hno us[i] (List.mem_iff_getElem.mpr ⟨i, by simp; omega, by rw [List.getElem_zip, e]⟩)
end Mx

end
section
set_option Elab.async false
set_option linter.all false
set_option autoImplicit false
set_option maxRecDepth 100000
set_option maxHeartbeats 4000000
/-! MxW: a def keeps its promise. -/
namespace Mx
open PySem PySem.Spec L2
variable [CA]
inductive Wk : Lt → Lt → Prop
  | nil {L : Lt} : Wk L []
  | same {p : En} {L L' : Lt} : Wk L L' → Wk (p :: L) (p :: L')
  | non {p : En} {v : Option V} {L L' : Lt} : Wk L L' → Wk (p :: L) ((v, .non) :: L')
theorem Wk.refl : ∀ L : Lt, Wk L L
  | [] => .nil
  | _ :: L => .same (Wk.refl L)
theorem Wk.mem {L L' : Lt} (h : Wk L L') : ∀ p ∈ L', p.2 = .non ∨ p ∈ L := by
  induction h with
  | nil => intro p hp; simp at hp
  | same _ ih => intro q hq; rcases List.mem_cons.mp hq with rfl | hq; exact .inr List.mem_cons_self; exact (ih q hq).imp_right (List.mem_cons_of_mem _)
  | non _ ih => intro q hq; rcases List.mem_cons.mp hq with rfl | hq; exact .inl rfl; exact (ih q hq).imp_right (List.mem_cons_of_mem _)
theorem Wk.own {L L' : Lt} (h : Wk L L') {a : Addr} (o : Own L' a) : Own L a := by
  obtain ⟨p, hp, e, d, q⟩ := o
  rcases h.mem p hp with z | z
  · rw [q] at z; cases z
  · exact ⟨p, z, e, d, q⟩
theorem Wk.er {F H : Hp} {L L' : Lt} (h : Wk L L') (e : ER F H L) : ER F H L' := by
  refine ⟨e.le, fun p hp => ?_, ?_⟩
  · rcases h.mem p hp with z | z
    · unfold EntR; rw [z]; trivial
    · exact e.each p z
  · have inj := e.inj
    clear e
    induction h with
    | nil => exact List.Pairwise.nil
    | same w ih =>
      obtain ⟨h1, h2⟩ := List.pairwise_cons.mp inj
      refine List.pairwise_cons.mpr ⟨fun q hq a wp wq => ?_, ih h2⟩
      rcases w.mem q hq with z | z
      · obtain ⟨_, d, e⟩ := wq; rw [z] at e; cases e
      · exact h1 q z a wp wq
    | non w ih =>
      obtain ⟨h1, h2⟩ := List.pairwise_cons.mp inj
      exact List.pairwise_cons.mpr ⟨fun q hq a wp wq => (by obtain ⟨_, d, e⟩ := wp; cases e), ih h2⟩
theorem Rel.wk {F0 H0 F H : Hp} {L0 L L' : Lt} (x : Rel F0 H0 L0 F H L) (w : Wk L L') : Rel F0 H0 L0 F H L' :=
  ⟨x.mono, x.dom, x.keep, x.frz, fun a o => x.mine a (w.own o), w.er x.er⟩
/-- names that hold nothing, ahead -/
theorem Rel.strip {F0 H0 F H : Hp} {L0 M L : Lt} (x : Rel F0 H0 (L0 ++ M) F H L) (hM : ∀ p ∈ M, p.2 = .non) : Rel F0 H0 L0 F H L := by
  have up : ∀ a, Own (L0 ++ M) a → Own L0 a := fun a o => by
    rcases own_app.mp o with o | ⟨p, hp, e, d, q⟩
    · exact o
    · rw [hM p hp] at q; cases q
  exact ⟨x.mono, x.dom, fun a o e n => x.keep a o e fun z => n (up a z), fun a s n => x.frz a s fun z => n (up a z), fun a o => (x.mine a o).imp_left (up a), x.er⟩
theorem outs_wk : ∀ {as : List Sl} {vs : List V} {outs : List Sl} {ρ : Env} {σ : St}, outsOf as ρ = some outs → vs.length = as.length → ρ.length = σ.length → (∀ (j : Nat) (d : D), as[j]? = some (Sl.own d) → σ[j]? = (vs[j]?).map some) → Wk (zp σ ρ) (ent vs outs) ∧ outs.length = vs.length
  | [], [], outs, ρ, σ, h, _, _, _ => by
    have h : some [] = some outs := by cases ρ <;> exact h
    cases h
    exact ⟨.nil, rfl⟩
  | [], _ :: _, _, _, _, _, h, _, _ => by simp at h
  | a :: as, [], _, _, _, _, h, _, _ => by simp at h
  | a :: as, v :: vs, outs, [], σ, h, _, _, _ => by cases a <;> cases h
  | a :: as, v :: vs, outs, s :: ρ, [], h, _, hl, _ => by simp at hl
  | a :: as, v :: vs, outs, s :: ρ, u :: σ, h, hv, hl, k => by
    have kk : ∀ (j : Nat) (d : D), as[j]? = some (Sl.own d) → σ[j]? = (vs[j]?).map some := fun j d e => by
      have := k (j + 1) d (by simpa using e)
      simpa using this
    have ih : ∀ {o}, outsOf as ρ = some o → Wk (zp σ ρ) (ent vs o) ∧ o.length = vs.length := fun {o} e => outs_wk e (by simpa using hv) (by simpa using hl) kk
    cases a with
    | non => cases h
    | shr d =>
      have h : (outsOf as ρ).map (Sl.non :: ·) = some outs := h
      cases q : outsOf as ρ with
      | none => rw [q] at h; cases h
      | some o =>
        rw [q] at h; cases h
        obtain ⟨w, e⟩ := ih q
        exact ⟨.non w, by simp [e]⟩
    | own d =>
      have hu : u = some v := by
        have := k 0 d rfl
        simpa using this
      cases s with
      | non => cases h
      | shr d' =>
        have h : (outsOf as ρ).map (Sl.shr d' :: ·) = some outs := h
        cases q : outsOf as ρ with
        | none => rw [q] at h; cases h
        | some o =>
          rw [q] at h; cases h
          obtain ⟨w, e⟩ := ih q
          refine ⟨?_, by simp [e]⟩
          rw [hu]
          exact .same w
      | own d' =>
        have h : (outsOf as ρ).map (Sl.own d' :: ·) = some outs := h
        cases q : outsOf as ρ with
        | none => rw [q] at h; cases h
        | some o =>
          rw [q] at h; cases h
          obtain ⟨w, e⟩ := ih q
          refine ⟨?_, by simp [e]⟩
          rw [hu]
          exact .same w
theorem zp_start {N : List Str} {vs : List V} {as : List Sl} {m : Nat} (hl : vs.length = as.length) (hm : m = N.length) (hle : as.length ≤ N.length) :
    zp (start N vs) (as ++ List.replicate (m - as.length) .non) = ent vs as ++ List.replicate (N.length - as.length) (none, .non) := by
  unfold L2.start zp ent
  rw [hm, hl, List.zip_append (by simpa using hl), List.zip_replicate, Nat.min_self]
theorem ok_own : ∀ {bs : List Bool} {as : List Sl}, okAr bs as = true → bs.length = as.length ∧ ∀ (j : Nat) (d : D), as[j]? = some (Sl.own d) → bs[j]? = some false
  | [], [], _ => ⟨rfl, fun j d e => by simp at e⟩
  | [], _ :: _, h => by cases h
  | b :: bs, [], h => by cases h
  | b :: bs, .own d :: ss, h => by
    have h : (!b && okAr bs ss) = true := h
    obtain ⟨h1, h2⟩ := Bool.and_eq_true_iff.mp h
    obtain ⟨h3, h4⟩ := ok_own h2
    refine ⟨by simp [h3], fun j d' e => ?_⟩
    cases j with
    | zero => have : b = false := by simpa using h1
              simp [this]
    | succ j => simpa using h4 j d' (by simpa using e)
  | b :: bs, .shr d :: ss, h => by
    have h : okAr bs ss = true := h
    obtain ⟨h3, h4⟩ := ok_own h
    refine ⟨by simp [h3], fun j d' e => ?_⟩
    cases j with
    | zero => simp at e
    | succ j => simpa using h4 j d' (by simpa using e)
  | b :: bs, .non :: ss, h => by cases h

/-! ### program-level facts -/
structure Facts (tb : Tb) (K : PySem.W.Frag) (mg : Str → Option Value) : Prop where
  int : ∀ x i, tb.gInts.lookup x = some i → ∃ t, mg x = some (.int i t)
  str : ∀ x z, tb.gStrs.lookup x = some z → ∃ t, mg x = some (.str z t)
  blt : ∀ x, tb.blts.contains x = true → mg x = none
  err : tb.full = true → ErrsOk K ∧ ∀ n, errs.contains n = true ∨ n = "SeatError" → mg n = some (.ref (CA.ca n))
  exc : ∀ c, tb.excs.contains c = true → PySem.W.excIn K (CA.ca c) [.type "ValueError", .type "Exception", .type "BaseException", .type "object"] "ValueError.__new__" = true ∧ mg c = some (.ref (CA.ca c)) ∧ PySem.W.keepIn K (.ref (CA.ca c)) = true ∧
    PySem.W.subIn K (.ref (CA.ca c)) (.type "BaseException") = some true ∧ PySem.W.typeIn K (.ref (CA.ca c)) = some (.type "type")
section
variable {P : Program} {w : World} {K : PySem.W.Frag} {mg : Str → Option Value} {base : Heap} {Γ : Tab} {asg : Nat → List Bool} {tb : Tb} {k : Nat}
/-- what is known of the table's defs -/
def FnsAt (P : Program) (w : World) (K : PySem.W.Frag) (mg : Str → Option Value) (base : Heap) (Γ : Tab) (asg : Nat → List Bool) (tb : Tb) (k : Nat) : Prop :=
  ∀ f x, tb.fns[f]? = some x → ∃ fa fd ps, FnOk P w K mg base (L2.CX P w) k fa fd ps (spF CA.ca Γ f (asg f).length) ∧ mg x = some (.ref fa) ∧ PySem.W.keepIn K (.ref fa) = true ∧ Binds K fd ps [] ∧ (tb.one.contains x = true → (asg f).length = 1)
theorem fn_level {x qual : Str} {params : Arguments} {body : List Stmt} {scope : Scope} {f : Addr} {fd : FuncData} {N ps : List Str} {ws : List Nat} {c : C} {md : Fd} {Γ' : Tab} {fi : Nat} (FT : Facts tb K mg) (hfn : FnsAt P w K mg base Γ asg tb k)
    (F : FunD K x qual params body scope [] [] f fd) (S : FnScope N ps scope) (hc : SOk Γ asg tb k ⟨N, scope, fun _ => true⟩ ws body md.body) (hnp : md.np = ps.length) (hns : md.ns = N.length) (hasg : ∀ j, md.asg[j]? = some false → j ∉ ws)
    (hΓ : ∀ as, Γ' fi as = if as.length = md.np ∧ md.np ≤ md.ns ∧ okAr md.asg as = true then finish as (evC Γ asg md.body (startE md as)) else .bad) :
    FnOk P w K mg base (L2.CX P w) (k + 2) f fd ps (spF CA.ca Γ' fi md.np) := by
  refine F.ok S (fun vs H Q E h => by rw [h.1, hnp]) fun cdv A outer s H vs Q E hr h => ?_
  let W : WE := fun c σ H' => E (.ref (CA.ca c)) none H'
  have g : GoodS Γ asg tb k (cxOf (L2.CX P w) P w K mg base N qual scope f cdv A outer s H E) W ⟨N, scope, fun _ => true⟩ :=
    { fnok := hfn, int := FT.int, str := FT.str, blt := FT.blt, err := FT.err, exc := FT.exc, calm := rfl, nod := S.nd, room := hr, hN := rfl, sc := rfl, wr := rfl,
      tk := (takes_of rfl rfl rfl rfl).imp fun cls d σ H ⟨c, e1, e2, w⟩ => by rw [e1, e2]; exact w
      pas := passes_of rfl
      bk := by
        show (if scope.kind.isAnnotationScope then ScopeKind.function else scope.kind) = .function
        rw [S.kind]; rfl
      st := rfl, fl := rfl, ex := rfl }
  refine ⟨_, hc _ W g, ?_⟩
  obtain ⟨hvn, F0, sls, hsl, er, hm⟩ := h
  rw [hΓ] at hm
  by_cases hcond : sls.length = md.np ∧ md.np ≤ md.ns ∧ okAr md.asg sls = true
  · rw [if_pos hcond] at hm
    obtain ⟨c1, c2, c3⟩ := hcond
    have hz := zp_start (N := N) (vs := vs) (as := sls) (m := md.ns) hsl.symm hns (by omega)
    have hnon : ∀ p ∈ (List.replicate (N.length - sls.length) (none, Sl.non) : Lt), p.2 = .non := fun p hp => by rw [List.eq_of_mem_replicate hp]
    have er0 : ER F0 H (zp (start N vs) (startE md sls)) := by
      unfold startE
      rw [hz]
      exact (Rel.nons (Rel.refl er) hnon).permR List.perm_append_comm |>.er
    have hlen0 : (start N vs).length = N.length := by
      unfold L2.start
      rw [List.length_append, List.length_map, List.length_replicate]; omega
    have hlen : (startE md sls).length = (start N vs).length := by
      rw [hlen0]
      unfold startE
      rw [List.length_append, List.length_replicate]; omega
    refine ⟨F0, startE md sls, hlen, er0, ?_⟩
    obtain ⟨o1, o2⟩ := ok_own c3
    have keepV : ∀ σ', Same ws (start N vs) σ' → ∀ (j : Nat) (d : D), sls[j]? = some (Sl.own d) → σ'[j]? = (vs[j]?).map some := fun σ' sm j d e => by
      rw [sm j (hasg j (o2 j d e))]
      have hj : j < vs.length := by rw [← hsl]; exact (List.getElem?_eq_some_iff.mp e).1
      unfold L2.start
      rw [List.getElem?_append_left (by simpa using hj), List.getElem?_map]
    have st : ∀ {F' H' L}, Rel F0 H (zp (start N vs) (startE md sls)) F' H' L → Rel F0 H (ent vs sls) F' H' L := fun {F' H' L} r => by
      unfold startE at r
      rw [hz] at r
      exact r.strip hnon
    unfold finish at hm
    cases q : evC Γ asg md.body (startE md sls) with
    | bad => rw [q] at hm; exact hm
    | nx ρ' =>
      rw [q] at hm
      dsimp only at hm
      cases qo : outsOf sls ρ' with
      | none => rw [qo] at hm; exact hm.elim
      | some outs =>
        rw [qo] at hm
        intro σ' F' H' l1 l2 sm rel
        obtain ⟨w1, w2⟩ := outs_wk qo hsl.symm l2 (keepV σ' sm)
        exact hm .non F' H' w2 ((st (rel.wk w1)).shr .non)
    | ret v ρ' =>
      rw [q] at hm
      dsimp only at hm
      cases qo : outsOf sls ρ' with
      | none => rw [qo] at hm; exact hm.elim
      | some outs =>
        rw [qo] at hm
        intro σ' u F' H' l1 l2 sm rel
        obtain ⟨w1, w2⟩ := outs_wk qo hsl.symm l2 (keepV σ' sm)
        exact hm u F' H' w2 (st (rel.wk (.same w1)))
    | exc c ρ' =>
      rw [q] at hm
      dsimp only at hm
      cases qo : outsOf sls ρ' with
      | none => rw [qo] at hm; exact hm.elim
      | some outs =>
        rw [qo] at hm
        intro σ' F' H' l1 l2 sm rel
        obtain ⟨w1, w2⟩ := outs_wk qo hsl.symm l2 (keepV σ' sm)
        exact hm F' H' w2 (st (rel.wk w1))
  · rw [if_neg hcond] at hm
    exact hm.elim
end
end Mx

end
section
set_option Elab.async false
set_option linter.all false
set_option autoImplicit false
set_option maxRecDepth 100000
set_option maxHeartbeats 4000000
/-! MxV: the whole program: its defs compiled, the facts of its head, the law. -/
namespace Mx
open PySem PySem.Spec L2
/-! ### names -/
def locN (sc : Scope) : List Str := sc.names.filterMap fun y => if y.2 == .local || y.2 == .cell then some y.1 else none
/-- the own names of the blocks within -/
def exN : Nat → Expr → List Str
  | 0, _ => []
  | n + 1, .BoolOp _ es _ => es.flatMap (exN n)
  | n + 1, .BinOp a _ b _ => exN n a ++ exN n b
  | n + 1, .UnaryOp _ a _ => exN n a
  | n + 1, .IfExp c a b _ => exN n c ++ exN n a ++ exN n b
  | n + 1, .ListComp e gens sc _ => locN sc ++ exN n e ++ gens.flatMap fun g => exN n g.iter ++ g.ifs.flatMap (exN n)
  | n + 1, .DictComp k v gens sc _ => locN sc ++ exN n k ++ exN n v ++ gens.flatMap fun g => exN n g.iter ++ g.ifs.flatMap (exN n)
  | n + 1, .Compare a _ bs _ => exN n a ++ bs.flatMap (exN n)
  | n + 1, .Call f as kws _ => exN n f ++ as.flatMap (exN n) ++ kws.flatMap fun k => exN n k.value
  | n + 1, .Attribute o _ _ => exN n o
  | n + 1, .Subscript a b _ => exN n a ++ exN n b
  | n + 1, .Tuple es _ _ => es.flatMap (exN n)
  | n + 1, .List es _ => es.flatMap (exN n)
  | n + 1, .Dict ks vs _ => ks.flatMap (fun k => (k.map (exN n)).getD []) ++ vs.flatMap (exN n)
  | n + 1, .Slice a b c _ => (a.map (exN n)).getD [] ++ (b.map (exN n)).getD [] ++ (c.map (exN n)).getD []
  | n + 1, .Starred a _ => exN n a
  | n + 1, .JoinedStr es _ => es.flatMap (exN n)
  | n + 1, .FormattedValue a _ _ _ => exN n a
  | _, _ => []
def tgN : Nat → Expr → List Str
  | 0, _ => []
  | _ + 1, .Name x _ => [x]
  | n + 1, .Tuple es _ _ => es.flatMap (tgN n)
  | n + 1, .Starred a _ => tgN n a
  | _, _ => []
/-- the names that statements bind; the own names of the blocks within -/
def stN : Nat → Stmt → List Str × List Str
  | 0, _ => ([], [])
  | n + 1, st => match st with
    | .Return (some e) _ => ([], exN 30 e)
    | .Assign ts e _ => (ts.flatMap (tgN 9), exN 30 e ++ ts.flatMap (exN 30))
    | .AugAssign t _ e _ => (tgN 9 t, exN 30 e)
    | .For t it b o _ => (tgN 9 t ++ (b ++ o).flatMap (fun s => (stN n s).1), exN 30 it ++ (b ++ o).flatMap fun s => (stN n s).2)
    | .While c b o _ => ((b ++ o).flatMap (fun s => (stN n s).1), exN 30 c ++ (b ++ o).flatMap fun s => (stN n s).2)
    | .If c a b _ => ((a ++ b).flatMap (fun s => (stN n s).1), exN 30 c ++ (a ++ b).flatMap fun s => (stN n s).2)
    | .Expr e _ => ([], exN 30 e)
    | .Try b hs o f _ => ((b ++ o ++ f).flatMap (fun s => (stN n s).1) ++ hs.flatMap (fun h => match h with | .ExceptHandler _ nm hb _ => nm.toList ++ hb.flatMap fun s => (stN n s).1),
        (b ++ o ++ f).flatMap (fun s => (stN n s).2) ++ hs.flatMap fun h => match h with | .ExceptHandler _ _ hb _ => hb.flatMap fun s => (stN n s).2)
    | _ => ([], [])
def scopeB (N ps : List Str) (sc : Scope) : Bool := decide (sc.kind = .function) && !sc.isCoroutine && !sc.isGenerator && decide N.Nodup && decide (N.take ps.length = ps)
  && ps.all (fun x => sc.names.lookup x == some .local || sc.names.lookup x == some .cell) && sc.names.all fun y => !(y.2 == .free)
theorem scope_ok {N ps : List Str} {sc : Scope} (h : scopeB N ps sc = true) : FnScope N ps sc := by
  unfold scopeB at h
  simp only [Bool.and_eq_true, List.all_eq_true, decide_eq_true_eq, beq_iff_eq, Bool.or_eq_true, Bool.not_eq_true'] at h
  obtain ⟨⟨⟨⟨⟨⟨h1, h2⟩, h3⟩, h4⟩, h5⟩, h6⟩, h7⟩ := h
  exact ⟨h1, h2, h3, h4, h5, h6, fun y hy e => by have := h7 y hy; rw [e] at this; cases this⟩
structure Cd where
  fd : Fd
  N : List Str
  ws : List Nat
def namesOf (d : He.DefD) : List Str := (psOf d.params ++ locN d.scope ++ d.body.flatMap fun s => (stN 20 s).2).eraseDups
def cDef (tb : Tb) (d : He.DefD) : Option Cd :=
  let ps := psOf d.params
  let N := namesOf d
  let an := d.body.flatMap fun s => (stN 20 s).1
  let ws := (List.range N.length).filter fun i => an.contains (N.getD i "")
  if scopeB N ps d.scope && plainB d.params && d.dfl.isEmpty && d.kwd.isEmpty && (d.at_ == (d.name, none)) && (d.qual == d.name) && decide (ps.length ≤ N.length) then
    (cS tb (rcN tb 40) ⟨N, d.scope, fun _ => true⟩ ws 300 d.body).map fun c => ⟨⟨d.name, ps.length, N.length, (List.range ps.length).map fun j => ws.contains j, c⟩, N, ws⟩
  else none
def cAll (tb : Tb) : List He.DefD → Option (List Fd)
  | [] => some []
  | d :: ds => match cDef tb d, cAll tb ds with
    | some c, some fs => some (c.fd :: fs)
    | _, _ => none
theorem cAll_get {tb : Tb} : ∀ {ds : List He.DefD} {fs : List Fd}, cAll tb ds = some fs → ∀ (i : Nat) (d : He.DefD), ds[i]? = some d → ∃ c, cDef tb d = some c ∧ fs[i]? = some c.fd
  | [], _, _, i, d, e => by simp at e
  | x :: ds, fs, h, i, d, e => by
    unfold cAll at h
    split at h
    · rename_i c fs' hc hfs
      cases h
      cases i with
      | zero =>
        have e : some x = some d := by simpa using e
        cases e
        exact ⟨c, hc, rfl⟩
      | succ i =>
        obtain ⟨c', h1, h2⟩ := cAll_get hfs i d (by simpa using e)
        exact ⟨c', h1, by simpa using h2⟩
    · cases h
theorem asg_len {tb : Tb} {d : He.DefD} {c : Cd} {fs : List Fd} {f : Nat} (h : cDef tb d = some c) (e : fs[f]? = some c.fd) : (asgOf fs f).length = (psOf d.params).length := by
  unfold asgOf
  rw [e]
  unfold cDef at h
  dsimp only at h
  split at h
  · cases q : cS tb (rcN tb 40) ⟨namesOf d, d.scope, fun _ => true⟩ ((List.range (namesOf d).length).filter fun i => (d.body.flatMap fun s => (stN 20 s).1).contains ((namesOf d).getD i "")) 300 d.body with
    | none => rw [q] at h; cases h
    | some code =>
      rw [q] at h
      have h : some _ = some c := h
      cases h
      simp
  · cases h
variable [CA]
theorem fn_step {P : Program} {w : World} {K : PySem.W.Frag} {mg : Str → Option Value} {base : Heap} {tb : Tb} {fs : List Fd} {d : He.DefD} {c : Cd} {f n : Nat} {fd : FuncData} {k : Nat} (FT : Facts tb K mg) (ih : FnsAt P w K mg base (tabAt fs n) (asgOf fs) tb k)
    (h5 : FunD K d.name d.qual d.params d.body d.scope [] [] (He.ga K d.name) fd) (h3 : cDef tb d = some c) (h4 : fs[f]? = some c.fd) : FnOk P w K mg base (L2.CX P w) (k + 2) (He.ga K d.name) fd (psOf d.params) (spF CA.ca (tabAt fs (n + 1)) f (psOf d.params).length) := by
  unfold cDef at h3
  dsimp only at h3
  split at h3
  · rename_i hb
    simp only [Bool.and_eq_true, List.isEmpty_iff, beq_iff_eq, decide_eq_true_eq] at hb
    obtain ⟨⟨⟨⟨⟨⟨b1, b2⟩, b3⟩, b4⟩, b5⟩, b6⟩, b7⟩ := hb
    cases q : cS tb (rcN tb 40) ⟨namesOf d, d.scope, fun _ => true⟩ ((List.range (namesOf d).length).filter fun i => (d.body.flatMap fun s => (stN 20 s).1).contains ((namesOf d).getD i "")) 300 d.body with
    | none => rw [q] at h3; cases h3
    | some code =>
      rw [q] at h3
      have h3 : some _ = some c := h3
      cases h3
      refine fn_level (md := ⟨d.name, (psOf d.params).length, (namesOf d).length, (List.range (psOf d.params).length).map fun j => ((List.range (namesOf d).length).filter fun i => (d.body.flatMap fun s => (stN 20 s).1).contains ((namesOf d).getD i "")).contains j, code⟩) (N := namesOf d) (c := code) FT ih h5 (scope_ok b1) (cS_ok (rc_ok 40) 300 d.body code q) rfl rfl (fun j hj => ?_) fun as => ?_
      · have hj2 : ((List.range (psOf d.params).length).map fun j => ((List.range (namesOf d).length).filter fun i => (d.body.flatMap fun s => (stN 20 s).1).contains ((namesOf d).getD i "")).contains j)[j]? = some false := hj
        rw [List.getElem?_map] at hj2
        by_cases hlt : j < (psOf d.params).length
        · rw [List.getElem?_range hlt] at hj2
          have : _ = false := Option.some.inj hj2
          simpa using this
        · rw [List.getElem?_eq_none (by simpa using hlt)] at hj2
          cases hj2
      · show tabAt fs (n + 1) f as = _
        rw [tabAt, h4]
  · cases h3
theorem fns_all {P : Program} {w : World} {K : PySem.W.Frag} {mg : Str → Option Value} {base : Heap} {tb : Tb} {ds : List He.DefD} {fs : List Fd} (FT : Facts tb K mg) (hds : tb.fns = ds.map (·.name)) (hfs : cAll tb ds = some fs)
    (F : ∀ d ∈ ds, ∃ fd, FunD K d.name d.qual d.params d.body d.scope (d.dvs K) (d.kws K) (He.fAd K d.at_) fd) (hone : ∀ d ∈ ds, tb.one.contains d.name = true → (psOf d.params).length = 1) (hmg : ∀ d ∈ ds, mg d.name = some (.ref (He.ga K d.name))) : ∀ n, FnsAt P w K mg base (tabAt fs n) (asgOf fs) tb (2 * n) := by
  have each : ∀ f x, tb.fns[f]? = some x → ∃ d c fd, ds[f]? = some d ∧ d.name = x ∧ cDef tb d = some c ∧ fs[f]? = some c.fd ∧ FunD K d.name d.qual d.params d.body d.scope (d.dvs K) (d.kws K) (He.fAd K d.at_) fd := fun f x e => by
    rw [hds, List.getElem?_map] at e
    cases q : ds[f]? with
    | none => rw [q] at e; cases e
    | some d =>
      rw [q] at e
      obtain ⟨c, h1, h2⟩ := cAll_get hfs f d q
      obtain ⟨fd, h3⟩ := F d (List.mem_of_getElem? q)
      exact ⟨d, c, fd, q, by simpa using e, h1, h2, h3⟩
  intro n
  induction n with
  | zero =>
    intro f x e
    obtain ⟨d, c, fd, h1, h2, h3, h4, h5⟩ := each f x e
    have h3' := h3
    unfold cDef at h3
    dsimp only at h3
    split at h3
    · rename_i hb
      simp only [Bool.and_eq_true, List.isEmpty_iff, beq_iff_eq, decide_eq_true_eq] at hb
      obtain ⟨⟨⟨⟨⟨⟨b1, b2⟩, b3⟩, b4⟩, b5⟩, b6⟩, b7⟩ := hb
      have hmd := hmg d (List.mem_of_getElem? h1)
      have hat : He.fAd K d.at_ = He.ga K d.name := by rw [b5]; rfl
      rw [hat] at h5
      have hk0 : d.kws K = [] := by show d.kwd.map _ = []; rw [b4]; rfl
      have hd0 : d.dvs K = [] := by show d.dfl.map _ = []; rw [b3]; rfl
      rw [hd0, hk0] at h5
      refine ⟨He.ga K d.name, fd, psOf d.params, ⟨fun vs H Q E z => ?_, fun A outer s H args us vs Q E _ _ _ _ z => ?_⟩, by rw [← h2]; exact hmd, h5.kp, h5.bindsN fun kV doc pm an cdv ct us hl => bind_plain b2 kV doc pm an cdv ct us hl, fun z => ?_⟩
      · obtain ⟨_, F0, sls, _, _, q⟩ := z
        exact q.elim
      · obtain ⟨_, F0, sls, _, _, q⟩ := z
        exact q.elim
      · have hl := asg_len h3' h4
        rw [hl]
        exact hone d (List.mem_of_getElem? h1) (by rw [h2]; exact z)
    · cases h3
  | succ n ih =>
    intro f x e
    obtain ⟨d, c, fd, h1, h2, h3, h4, h5⟩ := each f x e
    have hc3 := h3
    unfold cDef at h3
    dsimp only at h3
    split at h3
    · rename_i hb
      simp only [Bool.and_eq_true, List.isEmpty_iff, beq_iff_eq, decide_eq_true_eq] at hb
      obtain ⟨⟨⟨⟨⟨⟨b1, b2⟩, b3⟩, b4⟩, b5⟩, b6⟩, b7⟩ := hb
      have hmd := hmg d (List.mem_of_getElem? h1)
      have hat : He.fAd K d.at_ = He.ga K d.name := by rw [b5]; rfl
      rw [hat] at h5
      have hk0 : d.kws K = [] := by show d.kwd.map _ = []; rw [b4]; rfl
      have hd0 : d.dvs K = [] := by show d.dfl.map _ = []; rw [b3]; rfl
      rw [hd0, hk0] at h5
      cases q : cS tb (rcN tb 40) ⟨namesOf d, d.scope, fun _ => true⟩ ((List.range (namesOf d).length).filter fun i => (d.body.flatMap fun s => (stN 20 s).1).contains ((namesOf d).getD i "")) 300 d.body with
      | none => rw [q] at h3; cases h3
      | some code =>
        rw [q] at h3
        have h3 : some _ = some c := h3
        cases h3
        have hlen : (asgOf fs f).length = (psOf d.params).length := by
          unfold asgOf
          rw [h4]
          simp
        rw [hlen]
        refine ⟨He.ga K d.name, fd, psOf d.params, ?_, by rw [← h2]; exact hmd, h5.kp, h5.bindsN fun kV doc pm an cdv ct us hl => bind_plain b2 kV doc pm an cdv ct us hl, fun z => hone d (List.mem_of_getElem? h1) (by rw [h2]; exact z)⟩
        exact fn_step FT ih h5 hc3 h4
    · cases h3
end Mx

end
section
set_option Elab.async false
set_option linter.all false
set_option autoImplicit false
set_option maxRecDepth 100000
set_option maxHeartbeats 4000000
/-! MxU: the head with the facts; from the table's answer to the law. -/
namespace Mx
open PySem PySem.Spec L2
/-! ### the facts that a program's table needs -/
def faOf (tb : Tb) : List He.Fa := tb.fns.map .glo ++ tb.gInts.map (fun p => .int p.1 p.2) ++ tb.gStrs.map (fun p => .str p.1 p.2) ++ tb.blts.map .free ++ tb.excs.map .glo ++ tb.excs.map .exc
def noL (g : Addr → Option Obj) (a : Addr) : Option Obj := (g a).filter fun o => !(o.cls == .type "list")
def kitB' (K : PySem.W.Frag) (a b : Value) (r : Bool) : Bool := decide (PySem.W.kitOne K a b = some r)
def excCB (K : PySem.W.Frag) (D : Addr) : Bool := decide (PySem.W.findIn K (.ref D) "__getattribute__" = some (some (.builtin "BaseException.__getattribute__"))) && decide (PySem.W.findIn K (.ref D) "__getattr__" = some none) && decide (PySem.W.subIn K (.ref D) (.type "BaseException") = some true)
  && PySem.W.hasDictIn K D && decide (PySem.W.findIn K (.ref D) "__class__" = some (some (.builtin "object.__class__"))) && decide (PySem.W.specialIn K (.builtin "object.__class__") "__get__" = some (some (.builtin "getset_descriptor.__get__")))
  && decide (PySem.W.takesIn K (.builtin "object.__class__") = some true) && decide (PySem.W.mroIn K D (.type "object") = some true)
def errB (K : PySem.W.Frag) : Bool := errs.all fun c => excCB K (He.ga K c) && errs.all (fun n => kitB' K (.ref (He.ga K c)) (.ref (He.ga K n)) (n == c)) && kitB' K (.ref (He.ga K c)) (.ref (He.ga K "SeatError")) true && kitB' K (.ref (He.ga K c)) (.type "ValueError") true && decide (PySem.W.exmOne K (.ref (He.ga K c)) (.ref (He.ga K "SeatError")) = some true)
def chkOf (tb : Tb) (K : PySem.W.Frag) : Bool := !tb.full || (errB K && errs.all (fun c => tb.excs.contains c) && tb.excs.contains "SeatError")
theorem err_ok {K : PySem.W.Frag} (h : errB K = true) : @ErrsOk ⟨He.ga K⟩ K := by
  letI : CA := ⟨He.ga K⟩
  unfold errB at h
  have each : ∀ c, errs.contains c = true → (excCB K (He.ga K c) = true ∧ (∀ n, errs.contains n = true → kitB' K (.ref (He.ga K c)) (.ref (He.ga K n)) (n == c) = true) ∧ kitB' K (.ref (He.ga K c)) (.ref (He.ga K "SeatError")) true = true ∧ kitB' K (.ref (He.ga K c)) (.type "ValueError") true = true ∧ PySem.W.exmOne K (.ref (He.ga K c)) (.ref (He.ga K "SeatError")) = some true) := fun c hc => by
    have := List.all_eq_true.mp h c (by simpa using hc)
    simp only [Bool.and_eq_true, List.all_eq_true, decide_eq_true_eq] at this
    obtain ⟨⟨⟨⟨h1, h2⟩, h3⟩, h4⟩, h5⟩ := this
    exact ⟨h1, fun n hn => h2 n (by simpa using hn), h3, h4, h5⟩
  refine ⟨fun c hc => ?_, fun c n hc hn => of_decide_eq_true ((each c hc).2.1 n hn), fun c hc => of_decide_eq_true (each c hc).2.2.1, fun c hc => of_decide_eq_true (each c hc).2.2.2.1, fun c hc => (each c hc).2.2.2.2⟩
  have := (each c hc).1
  unfold excCB at this
  simp only [Bool.and_eq_true, decide_eq_true_eq] at this
  obtain ⟨⟨⟨⟨⟨⟨⟨h1, h2⟩, h3⟩, h4⟩, h5⟩, h6⟩, h7⟩, h8⟩ := this
  exact ⟨h1, h2, h3, h4, h5, h6, h7, h8⟩
def obsM (n : Nat) (tb : Tb) (ds : List He.DefD) (g : Addr → Option Obj) : He.AlD × Bool := (He.obsD (faOf tb) ds (He.frG (noL g) (He.asD g n)), chkOf tb (He.frG (noL g) (He.asD g n)))
def SaysM (tb : Tb) (ds : List He.DefD) (h : Heap) : Prop := ∃ K : PySem.W.Frag, K.In h ∧ He.SaysD (faOf tb) ds K ∧ chkOf tb K = true ∧ ∀ a o, K.lookup a = some o → o.cls ≠ .type "list"
def hookM (n : Nat) (tb : Tb) (ds : List He.DefD) : PySem.W.Hook where
  α := He.AlD × Bool
  obs := fun s => obsM n tb ds s.heap.get?
  val := fun _ => (He.valD ds, true)
  says := fun _ h => SaysM tb ds h
  of := fun _ s e => by
    have e : obsM n tb ds s.heap.get? = (He.valD ds, true) := e
    have at_ : ∀ a o, (He.frG (noL s.heap.get?) (He.asD s.heap.get? n)).lookup a = some o → s.heap.get? a = some o ∧ o.cls ≠ .type "list" := fun a o q => by
      have q2 := He.frG_at _ q
      unfold noL at q2
      rw [Option.filter_eq_some_iff] at q2
      exact ⟨q2.1, by simpa using q2.2⟩
    exact ⟨_, fun a o q => (at_ a o q).1, congrArg Prod.fst e, congrArg Prod.snd e, fun a o q => (at_ a o q).2⟩
  keeps := fun _ _ _ ⟨K, h1, h2⟩ k => ⟨K, PySem.W.Frag.In.keeps h1 k, h2⟩
theorem obsM_eq {n : Nat} {tb : Tb} {ds : List He.DefD} {g : Addr → Option Obj} {s : Shared} (h : ∀ a, g a = s.heap.get? a) : obsM n tb ds g = (hookM n tb ds).obs s := by
  have e : g = s.heap.get? := funext h
  rw [e] <;> rfl
theorem says_mem {fa : List He.Fa} {fn : List He.DefD} {K : PySem.W.Frag} (c : He.SaysD fa fn K) {f : He.Fa} (h : f ∈ fa) : f.ok K = true := by
  obtain ⟨i, hi⟩ := List.mem_iff_getElem?.mp h
  exact c.fact i hi
theorem lookup_mem {β : Type} {l : List (Str × β)} {x : Str} {v : β} (h : l.lookup x = some v) : (x, v) ∈ l := PySem.mem_of_lookup h
theorem facts_of {tb : Tb} {ds : List He.DefD} {K : PySem.W.Frag} {h : Heap} {mg : Str → Option Value} (X : K.In h) (G : h.Ns mainGlobals mg) (c : He.SaysD (faOf tb) ds K) (hc : chkOf tb K = true) : @Facts ⟨He.ga K⟩ tb K mg := by
  letI : CA := ⟨He.ga K⟩
  have m1 : ∀ f, f ∈ faOf tb → f.ok K = true := fun f hf => says_mem c hf
  have exc : ∀ n, tb.excs.contains n = true → mg n = some (.ref (He.ga K n)) := fun n hn => He.glo_ok X G (m1 _ (by
    unfold faOf
    refine List.mem_append_left _ (List.mem_append_right _ (List.mem_map_of_mem (by simpa using hn)))))
  refine { int := fun x i hx => He.int_ok X G (m1 _ ?_), str := fun x z hx => He.str_ok X G (m1 _ ?_), blt := fun x hx => He.free_ok X G (m1 _ ?_), err := fun hf => ?_, exc := fun n hn => ?_ }
  · unfold faOf
    exact List.mem_append_left _ (List.mem_append_left _ (List.mem_append_left _ (List.mem_append_left _ (List.mem_append_right _ (List.mem_map.mpr ⟨(x, i), lookup_mem hx, rfl⟩)))))
  · unfold faOf
    exact List.mem_append_left _ (List.mem_append_left _ (List.mem_append_left _ (List.mem_append_right _ (List.mem_map.mpr ⟨(x, z), lookup_mem hx, rfl⟩))))
  · unfold faOf
    exact List.mem_append_left _ (List.mem_append_left _ (List.mem_append_right _ (List.mem_map_of_mem (by simpa using hx))))
  · unfold chkOf at hc
    rw [hf] at hc
    simp only [Bool.not_true, Bool.false_or, Bool.and_eq_true, List.all_eq_true] at hc
    obtain ⟨⟨h1, h2⟩, h3⟩ := hc
    refine ⟨err_ok h1, fun n hn => exc n ?_⟩
    rcases hn with hn | rfl
    · exact h2 n (by simpa using hn)
    · exact h3
  · have hm : He.Fa.exc n ∈ faOf tb := by
      unfold faOf
      exact List.mem_append_right _ (List.mem_map_of_mem (by simpa using hn))
    obtain ⟨e1, e2, e3, e4⟩ := He.exc_ok (m1 _ hm)
    exact ⟨e1, exc n hn, e2, e3, e4⟩
theorem numbers_rp [CA] {F : Hp} : ∀ ns : List Int, RpL F (ns.map V.int) (ns.map D.int)
  | [] => .nil
  | n :: ns => .cons (.int n) (numbers_rp ns)
end Mx
namespace Mx
open PySem PySem.Spec L2 PyProof.Rows
/-- from the table's answer to the law's call -/
theorem law_walk {l : PySem.W.OpenLaw} {m n fuel : Nat} {q : Program} {loose : List Str} {XP : (Str → Option Value) → Heap → Prop} {d : DefRec} {tb : Tb} {ds : List He.DefD} {fs : List Fd} {i : Nat} {dl : He.DefD}
    (hmost : l.most = some m) (hm2 : m ≤ sizeLine) (hdflt : d.params.defaults = []) (room : Room (2 * fuel + 2) callerA) (hds : tb.fns = ds.map (·.name)) (hfs : cAll tb ds = some fs) (hone : ∀ d ∈ ds, tb.one.contains d.name = true → (psOf d.params).length = 1)
    (hi : ds[i]? = some dl) (hn : dl.name = d.name) (hps : (psOf dl.params).length = 1) (hans : ∀ ns : List Int, ns.length ≤ m → ∃ outs, tabAt fs (fuel + 1) i [.shr (.lst (ns.map D.int))] = .ok (.shr (.bl true)) outs) :
    PySem.W.WalkO q loose XP (hookM n tb ds).says l.row.toRowW d [] (fun f vs => PySem.call f vs) := by
  refine Att.attach_call hmost hdflt fun w sA sB mg mb fa ob pm cd doc a vals ns gr says hob hdata hcd hname hscript hints hlen hgens => ?_
  obtain ⟨K, KX, c, chk, noLists⟩ := (says : SaysM tb ds sB.heap)
  letI : CA := ⟨He.ga K⟩
  have FT : Facts tb K mg := facts_of KX gr.T.g c chk
  have glo : ∀ d ∈ ds, mg d.name = some (.ref (He.ga K d.name)) := fun d hd => He.glo_ok KX gr.T.g (says_mem c (by
    unfold faOf
    rw [hds]
    simp only [List.append_assoc]
    exact List.mem_append_left _ (List.mem_map.mpr ⟨d.name, List.mem_map_of_mem hd, rfl⟩)))
  have defs : ∀ d ∈ ds, ∃ fd, FunD K d.name d.qual d.params d.body d.scope (d.dvs K) (d.kws K) (He.fAd K d.at_) fd := fun d hd => by
    obtain ⟨j, hj⟩ := List.mem_iff_getElem?.mp hd
    exact c.def_ j hj
  have hdl : dl ∈ ds := List.mem_of_getElem? hi
  have hga : fa = He.ga K dl.name := by
    have e := glo dl hdl
    rw [hn, hname] at e
    cases e
    rw [hn]
  obtain ⟨cc, hcc, hfi⟩ := cAll_get hfs i dl hi
  obtain ⟨fd, FD⟩ := defs dl hdl
  have hcc2 := hcc
  unfold cDef at hcc2
  dsimp only at hcc2
  split at hcc2
  case isFalse => cases hcc2
  rename_i hb
  simp only [Bool.and_eq_true, List.isEmpty_iff, beq_iff_eq, decide_eq_true_eq] at hb
  obtain ⟨⟨⟨⟨⟨⟨b1, b2⟩, b3⟩, b4⟩, b5⟩, b6⟩, b7⟩ := hb
  have hat : He.fAd K dl.at_ = He.ga K dl.name := by rw [b5]; rfl
  have hk0 : dl.kws K = [] := by show dl.kwd.map _ = []; rw [b4]; rfl
  have hd0 : dl.dvs K = [] := by show dl.dfl.map _ = []; rw [b3]; rfl
  rw [hd0, hk0, hat] at FD
  have hnone : K.lookup a = none := by
    cases z : K.lookup a with
    | none => rfl
    | some o =>
      have e1 := KX a o z
      rw [hscript] at e1
      cases e1
      exact absurd rfl (noLists a _ z)
  have hx : ∃ x, psOf dl.params = [x] := by
    match h : psOf dl.params, hps with
    | [x], _ => exact ⟨x, rfl⟩
  obtain ⟨x, hx⟩ := hx
  have hal := asg_len hcc hfi
  rw [hps] at hal
  have hfn : tb.fns[i]? = some dl.name := by rw [hds, List.getElem?_map, hi]; rfl
  refine law_call (k := 2 * fuel + 2) (fa := fa) (fd := fd) (x := x) (sp := spF CA.ca (tabAt fs (fuel + 1)) i 1) (CX := L2.CX l.prog w) KX gr.T.g gr.T.b gr.T.builtins gr.T.nolimit hgens hscript hints (Nat.le_trans hlen hm2) room (fun base hK hG => ?_) (fun s u => ?_) (fun H hO hS => ?_) (fun H e s' z => ?_)
  · have all := fns_all (P := l.prog) (w := w) (base := base) FT hds hfs defs hone glo fuel
    have z := fn_step (f := i) (n := fuel) FT all FD hcc hfi
    rw [hps, hx] at z
    rw [hga]
    exact z
  · have := FD.bindsA (ps := psOf dl.params) (fun kV doc pm an cdv ct us hl => bind_plain b2 kV doc pm an cdv ct us hl) s [u] (by rw [hx]; rfl)
    rw [hx] at this
    exact this
  · have rd : Rd H a (.lst (ns.map V.int)) := by
      rcases hS with hS | ⟨o, _, _, z, _⟩
      · exact hS
      · rw [hnone] at z; cases z
    obtain ⟨outs, ho⟩ := hans ns hlen
    refine ⟨rfl, H, [.shr (.lst (ns.map D.int))], rfl, ER.shr (L := []) ⟨.refl, fun p hp => (by simp at hp), List.Pairwise.nil⟩ (.lst rd (numbers_rp ns)), ?_⟩
    rw [ho]
    intro u F' H' _ rel
    have r := rel.er.rpv
    cases r
    rfl
  · obtain ⟨_, _, _, _, _, _, _, _, _, _, _, _, f⟩ := z
    exact f.elim
end Mx

end
section
set_option Elab.async false
set_option linter.all false
/-! MxN: the code of the functions, as printed. -/
namespace Mx.My
def c_common : C := (.whl (.pr .ne (.cons (.var 1) (.cons (.cst (.int 0)) .nil))) (.par 0 1 (.var 1) (.pr .mod (.cons (.var 0) (.cons (.var 1) .nil))) .done) (.ret (.var 0)))
def c_share (f_common : Nat) : C := (.asg (.nm 2) (.call f_common (.cons (.pr .abs (.cons (.var 0) .nil)) (.cons (.var 1) .nil))) (.ret (.tup (.cons (.pr .fdiv (.cons (.var 0) (.cons (.var 2) .nil))) (.cons (.pr .fdiv (.cons (.var 1) (.cons (.var 2) .nil))) .nil)))))
def c_plus (f_share : Nat) : C := (.ret (.call f_share (.cons (.pr .add (.cons (.pr .mul (.cons (.pr .idx (.cons (.var 0) (.cons (.cst (.int 0)) .nil))) (.cons (.pr .idx (.cons (.var 1) (.cons (.cst (.int 1)) .nil))) .nil))) (.cons (.pr .mul (.cons (.pr .idx (.cons (.var 1) (.cons (.cst (.int 0)) .nil))) (.cons (.pr .idx (.cons (.var 0) (.cons (.cst (.int 1)) .nil))) .nil))) .nil))) (.cons (.pr .mul (.cons (.pr .idx (.cons (.var 0) (.cons (.cst (.int 1)) .nil))) (.cons (.pr .idx (.cons (.var 1) (.cons (.cst (.int 1)) .nil))) .nil))) .nil))))
def c_minus (f_share : Nat) : C := (.ret (.call f_share (.cons (.pr .sub (.cons (.pr .mul (.cons (.pr .idx (.cons (.var 0) (.cons (.cst (.int 0)) .nil))) (.cons (.pr .idx (.cons (.var 1) (.cons (.cst (.int 1)) .nil))) .nil))) (.cons (.pr .mul (.cons (.pr .idx (.cons (.var 1) (.cons (.cst (.int 0)) .nil))) (.cons (.pr .idx (.cons (.var 0) (.cons (.cst (.int 1)) .nil))) .nil))) .nil))) (.cons (.pr .mul (.cons (.pr .idx (.cons (.var 0) (.cons (.cst (.int 1)) .nil))) (.cons (.pr .idx (.cons (.var 1) (.cons (.cst (.int 1)) .nil))) .nil))) .nil))))
def c_times (f_share : Nat) : C := (.ret (.call f_share (.cons (.pr .mul (.cons (.pr .idx (.cons (.var 0) (.cons (.cst (.int 0)) .nil))) (.cons (.pr .idx (.cons (.var 1) (.cons (.cst (.int 0)) .nil))) .nil))) (.cons (.pr .mul (.cons (.pr .idx (.cons (.var 0) (.cons (.cst (.int 1)) .nil))) (.cons (.pr .idx (.cons (.var 1) (.cons (.cst (.int 1)) .nil))) .nil))) .nil))))
def c_total (f_plus : Nat) : C := (.asg (.nm 1) (.tup (.cons (.cst (.int 0)) (.cons (.cst (.int 1)) .nil))) (.for_ (.nm 2) .val (.cons (.var 0) .nil) (.asg (.nm 1) (.call f_plus (.cons (.var 1) (.cons (.var 2) .nil))) .done) (.ret (.var 1))))
def c_rest : C := (.ret (.tup (.cons (.pr .sub (.cons (.pr .idx (.cons (.var 0) (.cons (.cst (.int 1)) .nil))) (.cons (.pr .idx (.cons (.var 0) (.cons (.cst (.int 0)) .nil))) .nil))) (.cons (.pr .idx (.cons (.var 0) (.cons (.cst (.int 1)) .nil))) .nil))))
def c_counted (f_times f_rest f_plus : Nat) : C := (.asg (.nm 1) (.lst (.cons (.tup (.cons (.cst (.int 1)) (.cons (.cst (.int 1)) .nil))) .nil)) (.for_ (.nm 2) .val (.cons (.var 0) .nil) (.asg (.nm 4) (.pr .add (.cons (.comp [6, 3] (.nm 3) .val (.cons (.var 1) .nil) (.cst (.bl true)) (.call f_times (.cons (.var 3) (.cons (.call f_rest (.cons (.var 2) .nil)) .nil)))) (.cons (.lst (.cons (.tup (.cons (.cst (.int 0)) (.cons (.cst (.int 1)) .nil))) .nil)) .nil))) (.for_ (.tp (.cons (.nm 5) (.cons (.nm 3) .nil))) .enum (.cons (.var 1) .nil) (.setI 4 (.pr .add (.cons (.var 5) (.cons (.cst (.int 1)) .nil))) (.call f_plus (.cons (.pr .idx (.cons (.var 4) (.cons (.pr .add (.cons (.var 5) (.cons (.cst (.int 1)) .nil))) .nil))) (.cons (.call f_times (.cons (.var 3) (.cons (.var 2) .nil))) .nil))) .done) (.asg (.nm 1) (.var 4) .done))) (.ret (.var 1))))
def c_is_whole : C := (.ret (.and2 (.pr (.isI .int) (.cons (.var 0) .nil)) (.and2 (.not (.pr (.isI .bool) (.cons (.var 0) .nil))) (.chain .le .le (.var 1) (.var 0) (.var 2)))))
def c_is_word : C := (.ret (.and2 (.pr (.isI .str) (.cons (.var 0) .nil)) (.and2 (.chain .le .le (.cst (.int 1)) (.pr .len (.cons (.var 0) .nil)) (.cst (.int 8))) (.pr .all (.cons (.comp [1, 2] (.nm 2) .val (.cons (.var 0) .nil) (.cst (.bl true)) (.pr .inn (.cons (.var 2) (.cons (.cst (.str "abcdefghijklmnopqrstuvwxyz")) .nil)))) .nil)))))
def c_do_rise : C := (.ret (.pr .all (.cons (.comp [1, 2, 3] (.tp (.cons (.nm 2) (.cons (.nm 3) .nil))) .zip (.cons (.var 0) (.cons (.pr (.slc true false) (.cons (.var 0) (.cons (.cst (.int 1)) .nil))) .nil)) (.cst (.bl true)) (.pr .lt (.cons (.var 2) (.cons (.var 3) .nil)))) .nil)))
def c_is_going (f_is_word f_is_whole : Nat) : C := (.ife (.or2 (.not (.tv (.pr (.isI .tuple) (.cons (.var 0) .nil)))) (.or2 (.pr .ne (.cons (.pr .len (.cons (.var 0) .nil)) (.cons (.cst (.int 6)) .nil))) (.not (.tv (.pr .all (.cons (.comp [1, 2] (.nm 2) .val (.cons (.pr (.slc false true) (.cons (.var 0) (.cons (.cst (.int 3)) .nil))) .nil) (.cst (.bl true)) (.call f_is_word (.cons (.var 2) .nil))) .nil)))))) (.ret (.cst (.bl false))) .done (.ife (.or2 (.pr .eq (.cons (.pr .idx (.cons (.var 0) (.cons (.cst (.int 1)) .nil))) (.cons (.pr .idx (.cons (.var 0) (.cons (.cst (.int 2)) .nil))) .nil))) (.or2 (.not (.tv (.call f_is_whole (.cons (.pr .idx (.cons (.var 0) (.cons (.cst (.int 3)) .nil))) (.cons (.cst (.int 0)) (.cons (.cst (.int 999)) .nil)))))) (.not (.tv (.call f_is_whole (.cons (.pr .idx (.cons (.var 0) (.cons (.cst (.int 4)) .nil))) (.cons (.cst (.int 0)) (.cons (.cst (.int 999)) .nil)))))))) (.ret (.cst (.bl false))) .done (.ret (.and2 (.pr .lt (.cons (.pr .idx (.cons (.var 0) (.cons (.cst (.int 3)) .nil))) (.cons (.pr .idx (.cons (.var 0) (.cons (.cst (.int 4)) .nil))) .nil))) (.call f_is_whole (.cons (.pr .idx (.cons (.var 0) (.cons (.cst (.int 5)) .nil))) (.cons (.cst (.int 1)) (.cons (.cst (.int 9)) .nil))))))))
def c_is_chance (f_common : Nat) : C := (.ife (.or2 (.not (.tv (.pr (.isI .tuple) (.cons (.var 0) .nil)))) (.pr .ne (.cons (.pr .len (.cons (.var 0) .nil)) (.cons (.cst (.int 2)) .nil)))) (.ret (.cst (.bl false))) .done (.ife (.not (.tv (.pr .all (.cons (.comp [1, 2] (.nm 2) .val (.cons (.var 0) .nil) (.cst (.bl true)) (.and2 (.pr (.isI .int) (.cons (.var 2) .nil)) (.not (.pr (.isI .bool) (.cons (.var 2) .nil))))) .nil)))) (.ret (.cst (.bl false))) .done (.ret (.and2 (.chain .lt .le (.cst (.int 0)) (.pr .idx (.cons (.var 0) (.cons (.cst (.int 0)) .nil))) (.pr .idx (.cons (.var 0) (.cons (.cst (.int 1)) .nil)))) (.pr .eq (.cons (.call f_common (.cons (.pr .idx (.cons (.var 0) (.cons (.cst (.int 0)) .nil))) (.cons (.pr .idx (.cons (.var 0) (.cons (.cst (.int 1)) .nil))) .nil))) (.cons (.cst (.int 1)) .nil)))))))
def c_is_kind (f_is_whole f_is_chance : Nat) : C := (.ife (.or2 (.not (.tv (.pr (.isI .tuple) (.cons (.var 0) .nil)))) (.or2 (.pr .ne (.cons (.pr .len (.cons (.var 0) .nil)) (.cons (.cst (.int 4)) .nil))) (.or2 (.not (.tv (.call f_is_whole (.cons (.pr .idx (.cons (.var 0) (.cons (.cst (.int 0)) .nil))) (.cons (.cst (.int 0)) (.cons (.cst (.int 999)) .nil)))))) (.not (.tv (.call f_is_chance (.cons (.pr .idx (.cons (.var 0) (.cons (.cst (.int 1)) .nil))) .nil))))))) (.ret (.cst (.bl false))) .done (.ret (.and2 (.call f_is_whole (.cons (.pr .idx (.cons (.var 0) (.cons (.cst (.int 2)) .nil))) (.cons (.cst (.int 0)) (.cons (.cst (.int 9)) .nil)))) (.or2 (.pr .isC (.cons (.pr .idx (.cons (.var 0) (.cons (.cst (.int 3)) .nil))) (.cons (.cst .non) .nil))) (.call f_is_whole (.cons (.pr .idx (.cons (.var 0) (.cons (.cst (.int 3)) .nil))) (.cons (.cst (.int 0)) (.cons (.cst (.int 999)) .nil))))))))
def c_is_booking (f_is_word f_is_kind : Nat) : C := (.ife (.or2 (.not (.tv (.pr (.isI .tuple) (.cons (.var 1) .nil)))) (.or2 (.pr .ne (.cons (.pr .len (.cons (.var 1) .nil)) (.cons (.cst (.int 6)) .nil))) (.or2 (.not (.tv (.call f_is_word (.cons (.pr .idx (.cons (.var 1) (.cons (.cst (.int 0)) .nil))) .nil)))) (.not (.tv (.pr (.isI .str) (.cons (.pr .idx (.cons (.var 1) (.cons (.cst (.int 1)) .nil))) .nil))))))) (.ret (.cst (.bl false))) .done (.ret (.and2 (.pr .inn (.cons (.pr .idx (.cons (.var 1) (.cons (.cst (.int 1)) .nil))) (.cons (.var 0) .nil))) (.call f_is_kind (.cons (.pr (.slc true false) (.cons (.var 1) (.cons (.cst (.int 2)) .nil))) .nil)))))
def c_is_rule (f_is_whole f_do_rise : Nat) : C := (.ife (.or2 (.not (.tv (.pr (.isI .tuple) (.cons (.var 0) .nil)))) (.or2 (.pr .ne (.cons (.pr .len (.cons (.var 0) .nil)) (.cons (.cst (.int 2)) .nil))) (.not (.tv (.pr (.isI .str) (.cons (.pr .idx (.cons (.var 0) (.cons (.cst (.int 0)) .nil))) .nil)))))) (.ret (.cst (.bl false))) .done (.ife (.or2 (.pr .nin (.cons (.pr .idx (.cons (.var 0) (.cons (.cst (.int 0)) .nil))) (.cons (.tup (.cons (.cst (.str "own")) (.cons (.cst (.str "last")) .nil))) .nil))) (.or2 (.not (.tv (.pr (.isI .tuple) (.cons (.pr .idx (.cons (.var 0) (.cons (.cst (.int 1)) .nil))) .nil)))) (.pr .eq (.cons (.pr .idx (.cons (.var 0) (.cons (.cst (.int 1)) .nil))) (.cons (.tup .nil) .nil))))) (.ret (.cst (.bl false))) .done (.for_ (.nm 1) .val (.cons (.pr .idx (.cons (.var 0) (.cons (.cst (.int 1)) .nil))) .nil) (.ife (.or2 (.not (.tv (.pr (.isI .tuple) (.cons (.var 1) .nil)))) (.or2 (.pr .ne (.cons (.pr .len (.cons (.var 1) .nil)) (.cons (.cst (.int 2)) .nil))) (.not (.tv (.pr .all (.cons (.comp [3, 4] (.nm 4) .val (.cons (.var 1) .nil) (.cst (.bl true)) (.call f_is_whole (.cons (.var 4) (.cons (.cst (.int 0)) (.cons (.cst (.int 9999)) .nil))))) .nil)))))) (.ret (.cst (.bl false))) .done .done) (.asg (.nm 2) (.and2 (.call f_do_rise (.cons (.comp [3, 1] (.nm 1) .val (.cons (.pr .idx (.cons (.var 0) (.cons (.cst (.int 1)) .nil))) .nil) (.cst (.bl true)) (.pr .idx (.cons (.var 1) (.cons (.cst (.int 0)) .nil)))) .nil)) (.call f_do_rise (.cons (.comp [3, 1] (.nm 1) .val (.cons (.pr .idx (.cons (.var 0) (.cons (.cst (.int 1)) .nil))) .nil) (.cst (.bl true)) (.pr .idx (.cons (.var 1) (.cons (.cst (.int 1)) .nil)))) .nil))) (.ret (.and2 (.var 2) (.pr .eq (.cons (.pr .idx (.cons (.pr .idx (.cons (.pr .idx (.cons (.var 0) (.cons (.cst (.int 1)) .nil))) (.cons (.cst (.int 0)) .nil))) (.cons (.cst (.int 0)) .nil))) (.cons (.cst (.int 0)) .nil)))))))))
def c_is_house (f_is_going f_do_rise f_is_booking f_is_rule : Nat) : C := (.ife (.or2 (.not (.tv (.pr (.isI .tuple) (.cons (.var 0) .nil)))) (.or2 (.pr .ne (.cons (.pr .len (.cons (.var 0) .nil)) (.cons (.cst (.int 3)) .nil))) (.not (.tv (.pr .all (.cons (.comp [5, 6] (.nm 6) .val (.cons (.pr (.slc false true) (.cons (.var 0) (.cons (.cst (.int 2)) .nil))) .nil) (.cst (.bl true)) (.pr (.isI .tuple) (.cons (.var 6) .nil))) .nil)))))) (.ret (.cst (.bl false))) .done (.asg (.tp (.cons (.nm 1) (.cons (.nm 2) (.cons (.nm 3) .nil)))) (.var 0) (.ife (.or2 (.not (.chain .le .le (.cst (.int 1)) (.pr .len (.cons (.var 1) .nil)) (.cst (.int 6)))) (.not (.tv (.pr .all (.cons (.comp [5, 6] (.nm 6) .val (.cons (.var 1) .nil) (.cst (.bl true)) (.call f_is_going (.cons (.var 6) .nil))) .nil))))) (.ret (.cst (.bl false))) .done (.asg (.nm 4) (.comp [5, 6] (.nm 6) .val (.cons (.var 1) .nil) (.cst (.bl true)) (.pr .idx (.cons (.var 6) (.cons (.cst (.int 0)) .nil)))) (.ife (.or2 (.not (.tv (.call f_do_rise (.cons (.var 4) .nil)))) (.or2 (.pr .gt (.cons (.pr .len (.cons (.var 2) .nil)) (.cons (.cst (.int 12)) .nil))) (.not (.tv (.pr .all (.cons (.comp [5, 6] (.nm 6) .val (.cons (.var 2) .nil) (.cst (.bl true)) (.call f_is_booking (.cons (.var 4) (.cons (.var 6) .nil)))) .nil)))))) (.ret (.cst (.bl false))) .done (.ret (.and2 (.call f_do_rise (.cons (.comp [5, 6] (.nm 6) .val (.cons (.var 2) .nil) (.cst (.bl true)) (.pr .idx (.cons (.var 6) (.cons (.cst (.int 0)) .nil)))) .nil)) (.call f_is_rule (.cons (.var 3) .nil)))))))))
def c_look_house (f_is_house : Nat) : C := (.ife (.not (.tv (.call f_is_house (.cons (.var 0) .nil)))) (.rse "BadHouse") .done .done)
def c_look_going : C := (.ife (.or2 (.not (.tv (.pr (.isI .str) (.cons (.var 1) .nil)))) (.pr .nin (.cons (.var 1) (.cons (.comp [2, 3] (.nm 3) .val (.cons (.pr .idx (.cons (.var 0) (.cons (.cst (.int 0)) .nil))) .nil) (.cst (.bl true)) (.pr .idx (.cons (.var 3) (.cons (.cst (.int 0)) .nil)))) .nil)))) (.rse "BadName") .done .done)
def c_going_of : C := (.ret (.pr .idx (.cons (.comp [2, 3] (.nm 3) .val (.cons (.pr .idx (.cons (.var 0) (.cons (.cst (.int 0)) .nil))) .nil) (.pr .eq (.cons (.pr .idx (.cons (.var 3) (.cons (.cst (.int 0)) .nil))) (.cons (.var 1) .nil))) (.var 3)) (.cons (.cst (.int 0)) .nil))))
def c_booked_at : C := (.ret (.comp [2, 3] (.nm 3) .val (.cons (.pr .idx (.cons (.var 0) (.cons (.cst (.int 1)) .nil))) .nil) (.pr .eq (.cons (.pr .idx (.cons (.var 3) (.cons (.cst (.int 1)) .nil))) (.cons (.var 1) .nil))) (.var 3)))
def c_stay_key : C := (.ife (.pr .isC (.cons (.pr .idx (.cons (.var 0) (.cons (.cst (.int 5)) .nil))) (.cons (.cst .non) .nil))) (.ret (.tup (.cons (.cst (.int 1)) (.cons (.pr .neg (.cons (.pr .idx (.cons (.var 0) (.cons (.cst (.int 4)) .nil))) .nil)) (.cons (.pr .idx (.cons (.var 0) (.cons (.cst (.int 0)) .nil))) .nil))))) .done (.ret (.tup (.cons (.cst (.int 0)) (.cons (.pr .idx (.cons (.var 0) (.cons (.cst (.int 5)) .nil))) (.cons (.pr .idx (.cons (.var 0) (.cons (.cst (.int 0)) .nil))) .nil))))))
def c_in_order (f_stay_key : Nat) : C := (.ret (.srt f_stay_key (.cons (.var 0) .nil)))
def c_signed_sum (f_share : Nat) : C := (.asg (.tp (.cons (.nm 1) (.cons (.nm 2) .nil))) (.tup (.cons (.cst (.int 0)) (.cons (.cst (.int 1)) .nil))) (.for_ (.tp (.cons (.nm 3) (.cons (.nm 4) .nil))) .val (.cons (.var 0) .nil) (.asg (.tp (.cons (.nm 1) (.cons (.nm 2) .nil))) (.call f_share (.cons (.pr .add (.cons (.pr .mul (.cons (.var 1) (.cons (.pr .idx (.cons (.var 4) (.cons (.cst (.int 1)) .nil))) .nil))) (.cons (.pr .mul (.cons (.pr .mul (.cons (.var 3) (.cons (.pr .idx (.cons (.var 4) (.cons (.cst (.int 0)) .nil))) .nil))) (.cons (.var 2) .nil))) .nil))) (.cons (.pr .mul (.cons (.var 2) (.cons (.pr .idx (.cons (.var 4) (.cons (.cst (.int 1)) .nil))) .nil))) .nil))) .done) (.ret (.tup (.cons (.var 1) (.cons (.var 2) .nil))))))
def c_more_than (f_total : Nat) : C := (.ret (.call f_total (.cons (.pr (.slc true false) (.cons (.var 0) (.cons (.pr .max2 (.cons (.cst (.int 0)) (.cons (.pr .add (.cons (.var 1) (.cons (.cst (.int 1)) .nil))) .nil))) .nil))) .nil)))
def c_stays_by (f_counted f_times f_total : Nat) : C := (.asg (.nm 2) (.lst .nil) (.for_ (.tp (.cons (.nm 3) (.cons (.nm 4) .nil))) .enum (.cons (.var 0) .nil) (.asg (.nm 5) (.call f_counted (.cons (.comp [6, 7] (.nm 7) .val (.cons (.pr (.slc true false) (.cons (.var 0) (.cons (.pr .add (.cons (.var 3) (.cons (.cst (.int 1)) .nil))) .nil))) .nil) (.cst (.bl true)) (.pr .idx (.cons (.var 7) (.cons (.cst (.int 3)) .nil)))) .nil)) (.exp (.mut .append 2 (.cons (.tup (.cons (.var 4) (.cons (.call f_times (.cons (.pr .idx (.cons (.var 4) (.cons (.cst (.int 3)) .nil))) (.cons (.call f_total (.cons (.pr (.slc true false) (.cons (.var 5) (.cons (.var 1) .nil))) .nil)) .nil))) .nil))) .nil)) .done)) (.ret (.var 2))))
def c_mean_own (f_stays_by f_total f_times : Nat) : C := (.asg (.nm 2) (.call f_stays_by (.cons (.var 0) (.cons (.var 1) .nil))) (.ret (.call f_total (.cons (.comp [3, 4, 5] (.tp (.cons (.nm 4) (.cons (.nm 5) .nil))) .val (.cons (.var 2) .nil) (.pr .isntC (.cons (.pr .idx (.cons (.var 4) (.cons (.cst (.int 5)) .nil))) (.cons (.cst .non) .nil))) (.call f_times (.cons (.var 5) (.cons (.tup (.cons (.pr .idx (.cons (.var 4) (.cons (.cst (.int 5)) .nil))) (.cons (.cst (.int 1)) .nil))) .nil)))) .nil))))
def c_mean_last (f_counted f_plus f_times f_more_than f_total : Nat) : C := (.asg (.nm 3) (.comp [12, 2] (.nm 2) .val (.cons (.var 0) .nil) (.pr .isntC (.cons (.pr .idx (.cons (.var 2) (.cons (.cst (.int 5)) .nil))) (.cons (.cst .non) .nil))) (.var 2)) (.asg (.nm 4) (.call f_counted (.cons (.comp [12, 2] (.nm 2) .val (.cons (.var 0) .nil) (.pr .isC (.cons (.pr .idx (.cons (.var 2) (.cons (.cst (.int 5)) .nil))) (.cons (.cst .non) .nil))) (.pr .idx (.cons (.var 2) (.cons (.cst (.int 3)) .nil)))) .nil)) (.asg (.nm 5) (.tup (.cons (.cst (.int 0)) (.cons (.cst (.int 1)) .nil))) (.for_ (.tp (.cons (.nm 6) (.cons (.nm 2) .nil))) .enum (.cons (.var 3) .nil) (.asg (.nm 7) (.call f_counted (.cons (.comp [12, 13] (.nm 13) .val (.cons (.pr (.slc false true) (.cons (.var 3) (.cons (.var 6) .nil))) .nil) (.cst (.bl true)) (.pr .idx (.cons (.var 13) (.cons (.cst (.int 3)) .nil)))) .nil)) (.asg (.nm 8) (.call f_counted (.cons (.comp [12, 13] (.nm 13) .val (.cons (.pr (.slc true false) (.cons (.var 3) (.cons (.pr .add (.cons (.var 6) (.cons (.cst (.int 1)) .nil))) .nil))) .nil) (.cst (.bl true)) (.pr .idx (.cons (.var 13) (.cons (.cst (.int 3)) .nil)))) .nil)) (.asg (.nm 9) (.call f_counted (.cons (.pr .add (.cons (.comp [12, 13] (.nm 13) .val (.cons (.pr (.slc true false) (.cons (.var 3) (.cons (.pr .add (.cons (.var 6) (.cons (.cst (.int 1)) .nil))) .nil))) .nil) (.cst (.bl true)) (.pr .idx (.cons (.var 13) (.cons (.cst (.int 3)) .nil)))) (.cons (.comp [12, 13] (.nm 13) .val (.cons (.var 0) .nil) (.pr .isC (.cons (.pr .idx (.cons (.var 13) (.cons (.cst (.int 5)) .nil))) (.cons (.cst .non) .nil))) (.pr .idx (.cons (.var 13) (.cons (.cst (.int 3)) .nil)))) .nil))) .nil)) (.asg (.nm 10) (.ifx (.pr .lt (.cons (.var 1) (.cons (.pr .len (.cons (.var 9) .nil)) .nil))) (.pr .idx (.cons (.var 9) (.cons (.var 1) .nil))) (.tup (.cons (.cst (.int 0)) (.cons (.cst (.int 1)) .nil)))) (.asg (.nm 10) (.call f_plus (.cons (.var 10) (.cons (.call f_times (.cons (.pr .idx (.cons (.var 8) (.cons (.cst (.int 0)) .nil))) (.cons (.call f_more_than (.cons (.var 4) (.cons (.var 1) .nil))) .nil))) .nil))) (.asg (.nm 11) (.call f_total (.cons (.comp [12, 14, 15] (.tp (.cons (.nm 14) (.cons (.nm 15) .nil))) .enum (.cons (.var 7) .nil) (.cst (.bl true)) (.call f_times (.cons (.var 15) (.cons (.tup (.cons (.pr .add (.cons (.var 14) (.cons (.cst (.int 1)) .nil))) (.cons (.cst (.int 1)) .nil))) .nil)))) .nil)) (.asg (.nm 5) (.call f_plus (.cons (.var 5) (.cons (.call f_times (.cons (.call f_times (.cons (.call f_times (.cons (.pr .idx (.cons (.var 2) (.cons (.cst (.int 3)) .nil))) (.cons (.var 10) .nil))) (.cons (.var 11) .nil))) (.cons (.tup (.cons (.pr .idx (.cons (.var 2) (.cons (.cst (.int 5)) .nil))) (.cons (.cst (.int 1)) .nil))) .nil))) .nil))) .done))))))) (.ret (.var 5))))))
def c_willing_mean (f_mean_own f_mean_last : Nat) : C := (.ret (.ifx (.pr .eq (.cons (.pr .idx (.cons (.var 0) (.cons (.cst (.int 0)) .nil))) (.cons (.cst (.str "own")) .nil))) (.call f_mean_own (.cons (.var 1) (.cons (.var 2) .nil))) (.call f_mean_last (.cons (.var 1) (.cons (.var 2) .nil)))))
def c_look_kind (f_look_house f_look_going f_is_kind : Nat) : C := (.exp (.call f_look_house (.cons (.var 0) .nil)) (.exp (.call f_look_going (.cons (.var 0) (.cons (.var 1) .nil))) (.ife (.not (.tv (.call f_is_kind (.cons (.var 2) .nil)))) (.rse "BadKind") .done .done)))
def c_worth_with (f_in_order f_booked_at f_going_of f_signed_sum f_stays_by f_minus f_willing_mean : Nat) : C := (.asg (.nm 4) (.comp [10, 11] (.nm 11) .rng (.cons (.var 3) .nil) (.cst (.bl true)) (.pr .add (.cons (.tup (.cons (.pr .add (.cons (.cst (.str "~")) (.cons (.pr .idx (.cons (.cst (.str "abcdefghijkl")) (.cons (.var 11) .nil))) .nil))) (.cons (.var 1) .nil))) (.cons (.var 2) .nil)))) (.asg (.nm 5) (.call f_in_order (.cons (.pr .add (.cons (.call f_booked_at (.cons (.var 0) (.cons (.var 1) .nil))) (.cons (.var 4) .nil))) .nil)) (.asg (.nm 6) (.pr .idx (.cons (.call f_going_of (.cons (.var 0) (.cons (.var 1) .nil))) (.cons (.cst (.int 5)) .nil))) (.asg (.nm 7) (.call f_signed_sum (.cons (.comp [10, 12] (.nm 12) .val (.cons (.var 5) .nil) (.cst (.bl true)) (.tup (.cons (.pr .idx (.cons (.var 12) (.cons (.cst (.int 2)) .nil))) (.cons (.pr .idx (.cons (.var 12) (.cons (.cst (.int 3)) .nil))) .nil)))) .nil)) (.asg (.nm 8) (.pr .idx (.cons (.pr .idx (.cons (.pr .idx (.cons (.pr .idx (.cons (.var 0) (.cons (.cst (.int 2)) .nil))) (.cons (.cst (.int 1)) .nil))) (.cons (.cst (.int 0)) .nil))) (.cons (.cst (.int 1)) .nil))) (.asg (.nm 9) (.call f_signed_sum (.cons (.comp [10, 12, 13] (.tp (.cons (.nm 12) (.cons (.nm 13) .nil))) .val (.cons (.call f_stays_by (.cons (.var 5) (.cons (.var 6) .nil))) .nil) (.pr .isC (.cons (.pr .idx (.cons (.var 12) (.cons (.cst (.int 5)) .nil))) (.cons (.cst .non) .nil))) (.tup (.cons (.var 8) (.cons (.var 13) .nil)))) .nil)) (.ret (.call f_minus (.cons (.call f_minus (.cons (.var 7) (.cons (.call f_willing_mean (.cons (.pr .idx (.cons (.var 0) (.cons (.cst (.int 2)) .nil))) (.cons (.var 5) (.cons (.var 6) .nil)))) .nil))) (.cons (.var 9) .nil))))))))))
def c_all_worths (f_worth_with : Nat) : C := (.ret (.comp [3, 4] (.nm 4) .rng (.cons (.pr .add (.cons (.cst (.int 12)) (.cons (.cst (.int 1)) .nil))) .nil) (.cst (.bl true)) (.call f_worth_with (.cons (.var 0) (.cons (.var 1) (.cons (.var 2) (.cons (.var 4) .nil)))))))
def c_worths (f_look_kind f_all_worths : Nat) : C := (.exp (.call f_look_kind (.cons (.var 0) (.cons (.var 1) (.cons (.var 2) .nil)))) (.ret (.call f_all_worths (.cons (.var 0) (.cons (.var 1) (.cons (.var 2) .nil))))))
def c_best_number (f_look_kind f_all_worths f_minus : Nat) : C := (.exp (.call f_look_kind (.cons (.var 0) (.cons (.var 1) (.cons (.var 2) .nil)))) (.asg (.nm 3) (.call f_all_worths (.cons (.var 0) (.cons (.var 1) (.cons (.var 2) .nil)))) (.asg (.nm 4) (.cst (.int 0)) (.for_ (.tp (.cons (.nm 5) (.cons (.nm 6) .nil))) .enum (.cons (.var 3) .nil) (.ife (.pr .gt (.cons (.pr .idx (.cons (.call f_minus (.cons (.var 6) (.cons (.pr .idx (.cons (.var 3) (.cons (.var 4) .nil))) .nil))) (.cons (.cst (.int 0)) .nil))) (.cons (.cst (.int 0)) .nil))) (.asg (.nm 4) (.var 5) .done) .done .done) (.ret (.var 4))))))
def c_adds (f_all_worths f_minus : Nat) : C := (.asg (.nm 3) (.call f_all_worths (.cons (.var 0) (.cons (.var 1) (.cons (.var 2) .nil)))) (.ret (.comp [4, 5, 6] (.tp (.cons (.nm 5) (.cons (.nm 6) .nil))) .zip (.cons (.var 3) (.cons (.pr (.slc true false) (.cons (.var 3) (.cons (.cst (.int 1)) .nil))) .nil)) (.cst (.bl true)) (.call f_minus (.cons (.var 6) (.cons (.var 5) .nil))))))
def c_turning (f_look_kind f_adds : Nat) : C := (.exp (.call f_look_kind (.cons (.var 0) (.cons (.var 1) (.cons (.var 2) .nil)))) (.asg (.nm 3) (.comp [5, 6] (.nm 6) .val (.cons (.call f_adds (.cons (.var 0) (.cons (.var 1) (.cons (.var 2) .nil)))) .nil) (.cst (.bl true)) (.pr .lt (.cons (.pr .idx (.cons (.var 6) (.cons (.cst (.int 0)) .nil))) (.cons (.cst (.int 0)) .nil)))) (.asg (.nm 4) (.pr .len (.cons (.var 3) .nil)) (.whl (.and2 (.pr .gt (.cons (.var 4) (.cons (.cst (.int 0)) .nil))) (.tv (.pr .idx (.cons (.var 3) (.cons (.pr .sub (.cons (.var 4) (.cons (.cst (.int 1)) .nil))) .nil))))) (.augI 4 .sub (.cst (.int 1)) .done) (.ret (.ifx (.pr .lt (.cons (.var 4) (.cons (.pr .len (.cons (.var 3) .nil)) .nil))) (.var 4) (.cst .non)))))))
def c__law_town : C := (.ret (.pr .add (.cons (.lst (.cons (.cst (.int 0)) .nil)) (.cons (.pr .list (.cons (.var 0) .nil)) .nil))))
def c__law_draw : C := (.setI 1 (.cst (.int 0)) (.pr .add (.cons (.pr .idx (.cons (.var 1) (.cons (.cst (.int 0)) .nil))) (.cons (.cst (.int 1)) .nil))) (.ife (.pr .eq (.cons (.var 0) (.cons (.lst .nil) .nil))) (.ret (.pr .mod (.cons (.pr .fdiv (.cons (.pr .mul (.cons (.pr .mul (.cons (.pr .idx (.cons (.var 1) (.cons (.cst (.int 0)) .nil))) (.cons (.pr .idx (.cons (.var 1) (.cons (.cst (.int 0)) .nil))) .nil))) (.cons (.cst (.int 7)) .nil))) (.cons (.cst (.int 3)) .nil))) (.cons (.var 2) .nil)))) .done (.asg (.nm 3) (.pr .mod (.cons (.pr .idx (.cons (.var 1) (.cons (.cst (.int 0)) .nil))) (.cons (.pr .len (.cons (.var 0) .nil)) .nil))) (.asg (.nm 4) (.pr .idx (.cons (.var 1) (.cons (.pr .add (.cons (.cst (.int 1)) (.cons (.var 3) .nil))) .nil))) (.ife (.and2 (.pr .ge (.cons (.pr .idx (.cons (.var 0) (.cons (.var 3) .nil))) (.cons (.pr .pow (.cons (.cst (.int 10)) (.cons (.cst (.int 18)) .nil))) .nil))) (.pr .gt (.cons (.var 4) (.cons (.cst (.int 0)) .nil)))) (.setI 1 (.pr .add (.cons (.cst (.int 1)) (.cons (.var 3) .nil))) (.pr .fdiv (.cons (.var 4) (.cons (.var 2) .nil))) (.ret (.pr .mod (.cons (.var 4) (.cons (.var 2) .nil))))) .done (.asg (.nm 5) (.pr .mod (.cons (.pr .add (.cons (.pr .idx (.cons (.var 0) (.cons (.var 3) .nil))) (.cons (.pr .mul (.cons (.cst (.int 104729)) (.cons (.pr .idx (.cons (.var 1) (.cons (.cst (.int 0)) .nil))) .nil))) .nil))) (.cons (.cst (.int 4294967291)) .nil))) (.asg (.nm 5) (.pr .mod (.cons (.pr .pow (.cons (.var 5) (.cons (.cst (.int 5)) .nil))) (.cons (.cst (.int 4294967279)) .nil))) (.ret (.pr .mod (.cons (.pr .fdiv (.cons (.pr .mod (.cons (.pr .add (.cons (.pr .mul (.cons (.pr .fdiv (.cons (.var 5) (.cons (.cst (.int 64)) .nil))) (.cons (.cst (.int 69621)) .nil))) (.cons (.var 5) .nil))) (.cons (.cst (.int 4294967231)) .nil))) (.cons (.cst (.int 8)) .nil))) (.cons (.var 2) .nil)))))))))))
def c__law_lowest : C := (.par 2 3 (.pr .abs (.cons (.var 0) .nil)) (.var 1) (.whl (.pr .ne (.cons (.var 3) (.cons (.cst (.int 0)) .nil))) (.par 2 3 (.var 3) (.pr .mod (.cons (.var 2) (.cons (.var 3) .nil))) .done) (.ret (.tup (.cons (.pr .fdiv (.cons (.var 0) (.cons (.var 2) .nil))) (.cons (.pr .fdiv (.cons (.var 1) (.cons (.var 2) .nil))) .nil))))))
def c_law (f__law_town f__law_draw f_worths f__law_lowest f_best_number f_turning : Nat) : C := (.asg (.nm 1) (.call f__law_town (.cons (.var 0) .nil)) (.par 2 3 (.pr .add (.cons (.cst (.int 1)) (.cons (.call f__law_draw (.cons (.var 0) (.cons (.var 1) (.cons (.cst (.int 90)) .nil)))) .nil))) (.call f__law_draw (.cons (.var 0) (.cons (.var 1) (.cons (.cst (.int 90)) .nil)))) (.asg (.nm 4) (.tup (.cons (.tup (.cons (.cst (.str "g")) (.cons (.cst (.str "ayr")) (.cons (.cst (.str "bex")) (.cons (.cst (.int 5)) (.cons (.cst (.int 9)) (.cons (.cst (.int 1)) .nil))))))) .nil)) (.asg (.nm 5) (.tup (.cons (.var 4) (.cons (.tup .nil) (.cons (.tup (.cons (.cst (.str "own")) (.cons (.tup (.cons (.tup (.cons (.cst (.int 0)) (.cons (.cst (.int 7)) .nil))) .nil)) .nil))) .nil)))) (.asg (.nm 6) (.tup (.cons (.var 2) (.cons (.tup (.cons (.cst (.int 1)) (.cons (.cst (.int 2)) .nil))) (.cons (.cst (.int 0)) (.cons (.var 3) .nil))))) (.asg (.nm 7) (.call f_worths (.cons (.var 5) (.cons (.cst (.str "g")) (.cons (.var 6) .nil)))) (.asg (.nm 8) (.lst (.cons (.tup (.cons (.cst (.int 0)) (.cons (.cst (.int 1)) .nil))) (.cons (.call f__law_lowest (.cons (.var 2) (.cons (.cst (.int 2)) .nil))) (.cons (.call f__law_lowest (.cons (.pr .sub (.cons (.pr .mul (.cons (.cst (.int 4)) (.cons (.var 2) .nil))) (.cons (.var 3) .nil))) (.cons (.cst (.int 4)) .nil))) (.cons (.call f__law_lowest (.cons (.pr .sub (.cons (.pr .mul (.cons (.cst (.int 12)) (.cons (.var 2) .nil))) (.cons (.pr .mul (.cons (.cst (.int 5)) (.cons (.var 3) .nil))) .nil))) (.cons (.cst (.int 8)) .nil))) .nil))))) (.ife (.pr .ne (.cons (.pr (.slc false true) (.cons (.var 7) (.cons (.cst (.int 4)) .nil))) (.cons (.var 8) .nil))) (.ret (.cst (.bl false))) .done (.asg (.nm 9) (.pr .add (.cons (.cst (.int 1)) (.cons (.call f__law_draw (.cons (.var 0) (.cons (.var 1) (.cons (.cst (.int 9)) .nil)))) .nil))) (.asg (.nm 10) (.tup (.cons (.tup (.cons (.pr .add (.cons (.pr (.slc false true) (.cons (.pr .idx (.cons (.var 4) (.cons (.cst (.int 0)) .nil))) (.cons (.cst (.int 5)) .nil))) (.cons (.tup (.cons (.var 9) .nil)) .nil))) .nil)) (.cons (.tup .nil) (.cons (.tup (.cons (.cst (.str "own")) (.cons (.tup (.cons (.tup (.cons (.cst (.int 0)) (.cons (.cst (.int 7)) .nil))) .nil)) .nil))) .nil)))) (.asg (.nm 11) (.tup (.cons (.var 2) (.cons (.tup (.cons (.cst (.int 1)) (.cons (.cst (.int 1)) .nil))) (.cons (.cst (.int 0)) (.cons (.var 3) .nil))))) (.for_ (.tp (.cons (.nm 12) (.cons (.nm 13) .nil))) .enum (.cons (.call f_worths (.cons (.var 10) (.cons (.cst (.str "g")) (.cons (.var 11) .nil)))) .nil) (.ife (.pr .ne (.cons (.var 13) (.cons (.tup (.cons (.pr .sub (.cons (.pr .mul (.cons (.var 12) (.cons (.var 2) .nil))) (.cons (.pr .mul (.cons (.pr .max2 (.cons (.cst (.int 0)) (.cons (.pr .sub (.cons (.var 12) (.cons (.var 9) .nil))) .nil))) (.cons (.var 3) .nil))) .nil))) (.cons (.cst (.int 1)) .nil))) .nil))) (.ret (.cst (.bl false))) .done .done) (.ife (.pr .ne (.cons (.call f_best_number (.cons (.var 10) (.cons (.cst (.str "g")) (.cons (.var 11) .nil)))) (.cons (.ifx (.pr .gt (.cons (.var 2) (.cons (.var 3) .nil))) (.cst (.int 12)) (.var 9)) .nil))) (.ret (.cst (.bl false))) .done (.ife (.pr .ne (.cons (.call f_turning (.cons (.var 10) (.cons (.cst (.str "g")) (.cons (.var 11) .nil)))) (.cons (.ifx (.pr .lt (.cons (.var 2) (.cons (.var 3) .nil))) (.var 9) (.cst .non)) .nil))) (.ret (.cst (.bl false))) .done (.asg (.nm 14) (.tup (.cons (.var 2) (.cons (.tup (.cons (.cst (.int 1)) (.cons (.cst (.int 1)) .nil))) (.cons (.cst (.int 0)) (.cons (.cst .non) .nil))))) (.for_ (.tp (.cons (.nm 12) (.cons (.nm 13) .nil))) .enum (.cons (.call f_worths (.cons (.var 10) (.cons (.cst (.str "g")) (.cons (.var 14) .nil)))) .nil) (.ife (.pr .ne (.cons (.var 13) (.cons (.tup (.cons (.pr .sub (.cons (.pr .mul (.cons (.var 12) (.cons (.var 2) .nil))) (.cons (.pr .mul (.cons (.pr .max2 (.cons (.cst (.int 0)) (.cons (.pr .sub (.cons (.var 12) (.cons (.var 9) .nil))) .nil))) (.cons (.cst (.int 7)) .nil))) .nil))) (.cons (.cst (.int 1)) .nil))) .nil))) (.ret (.cst (.bl false))) .done .done) (.asg (.nm 15) (.tup (.cons (.pr .idx (.cons (.var 10) (.cons (.cst (.int 0)) .nil))) (.cons (.tup .nil) (.cons (.tup (.cons (.cst (.str "last")) (.cons (.tup (.cons (.tup (.cons (.cst (.int 0)) (.cons (.cst (.int 7)) .nil))) .nil)) .nil))) .nil)))) (.ret (.pr .eq (.cons (.call f_worths (.cons (.var 15) (.cons (.cst (.str "g")) (.cons (.var 11) .nil)))) (.cons (.call f_worths (.cons (.var 10) (.cons (.cst (.str "g")) (.cons (.var 11) .nil)))) .nil)))))))))))))))))))))
end Mx.My

end
section
set_option Elab.async false
set_option linter.all false
/-! Sp0: the evaluator, step by step. -/
namespace Mx.My
open PySem
section
variable (Γ : Tab) (asg : Nat → List Bool)
theorem e_var (i : Nat) (ρ : Env) : (ev Γ asg (.var i)).e ρ = match ρ[i]? with
    | some (.shr d) => .ok (.shr d, ρ)
    | some (.own d) => .ok (.shr d, ρ.set i (.shr d))
    | _ => .bad := rfl
theorem e_cst (d : D) (ρ : Env) : (ev Γ asg (.cst d)).e ρ = .ok (.shr d, ρ) := rfl
theorem e_pr (p : Pr) (args : E) (ρ : Env) : (ev Γ asg (.pr p args)).e ρ = ((ev Γ asg args).o ρ).bind fun x => prE p x.1 x.2 := rfl
theorem t_pr (p : Pr) (args : E) (ρ : Env) : (ev Γ asg (.pr p args)).t ρ = tst (ev Γ asg (.pr p args)).e ρ := rfl
theorem t_cst (d : D) (ρ : Env) : (ev Γ asg (.cst d)).t ρ = tst (ev Γ asg (.cst d)).e ρ := rfl
theorem t_call (f : Nat) (as : E) (ρ : Env) : (ev Γ asg (.call f as)).t ρ = tst (ev Γ asg (.call f as)).e ρ := rfl
theorem t_var (i : Nat) (ρ : Env) : (ev Γ asg (.var i)).t ρ = tst (ev Γ asg (.var i)).e ρ := rfl
theorem t_tv (a : E) (ρ : Env) : (ev Γ asg (.tv a)).t ρ = tst (ev Γ asg a).e ρ := rfl
theorem e_tv (a : E) (ρ : Env) : (ev Γ asg (.tv a)).e ρ = (ev Γ asg a).e ρ := rfl
theorem t_not (a : E) (ρ : Env) : (ev Γ asg (.not a)).t ρ = ((ev Γ asg a).t ρ).bind fun x => .ok (!x.1, x.2) := rfl
theorem e_not (a : E) (ρ : Env) : (ev Γ asg (.not a)).e ρ = (tst (ev Γ asg a).e ρ).bind fun x => .ok (.shr (.bl (!x.1)), x.2) := rfl
theorem t_and (a b : E) (ρ : Env) : (ev Γ asg (.and2 a b)).t ρ = ((ev Γ asg a).t ρ).bind fun x => if x.1 then (ev Γ asg b).t x.2 else .ok (false, x.2) := rfl
theorem e_and (a b : E) (ρ : Env) : (ev Γ asg (.and2 a b)).e ρ = (tst (ev Γ asg a).e ρ).bind fun x => if x.1 then (ev Γ asg b).e x.2 else .ok (.shr (.bl false), x.2) := rfl
theorem t_or (a b : E) (ρ : Env) : (ev Γ asg (.or2 a b)).t ρ = ((ev Γ asg a).t ρ).bind fun x => if x.1 then .ok (true, x.2) else (ev Γ asg b).t x.2 := rfl
theorem e_or (a b : E) (ρ : Env) : (ev Γ asg (.or2 a b)).e ρ = (tst (ev Γ asg a).e ρ).bind fun x => if x.1 then .ok (.shr (.bl true), x.2) else (ev Γ asg b).e x.2 := rfl
theorem e_ifx (c a b : E) (ρ : Env) : (ev Γ asg (.ifx c a b)).e ρ = ((ev Γ asg c).t ρ).bind fun x => if x.1 then (ev Γ asg a).e x.2 else (ev Γ asg b).e x.2 := rfl
theorem e_tup (args : E) (ρ : Env) : (ev Γ asg (.tup args)).e ρ = ((ev Γ asg args).l ρ).bind fun x => if x.1.length < LIM then .ok (.shr (.tup x.1), x.2) else .bad := rfl
theorem e_lst (args : E) (ρ : Env) : (ev Γ asg (.lst args)).e ρ = ((ev Γ asg args).l ρ).bind fun x => if x.1.length < LIM then .ok (.own (.lst x.1), x.2) else .bad := rfl
def callK (f : Nat) (x : List Opd × Env) : R (Sl × Env) := match takeA x.1 x.2 with
    | some (as, ρ1) => (match Γ f (as.map Ar.sl) with
      | .ok v outs => (match backA as outs ρ1 with
        | some ρ2 => .ok (v, ρ2)
        | none => .bad)
      | .exc c outs => (match backA as outs ρ1 with
        | some ρ2 => .exc c ρ2
        | none => .bad)
      | .bad => .bad)
    | none => .bad
theorem e_call (f : Nat) (args : E) (ρ : Env) : (ev Γ asg (.call f args)).e ρ = ((ev Γ asg args).a (asg f) ρ).bind (callK Γ f) := rfl
theorem callK_ok {f : Nat} {os : List Opd} {ρ ρ1 ρ2 : Env} {as : List Ar} {v : Sl} {outs : List Sl} (h1 : takeA os ρ = some (as, ρ1)) (h2 : Γ f (as.map Ar.sl) = .ok v outs) (h3 : backA as outs ρ1 = some ρ2) : callK Γ f (os, ρ) = .ok (v, ρ2) := by
  unfold callK
  dsimp only
  rw [h1]
  dsimp only
  rw [h2]
  dsimp only
  rw [h3]
theorem e_comp (own : List Nat) (t : T) (k : K) (src cnd elt : E) (ρ : Env) : (ev Γ asg (.comp own t k src cnd elt)).e ρ = ((ev Γ asg src).l ρ).bind fun x => match itemsOf k x.1 with
    | some xs => if xs.length < LIM then (compG own t (ev Γ asg cnd).t (ev Γ asg elt).e xs x.2 []).bind fun y => .ok (.own (.lst y.1), unwipe x.2 own y.2) else .bad
    | none => .bad := rfl
theorem e_srt (f : Nat) (src : E) (ρ : Env) : (ev Γ asg (.srt f src)).e ρ = ((ev Γ asg src).l ρ).bind fun x => match x.1 with
    | [.lst xs] => (match (keysBy (fun x => frE (Γ f [.shr x])) xs).bind fun ks => sortBy ks xs with
      | some ys => .ok (.own (.lst ys), x.2)
      | none => .bad)
    | _ => .bad := rfl
theorem e_mut (m : MM) (i : Nat) (args : E) (ρ : Env) : (ev Γ asg (.mut m i args)).e ρ = if mutOk m ρ[i]? then ((ev Γ asg args).l ρ).bind (mutK m i) else .bad := rfl
theorem o_nil (ρ : Env) : (ev Γ asg .nil).o ρ = .ok ([], ρ) := rfl
theorem l_nil (ρ : Env) : (ev Γ asg .nil).l ρ = .ok ([], ρ) := rfl
theorem a_nil (ρ : Env) : (ev Γ asg .nil).a [] ρ = .ok ([], ρ) := rfl
theorem o_cons (a r : E) (ρ : Env) : (ev Γ asg (.cons a r)).o ρ = (opd (isVar a) (ev Γ asg a).e ρ).bind fun x => ((ev Γ asg r).o x.2).bind fun y => .ok (x.1 :: y.1, y.2) := rfl
theorem l_cons (a r : E) (ρ : Env) : (ev Γ asg (.cons a r)).l ρ = (kep (ev Γ asg a).e ρ).bind fun x => ((ev Γ asg r).l x.2).bind fun y => .ok (x.1 :: y.1, y.2) := rfl
theorem a_cons (a r : E) (b : Bool) (bs : List Bool) (ρ : Env) : (ev Γ asg (.cons a r)).a (b :: bs) ρ = (arg (isVar a) b (ev Γ asg a).e ρ).bind fun x => ((ev Γ asg r).a bs x.2).bind fun y => .ok (x.1 :: y.1, y.2) := rfl
end
theorem bind_ok {α β : Type} (a : α) (f : α → R β) : (R.ok a).bind f = f a := rfl
theorem bind_exc {α β : Type} (c : Str) (ρ : Env) (f : α → R β) : (R.exc c ρ : R α).bind f = .exc c ρ := rfl
theorem bind_bad {α β : Type} (f : α → R β) : (R.bad : R α).bind f = .bad := rfl
theorem isVar_var (i : Nat) : isVar (.var i) = some i := rfl
theorem isVar_pr (p : Pr) (a : E) : isVar (.pr p a) = none := rfl
theorem isVar_cst (d : D) : isVar (.cst d) = none := rfl
theorem isVar_call (f : Nat) (a : E) : isVar (.call f a) = none := rfl
theorem isVar_tup (a : E) : isVar (.tup a) = none := rfl
theorem isVar_lst (a : E) : isVar (.lst a) = none := rfl
theorem isVar_comp (o : List Nat) (t : T) (k : K) (a b c : E) : isVar (.comp o t k a b c) = none := rfl
theorem isVar_ifx (a b c : E) : isVar (.ifx a b c) = none := rfl
theorem opd_some (i : Nat) (v : Env → R (Sl × Env)) (ρ : Env) : opd (some i) v ρ = (match ρ[i]? with
    | some (.shr d) => .ok (.val d, ρ)
    | some (.own _) => .ok (.bor i, ρ)
    | _ => .bad) := rfl
theorem opd_none (v : Env → R (Sl × Env)) (ρ : Env) : opd none v ρ = (v ρ).bind fun x => match x.1.d? with
    | some d => .ok (.val d, x.2)
    | none => .bad := rfl
theorem kep_eq (v : Env → R (Sl × Env)) (ρ : Env) : kep v ρ = (v ρ).bind fun x => match x.1.d? with
  | some d => .ok (d, x.2)
  | none => .bad := rfl
theorem tst_eq (v : Env → R (Sl × Env)) (ρ : Env) : tst v ρ = (v ρ).bind fun x => match x.1 with
  | .shr (.bl c) => .ok (c, x.2)
  | _ => .bad := rfl
theorem arg_f (x : Option Nat) (v : Env → R (Sl × Env)) (ρ : Env) : arg x false v ρ = opd x v ρ := rfl
theorem arg_t (x : Option Nat) (v : Env → R (Sl × Env)) (ρ : Env) : arg x true v ρ = (kep v ρ).bind fun y => .ok (.val y.1, y.2) := rfl
theorem d_shr (d : D) : (Sl.shr d).d? = some d := rfl
theorem d_own (d : D) : (Sl.own d).d? = some d := rfl
@[irreducible] def prI (p : Pr) (ds : List D) : Option Sl := pr p ds
theorem prI_eq (p : Pr) : prI p = pr p := by funext x; unfold prI; rfl
theorem prE_eq (p : Pr) (os : List Opd) (ρ : Env) : prE p os ρ = match (gets ρ os).bind (prI p) with
  | some s => .ok (s, ρ)
  | none => .bad := by rw [prI_eq]; rfl
theorem get_val (ρ : Env) (d : D) : (Opd.val d).get ρ = some d := rfl
theorem get_bor (ρ : Env) (i : Nat) : (Opd.bor i).get ρ = match ρ[i]? with
    | some (.own d) => some d
    | _ => none := rfl
theorem gets_nil (ρ : Env) : gets ρ [] = some [] := rfl
theorem gets_cons (ρ : Env) (o : Opd) (r : List Opd) : gets ρ (o :: r) = (o.get ρ).bind fun d => (gets ρ r).map (d :: ·) := rfl
theorem take_nil (ρ : Env) : takeA [] ρ = some ([], ρ) := rfl
theorem take_val (d : D) (r : List Opd) (ρ : Env) : takeA (.val d :: r) ρ = (takeA r ρ).map fun x => (.val (.shr d) :: x.1, x.2) := rfl
theorem take_bor (i : Nat) (r : List Opd) (ρ : Env) : takeA (.bor i :: r) ρ = match ρ[i]? with
    | some (.own d) => (takeA r (ρ.set i .non)).map fun x => (.mov i d :: x.1, x.2)
    | some (.shr d) => (takeA r ρ).map fun x => (.val (.shr d) :: x.1, x.2)
    | _ => none := rfl
/-! ### primitives -/
theorem p_ne_int (a b : Int) : prI .ne [.int a, .int b] = okShr (.bl (!(a == b))) := by unfold prI; rfl
theorem p_eq_int (a b : Int) : prI .eq [.int a, .int b] = okShr (.bl (a == b)) := by unfold prI; rfl
theorem p_add (a b : Int) : prI .add [.int a, .int b] = okShr (.int (a + b)) := by unfold prI; rfl
theorem p_sub (a b : Int) : prI .sub [.int a, .int b] = okShr (.int (a - b)) := by unfold prI; rfl
theorem p_abs (a : Int) : prI .abs [.int a] = okShr (.int a.natAbs) := by unfold prI; rfl
theorem p_mul0 (a b : Int) : prI .mul [.int a, .int b] = if a.natAbs < BIG ∧ b.natAbs < BIG then okShr (.int (a * b)) else none := by unfold prI; rfl
theorem p_fdiv0 (a b : Int) : prI .fdiv [.int a, .int b] = if 0 < b ∧ b.natAbs < BIG then okShr (.int (a / b)) else none := by unfold prI; rfl
theorem p_mod0 (a b : Int) : prI .mod [.int a, .int b] = if 0 < b then okShr (.int (a % b)) else none := by unfold prI; rfl
theorem p_idxT (xs : List D) (i : Int) : prI .idx [.tup xs, .int i] = (getAt xs i).bind okShr := by unfold prI; rfl
theorem p_idxL (xs : List D) (i : Int) : prI .idx [.lst xs, .int i] = (getAt xs i).bind okShr := by unfold prI; rfl
theorem p_mul (a b : Int) (ha : a.natAbs < BIG) (hb : b.natAbs < BIG) : prI .mul [.int a, .int b] = okShr (.int (a * b)) := by rw [p_mul0, if_pos ⟨ha, hb⟩]
theorem p_fdiv (a b : Int) (hb : 0 < b) (hc : b.natAbs < BIG) : prI .fdiv [.int a, .int b] = okShr (.int (a / b)) := by rw [p_fdiv0, if_pos ⟨hb, hc⟩]
theorem p_mod (a b : Int) (hb : 0 < b) : prI .mod [.int a, .int b] = okShr (.int (a % b)) := by rw [p_mod0, if_pos hb]
theorem p_idx0 (x : D) (xs : List D) : prI .idx [.tup (x :: xs), .int 0] = okShr x := by
  rw [p_idxT]; simp [getAt, atIx]
theorem p_idx1 (x y : D) (xs : List D) : prI .idx [.tup (x :: y :: xs), .int 1] = okShr y := by
  rw [p_idxT]; simp [getAt, atIx]; rw [if_pos (by omega)]; rfl
theorem okShr_eq (d : D) : okShr d = some (.shr d) := rfl
/-! ### blocks -/
section
variable (Γ : Tab) (asg : Nat → List Bool)
theorem c_done (ρ : Env) : evC Γ asg .done ρ = .nx ρ := rfl
theorem c_asg (t : T) (e : E) (k : C) (ρ : Env) : evC Γ asg (.asg t e k) ρ = ofR ((ev Γ asg e).e ρ) fun x => (asgT t x.1 x.2).then (evC Γ asg k) := rfl
theorem c_par (i j : Nat) (a b : E) (k : C) (ρ : Env) : evC Γ asg (.par i j a b k) ρ = ofR ((ev Γ asg (.cons a (.cons b .nil))).l ρ) fun x => match x.1 with
    | [y, z] => if i < x.2.length ∧ j < x.2.length then evC Γ asg k ((x.2.set i (.shr y)).set j (.shr z)) else .bad
    | _ => .bad := rfl
theorem c_exp (e : E) (k : C) (ρ : Env) : evC Γ asg (.exp e k) ρ = ofR ((ev Γ asg e).e ρ) fun x => evC Γ asg k x.2 := rfl
theorem c_retV (i : Nat) (ρ : Env) : evC Γ asg (.ret (.var i)) ρ = match ρ[i]? with
    | some (.shr d) => .ret (.shr d) ρ
    | some (.own d) => .ret (.own d) (ρ.set i .non)
    | _ => .bad := rfl
theorem c_ret (e : E) (h : isVar e = none) (ρ : Env) : evC Γ asg (.ret e) ρ = ofR ((ev Γ asg e).e ρ) fun x => .ret x.1 x.2 := by
  cases e <;> first | rfl | cases h
theorem c_ife (c : E) (a b k : C) (ρ : Env) : evC Γ asg (.ife c a b k) ρ = ofR ((ev Γ asg c).t ρ) fun x => (if x.1 then evC Γ asg a x.2 else evC Γ asg b x.2).then (evC Γ asg k) := rfl
theorem c_for (t : T) (kd : K) (src : E) (body k : C) (ρ : Env) : evC Γ asg (.for_ t kd src body k) ρ = ofR ((ev Γ asg src).l ρ) fun x => match itemsOf kd x.1 with
    | some xs => (forG t (evC Γ asg body) xs x.2).then (evC Γ asg k)
    | none => .bad := rfl
theorem c_whl (c : E) (body k : C) (ρ : Env) : evC Γ asg (.whl c body k) ρ = (whlG (ev Γ asg c).t (evC Γ asg body) FUEL ρ).then (evC Γ asg k) := rfl
theorem c_rse (c : Str) (ρ : Env) : evC Γ asg (.rse c) ρ = .exc c ρ := rfl
end
theorem ofR_ok {α : Type} (a : α) (f : α → O) : ofR (.ok a) f = f a := rfl
theorem ofR_exc {α : Type} (c : Str) (ρ : Env) (f : α → O) : ofR (.exc c ρ : R α) f = .exc c ρ := rfl
theorem then_nx (ρ : Env) (f : Env → O) : (O.nx ρ).then f = f ρ := rfl
theorem then_ret (v : Sl) (ρ : Env) (f : Env → O) : (O.ret v ρ).then f = .ret v ρ := rfl
theorem then_exc (c : Str) (ρ : Env) (f : Env → O) : (O.exc c ρ).then f = .exc c ρ := rfl
theorem asgT_nm (i : Nat) (s : Sl) (ρ : Env) (h : i < ρ.length) : asgT (.nm i) s ρ = .nx (ρ.set i s) := if_pos h
theorem whl_step {fc : Env → R (Bool × Env)} {fb : Env → O} {n : Nat} {ρ ρ1 ρ2 : Env} (h1 : fc ρ = .ok (true, ρ1)) (h2 : fb ρ1 = .nx ρ2) : whlG fc fb (n + 1) ρ = whlG fc fb n ρ2 := by
  simp only [whlG, h1, ofR, h2, O.then, if_true]
theorem whl_end {fc : Env → R (Bool × Env)} {fb : Env → O} {n : Nat} {ρ ρ1 : Env} (h1 : fc ρ = .ok (false, ρ1)) : whlG fc fb (n + 1) ρ = .nx ρ1 := by
  simp [whlG, h1, ofR]
theorem fin_nx (as : List Sl) (ρ : Env) : finish as (.nx ρ) = match outsOf as ρ with
    | some os => .ok (.shr .non) os
    | none => .bad := rfl
theorem fin_ret (as : List Sl) (v : Sl) (ρ : Env) : finish as (.ret v ρ) = match outsOf as ρ with
    | some os => .ok v os
    | none => .bad := rfl
theorem outs_nil (ρ : Env) : outsOf [] ρ = some [] := by cases ρ <;> rfl
theorem outs_shr (d : D) (r : List Sl) (s : Sl) (ρ : Env) : outsOf (.shr d :: r) (s :: ρ) = (outsOf r ρ).map (.non :: ·) := by
  cases s <;> rfl
theorem asgT_n (i : Nat) (s : Sl) (ρ : Env) : asgT (.nm i) s ρ = if i < ρ.length then .nx (ρ.set i s) else .bad := rfl
theorem asgT_t (ts : T) (s : Sl) (ρ : Env) : asgT (.tp ts) s ρ = match s.d? with
    | some d => (match setT (.tp ts) d ρ with
      | some ρ1 => .nx ρ1
      | none => .bad)
    | none => .bad := rfl
theorem setT_n (i : Nat) (d : D) (ρ : Env) : setT (.nm i) d ρ = if i < ρ.length then some (ρ.set i (.shr d)) else none := rfl
theorem setT_t (ts : T) (ds : List D) (ρ : Env) : setT (.tp ts) (.tup ds) ρ = setT.setTs ts ds ρ := rfl
theorem setTs_n (ρ : Env) : setT.setTs .nil [] ρ = some ρ := rfl
theorem setTs_c (a r : T) (d : D) (ds : List D) (ρ : Env) : setT.setTs (.cons a r) (d :: ds) ρ = (setT a d ρ).bind (setT.setTs r ds) := rfl
theorem callK_eq (Γ : Tab) (f : Nat) (os : List Opd) (ρ : Env) : callK Γ f (os, ρ) = match takeA os ρ with
    | some (as, ρ1) => (match Γ f (as.map Ar.sl) with
      | .ok v outs => (match backA as outs ρ1 with
        | some ρ2 => .ok (v, ρ2)
        | none => .bad)
      | .exc c outs => (match backA as outs ρ1 with
        | some ρ2 => .exc c ρ2
        | none => .bad)
      | .bad => .bad)
    | none => .bad := rfl
theorem c_retP (p : Pr) (a : E) (Γ : Tab) (asg : Nat → List Bool) (ρ : Env) : evC Γ asg (.ret (.pr p a)) ρ = ofR ((ev Γ asg (.pr p a)).e ρ) fun x => .ret x.1 x.2 := rfl
theorem c_retT (a : E) (Γ : Tab) (asg : Nat → List Bool) (ρ : Env) : evC Γ asg (.ret (.tup a)) ρ = ofR ((ev Γ asg (.tup a)).e ρ) fun x => .ret x.1 x.2 := rfl
theorem c_retC (f : Nat) (a : E) (Γ : Tab) (asg : Nat → List Bool) (ρ : Env) : evC Γ asg (.ret (.call f a)) ρ = ofR ((ev Γ asg (.call f a)).e ρ) fun x => .ret x.1 x.2 := rfl
theorem c_retX (o : List Nat) (t : T) (k : K) (a b c : E) (Γ : Tab) (asg : Nat → List Bool) (ρ : Env) : evC Γ asg (.ret (.comp o t k a b c)) ρ = ofR ((ev Γ asg (.comp o t k a b c)).e ρ) fun x => .ret x.1 x.2 := rfl
theorem c_retD (d : D) (Γ : Tab) (asg : Nat → List Bool) (ρ : Env) : evC Γ asg (.ret (.cst d)) ρ = .ret (.shr d) ρ := rfl
theorem c_retA (a b : E) (Γ : Tab) (asg : Nat → List Bool) (ρ : Env) : evC Γ asg (.ret (.and2 a b)) ρ = ofR ((ev Γ asg (.and2 a b)).e ρ) fun x => .ret x.1 x.2 := rfl
theorem c_retI (c a b : E) (Γ : Tab) (asg : Nat → List Bool) (ρ : Env) : evC Γ asg (.ret (.ifx c a b)) ρ = ofR ((ev Γ asg (.ifx c a b)).e ρ) fun x => .ret x.1 x.2 := rfl
theorem lim_pos (n : Nat) (h : n < 1000) : n < LIM := by unfold LIM; omega
theorem lm0 : 0 < LIM := by unfold LIM; decide
theorem lm1 : 1 < LIM := by unfold LIM; decide
theorem lm2 : 2 < LIM := by unfold LIM; decide
theorem lm3 : 3 < LIM := by unfold LIM; decide
theorem lm4 : 4 < LIM := by unfold LIM; decide
theorem lm5 : 5 < LIM := by unfold LIM; decide
theorem lm6 : 6 < LIM := by unfold LIM; decide
theorem lm7 : 7 < LIM := by unfold LIM; decide
theorem lm8 : 8 < LIM := by unfold LIM; decide
theorem lm9 : 9 < LIM := by unfold LIM; decide
theorem lm10 : 10 < LIM := by unfold LIM; decide
theorem lm11 : 11 < LIM := by unfold LIM; decide
theorem lm12 : 12 < LIM := by unfold LIM; decide
theorem lm13 : 13 < LIM := by unfold LIM; decide
theorem lm14 : 14 < LIM := by unfold LIM; decide
theorem lim0 : 0 < LIM := by unfold LIM; decide
theorem lim1 : 0 + 1 < LIM := by unfold LIM; decide
theorem lim2 : 0 + 1 + 1 < LIM := by unfold LIM; decide
theorem lim3 : 0 + 1 + 1 + 1 < LIM := by unfold LIM; decide
theorem ite_t {α : Type} (p : Prop) [Decidable p] (h : p) (a b : α) : (if p then a else b) = a := if_pos h
end Mx.My

end
section
set_option Elab.async false
set_option linter.all false
/-! Sp1: what the functions about portions tell. -/
namespace Mx.My
local macro_rules
  | `(tactic| wide_open with [$ts,*]) => `(tactic| simp only [e_var, e_cst, e_pr, t_pr, t_cst, t_var, t_call, t_tv, e_tv, t_not, e_not, t_and, e_and, t_or, e_or, e_ifx, e_tup, e_lst, e_call, o_nil, l_nil, a_nil, o_cons, l_cons, a_cons, bind_ok, bind_exc, bind_bad, isVar_var, isVar_pr, isVar_cst, isVar_call, isVar_tup, isVar_lst, isVar_comp, isVar_ifx, opd_some, opd_none, kep_eq, tst_eq, arg_f, arg_t, d_shr, d_own, prE_eq, get_val, get_bor, gets_nil, gets_cons, p_ne_int, p_eq_int, p_add, p_sub, p_abs, p_idx0, p_idx1, okShr_eq, c_done, c_asg, c_par, c_exp, c_retV, c_ife, ofR_ok, ofR_exc, then_nx, then_ret, then_exc, take_nil, take_val, List.getElem?_cons_zero, List.getElem?_cons_succ, List.set_cons_zero, List.set_cons_succ, List.length_cons, List.length_nil, Option.bind_some, Option.map_some, List.map_cons, List.map_nil, Ar.sl, List.replicate, List.cons_append, List.nil_append, backA, outs_nil, outs_shr, fin_nx, fin_ret, asgT_n, asgT_t, setT_n, setT_t, setTs_n, setTs_c, callK_eq, c_retP, c_retT, c_retC, c_retX, c_retD, c_retA, c_retI, Nat.reduceAdd, Nat.reduceLT, reduceIte, and_self, Nat.reduceSub, lm0, lm1, lm2, lm3, lm4, lm5, lm6, lm7, lm8, lm9, lm10, lm11, lm12, lm13, lm14, if_true, Nat.lt_add_one, Nat.zero_lt_succ, $[$ts:term],*])
open PySem

def isF (fs : List Fd) (i np ns : Nat) (asg : List Bool) (c : C) : Prop := ∃ nm, fs[i]? = some ⟨nm, np, ns, asg, c⟩
theorem isF.tab {fs i np ns asg c} (h : isF fs i np ns asg c) (n : Nat) (as : List Sl) (ρ : Env) (hρ : as ++ List.replicate (ns - as.length) .non = ρ) (h1 : as.length = np) (h2 : np ≤ ns) (h3 : okAr asg as = true) : tabAt fs (n + 1) i as = finish as (evC (tabAt fs n) (asgOf fs) c ρ) := by
  subst hρ
  obtain ⟨nm, h⟩ := h
  simp only [tabAt, h, startE]
  rw [if_pos ⟨h1, h2, h3⟩]
theorem isF.asg {fs i np ns asg c} (h : isF fs i np ns asg c) : asgOf fs i = asg := by
  obtain ⟨nm, h⟩ := h
  simp [asgOf, h]

theorem fuel_big : BIG < FUEL := by unfold BIG FUEL; exact Nat.pow_lt_pow_right (by decide) (by decide)

/-! ### common -/
theorem common_loop (Γ : Tab) (asg) (b : Nat) : ∀ (a : Nat) (m : Nat), b < m →
    whlG (ev Γ asg (.pr .ne (.cons (.var 1) (.cons (.cst (.int 0)) .nil)))).t (evC Γ asg (.par 0 1 (.var 1) (.pr .mod (.cons (.var 0) (.cons (.var 1) .nil))) .done)) m [.shr (.int a), .shr (.int b)] = .nx [.shr (.int (Nat.gcd a b)), .shr (.int 0)] := by
  induction b using Nat.strongRecOn with
  | _ b ih =>
    intro a m hm
    obtain ⟨m, rfl⟩ : ∃ k, m = k + 1 := ⟨m - 1, by omega⟩
    by_cases hb : b = 0
    · subst hb
      rw [whl_end (ρ1 := [.shr (.int a), .shr (.int (0 : Nat))])]
      · rw [Nat.gcd_zero_right]; rfl
      · wide_open with [and_self]
        rfl
    · have hb' : 0 < (b : Int) := by omega
      have hb2 : ((b : Int) == 0) = false := by simp; omega
      have hlt := Nat.mod_lt a (by omega : b > 0)
      have := ih (a % b) hlt b m (by omega)
      rw [show Nat.gcd a b = Nat.gcd b (a % b) by rw [Nat.gcd_comm a b, Nat.gcd_rec b a, Nat.gcd_comm]]
      rw [whl_step (ρ1 := [.shr (.int a), .shr (.int b)]) (ρ2 := [.shr (.int b), .shr (.int (a % b : Nat))])]
      · exact this
      · wide_open with [hb2]
        rfl
      · wide_open with [p_mod _ _ hb']
        rfl
theorem common_spec {fs : List Fd} {i : Nat} (h : isF fs i 2 2 [true, true] c_common) (n a b : Nat) (hb : b < BIG) : tabAt fs (n + 1) i [.shr (.int a), .shr (.int b)] = .ok (.shr (.int (Nat.gcd a b))) [.non, .non] := by
  rw [h.tab n _ [.shr (.int a), .shr (.int b)] rfl rfl (by decide) rfl]
  have := common_loop (tabAt fs n) (asgOf fs) b a FUEL (Nat.lt_trans hb fuel_big)
  simp only [c_common, c_whl]
  rw [this]
  wide_open with [and_self]

/-- a share as the program writes it -/
def qd (q : Rat) : D := .tup [.int q.num, .int q.den]
theorem gcd_pos' (t : Int) (b : Nat) (hb : 0 < b) : 0 < Nat.gcd t.natAbs b := Nat.gcd_pos_of_pos_right _ hb
theorem mkRat_num' (t : Int) (b : Nat) (hb : 0 < b) : (mkRat t b).num = t / (Nat.gcd t.natAbs b : Nat) := by
  rw [Rat.num_mkRat, if_neg (by omega), Nat.gcd_comm]
theorem mkRat_den' (t : Int) (b : Nat) (hb : 0 < b) : ((mkRat t b).den : Int) = (b : Int) / (Nat.gcd t.natAbs b : Nat) := by
  rw [Rat.den_mkRat, if_neg (by omega), Nat.gcd_comm]
  rfl
theorem share_spec {fs : List Fd} {i ic : Nat} (hc : isF fs ic 2 2 [true, true] c_common) (h : isF fs i 2 3 [false, false] (c_share ic)) (n : Nat) (t : Int) (b : Nat) (hb : 0 < b) (hb2 : b < BIG) : tabAt fs (n + 2) i [.shr (.int t), .shr (.int b)] = .ok (.shr (qd (mkRat t b))) [.non, .non] := by
  rw [h.tab (n + 1) _ [.shr (.int t), .shr (.int b), .non] rfl rfl (by decide) rfl]
  have hg := gcd_pos' t b hb
  have hle : Nat.gcd t.natAbs b ≤ b := Nat.gcd_le_right _ hb
  have hg1 : (0 : Int) < (Nat.gcd t.natAbs b : Nat) := by omega
  have hg2 : ((Nat.gcd t.natAbs b : Nat) : Int).natAbs < BIG := by rw [Int.natAbs_natCast]; omega
  have hs := common_spec hc n t.natAbs b hb2
  unfold c_share
  wide_open with [hc.asg, hs, p_fdiv _ _ hg1 hg2]
  simp only [qd, mkRat_num' t b hb, mkRat_den' t b hb]

/-! ### small ones -/
@[irreducible] def TINY : Nat := 2 ^ 1900
structure Tiny (q : Rat) : Prop where
  n : q.num.natAbs < TINY
  d : q.den < TINY
theorem tiny_big : TINY < BIG := by unfold TINY BIG; exact Nat.pow_lt_pow_right (by decide) (by decide)
theorem tiny_mul : TINY * TINY < BIG := by unfold TINY BIG; rw [← Nat.pow_add]; exact Nat.pow_lt_pow_right (by decide) (by decide)
/-- a whole number of D-ths -/
def Fine (D B : Nat) (q : Rat) : Prop := ∃ m : Int, q = mkRat m D ∧ m.natAbs ≤ B
theorem Fine.tiny {D B : Nat} {q : Rat} (h : Fine D B q) (hD : 0 < D) (h1 : D < TINY) (h2 : B < TINY) : Tiny q := by
  obtain ⟨m, rfl, hm⟩ := h
  constructor
  · rw [mkRat_num' m D hD]
    have := Int.natAbs_ediv_le_natAbs m (Nat.gcd m.natAbs D : Nat)
    omega
  · have := mkRat_den' m D hD
    have h3 : (D : Int) / (Nat.gcd m.natAbs D : Nat) = ((D / Nat.gcd m.natAbs D : Nat) : Int) := rfl
    have h4 := Nat.div_le_self D (Nat.gcd m.natAbs D)
    omega
theorem Fine.add {D B C : Nat} {a b : Rat} (hD : 0 < D) (ha : Fine D B a) (hb : Fine D C b) : Fine D (B + C) (a + b) := by
  obtain ⟨m, rfl, hm⟩ := ha
  obtain ⟨k, rfl, hk⟩ := hb
  refine ⟨m + k, ?_, by omega⟩
  rw [Rat.mkRat_add_mkRat _ _ (by omega) (by omega), ← Int.add_mul, Rat.mkRat_mul_right (by omega)]
theorem Fine.neg {D B : Nat} {a : Rat} (ha : Fine D B a) : Fine D B (-a) := by
  obtain ⟨m, rfl, hm⟩ := ha
  exact ⟨-m, Rat.neg_mkRat m D, by omega⟩
theorem Fine.sub {D B C : Nat} {a b : Rat} (hD : 0 < D) (ha : Fine D B a) (hb : Fine D C b) : Fine D (B + C) (a - b) := by
  rw [Rat.sub_eq_add_neg]
  exact ha.add hD hb.neg
theorem Fine.mul {D E B C : Nat} {a b : Rat} (ha : Fine D B a) (hb : Fine E C b) : Fine (D * E) (B * C) (a * b) := by
  obtain ⟨m, rfl, hm⟩ := ha
  obtain ⟨k, rfl, hk⟩ := hb
  refine ⟨m * k, Rat.mkRat_mul_mkRat _ _ _ _, ?_⟩
  rw [Int.natAbs_mul]
  exact Nat.mul_le_mul hm hk
theorem Fine.up {D B : Nat} {a : Rat} (k : Nat) (hk : 0 < k) (ha : Fine D B a) : Fine (D * k) (B * k) a := by
  obtain ⟨m, rfl, hm⟩ := ha
  refine ⟨m * k, (Rat.mkRat_mul_right (by omega)).symm, ?_⟩
  rw [Int.natAbs_mul]
  exact Nat.mul_le_mul hm (by rw [Int.natAbs_natCast]; exact Nat.le_refl k)
theorem Fine.le {D B C : Nat} {a : Rat} (h : B ≤ C) (ha : Fine D B a) : Fine D C a := by
  obtain ⟨m, e, hm⟩ := ha
  exact ⟨m, e, Nat.le_trans hm h⟩
theorem Fine.ofInt {D : Nat} (hD : 0 < D) (i : Int) : Fine D (i.natAbs * D) (i : Rat) := by
  refine ⟨i * D, ?_, ?_⟩
  · have := Rat.mkRat_mul_right (n := i) (d := 1) (a := D) (by omega)
    rw [Nat.one_mul] at this
    rw [this]
    exact (Rat.mkRat_self (i : Rat)).symm
  · rw [Int.natAbs_mul]; exact Nat.le_refl _

/-- the functions about portions, where they stand -/
structure HasP (fs : List Fd) where
  common : Nat
  share : Nat
  plus : Nat
  minus : Nat
  times : Nat
  total : Nat
  rest : Nat
  counted : Nat
  hcommon : isF fs common 2 2 [true, true] c_common
  hshare : isF fs share 2 3 [false, false] (c_share common)
  hplus : isF fs plus 2 2 [false, false] (c_plus share)
  hminus : isF fs minus 2 2 [false, false] (c_minus share)
  htimes : isF fs times 2 2 [false, false] (c_times share)
  htotal : isF fs total 1 3 [false] (c_total plus)
  hrest : isF fs rest 1 1 [false] c_rest
  hcounted : isF fs counted 1 7 [false] (c_counted times rest plus)
section
variable {fs : List Fd} (P : HasP fs)
theorem Tiny.nb {q : Rat} (h : Tiny q) : q.num.natAbs < BIG := Nat.lt_trans h.n tiny_big
theorem Tiny.db {q : Rat} (h : Tiny q) : ((q.den : Nat) : Int).natAbs < BIG := by rw [Int.natAbs_natCast]; exact Nat.lt_trans h.d tiny_big
theorem den_mul {a b : Rat} (ha : Tiny a) (hb : Tiny b) : a.den * b.den < BIG := Nat.lt_trans (Nat.mul_lt_mul'' ha.d hb.d) tiny_mul
theorem plus_spec (n : Nat) (a b : Rat) (ha : Tiny a) (hb : Tiny b) : tabAt fs (n + 3) P.plus [.shr (qd a), .shr (qd b)] = .ok (.shr (qd (a + b))) [.non, .non] := by
  rw [P.hplus.tab (n + 2) _ [.shr (qd a), .shr (qd b)] rfl rfl (by decide) rfl]
  have hs := share_spec P.hcommon P.hshare n (a.num * b.den + b.num * a.den) (a.den * b.den) (Nat.mul_pos a.den_pos b.den_pos) (den_mul ha hb)
  rw [Int.natCast_mul] at hs
  rw [Rat.add_def' a b]
  unfold c_plus
  wide_open with [P.hshare.asg, qd, p_mul _ _ ha.nb hb.db, p_mul _ _ hb.nb ha.db, p_mul _ _ ha.db hb.db, hs]
theorem minus_spec (n : Nat) (a b : Rat) (ha : Tiny a) (hb : Tiny b) : tabAt fs (n + 3) P.minus [.shr (qd a), .shr (qd b)] = .ok (.shr (qd (a - b))) [.non, .non] := by
  rw [P.hminus.tab (n + 2) _ [.shr (qd a), .shr (qd b)] rfl rfl (by decide) rfl]
  have hs := share_spec P.hcommon P.hshare n (a.num * b.den - b.num * a.den) (a.den * b.den) (Nat.mul_pos a.den_pos b.den_pos) (den_mul ha hb)
  rw [Int.natCast_mul] at hs
  rw [Rat.sub_def' a b]
  unfold c_minus
  wide_open with [P.hshare.asg, qd, p_mul _ _ ha.nb hb.db, p_mul _ _ hb.nb ha.db, p_mul _ _ ha.db hb.db, hs]
theorem times_spec (n : Nat) (a b : Rat) (ha : Tiny a) (hb : Tiny b) : tabAt fs (n + 3) P.times [.shr (qd a), .shr (qd b)] = .ok (.shr (qd (a * b))) [.non, .non] := by
  rw [P.htimes.tab (n + 2) _ [.shr (qd a), .shr (qd b)] rfl rfl (by decide) rfl]
  have hs := share_spec P.hcommon P.hshare n (a.num * b.num) (a.den * b.den) (Nat.mul_pos a.den_pos b.den_pos) (den_mul ha hb)
  rw [Int.natCast_mul] at hs
  rw [Rat.mul_def' a b]
  unfold c_times
  wide_open with [P.hshare.asg, qd, p_mul _ _ ha.nb hb.nb, p_mul _ _ ha.db hb.db, hs]
theorem rest_spec (n : Nat) (a : Rat) : tabAt fs (n + 1) P.rest [.shr (qd a)] = .ok (.shr (.tup [.int (a.den - a.num), .int a.den])) [.non] := by
  rw [P.hrest.tab n _ [.shr (qd a)] rfl rfl (by decide) rfl]
  unfold c_rest
  wide_open with [qd]
end
end Mx.My

end
section
set_option Elab.async false
set_option linter.all false
/-! Sp2: comprehensions, sums, the count of comers. -/
namespace Mx.My
local macro_rules
  | `(tactic| wide_open with [$ts,*]) => `(tactic| simp only [e_var, e_cst, e_pr, t_pr, t_cst, t_var, t_call, t_tv, e_tv, t_not, e_not, t_and, e_and, t_or, e_or, e_ifx, e_tup, e_lst, e_call, o_nil, l_nil, a_nil, o_cons, l_cons, a_cons, bind_ok, bind_exc, bind_bad, isVar_var, isVar_pr, isVar_cst, isVar_call, isVar_tup, isVar_lst, isVar_comp, isVar_ifx, opd_some, opd_none, kep_eq, tst_eq, arg_f, arg_t, d_shr, d_own, prE_eq, get_val, get_bor, gets_nil, gets_cons, p_ne_int, p_eq_int, p_add, p_sub, p_abs, p_idx0, p_idx1, okShr_eq, c_done, c_asg, c_par, c_exp, c_retV, c_ife, ofR_ok, ofR_exc, then_nx, then_ret, then_exc, take_nil, take_val, List.getElem?_cons_zero, List.getElem?_cons_succ, List.set_cons_zero, List.set_cons_succ, List.length_cons, List.length_nil, Option.bind_some, Option.map_some, List.map_cons, List.map_nil, Ar.sl, List.replicate, List.cons_append, List.nil_append, backA, outs_nil, outs_shr, fin_nx, fin_ret, asgT_n, asgT_t, setT_n, setT_t, setTs_n, setTs_c, callK_eq, c_retP, c_retT, c_retC, c_retX, c_retD, c_retA, c_retI, Nat.reduceAdd, Nat.reduceLT, reduceIte, and_self, Nat.reduceSub, lm0, lm1, lm2, lm3, lm4, lm5, lm6, lm7, lm8, lm9, lm10, lm11, lm12, lm13, lm14, if_true, Nat.lt_add_one, Nat.zero_lt_succ, $[$ts:term],*])
open PySem

theorem wipe_len (own : List Nat) (ρ : Env) : (wipeE ρ own).length = ρ.length := by
  induction own with
  | nil => rfl
  | cons v vs ih => simp [wipeE, ih]
theorem wipe_get (own : List Nat) (ρ : Env) (i : Nat) (h : i ∉ own) : (wipeE ρ own)[i]? = ρ[i]? := by
  induction own with
  | nil => rfl
  | cons v vs ih =>
    simp only [List.mem_cons, not_or] at h
    rw [wipeE, List.getElem?_set_ne (fun e => h.1 e.symm), ih h.2]
theorem unwipe_len (ρ0 : Env) (own : List Nat) (ρ : Env) : (unwipe ρ0 own ρ).length = ρ.length := by
  induction own generalizing ρ with
  | nil => rfl
  | cons v vs ih => simp [unwipe, ih]
theorem unwipe_get_ne (ρ0 : Env) (own : List Nat) (ρ : Env) (i : Nat) (h : i ∉ own) : (unwipe ρ0 own ρ)[i]? = ρ[i]? := by
  induction own generalizing ρ with
  | nil => rfl
  | cons v vs ih =>
    simp only [List.mem_cons, not_or] at h
    rw [unwipe, List.getElem?_set_ne (fun e => h.1 e.symm), ih _ h.2]
theorem unwipe_get (ρ0 : Env) (own : List Nat) (ρ : Env) (hl : ρ.length = ρ0.length) (i : Nat) (h : i ∈ own) : (unwipe ρ0 own ρ)[i]? = ρ0[i]? := by
  induction own generalizing ρ with
  | nil => cases h
  | cons v vs ih =>
    rw [unwipe]
    by_cases hv : v = i
    · subst hv
      by_cases hi : v < ρ0.length
      · rw [List.getElem?_set_self (by rw [unwipe_len]; omega)]
        simp [List.getD, hi]
      · rw [List.getElem?_eq_none (by rw [List.length_set, unwipe_len]; omega), List.getElem?_eq_none (by omega)]
    · rw [List.getElem?_set_ne hv]
      rcases List.mem_cons.mp h with e | e
      · exact absurd e.symm hv
      · exact ih ρ hl e
theorem unwipe_of {ρ0 ρ : Env} {own : List Nat} (h : wipeE ρ own = wipeE ρ0 own) : unwipe ρ0 own ρ = ρ0 := by
  have hl : ρ.length = ρ0.length := by have := congrArg List.length h; rwa [wipe_len, wipe_len] at this
  apply List.ext_getElem?
  intro i
  by_cases hi : i ∈ own
  · exact unwipe_get ρ0 own ρ hl i hi
  · rw [unwipe_get_ne ρ0 own ρ i hi, ← wipe_get own ρ i hi, h, wipe_get own ρ0 i hi]
/-- one turn of a comprehension -/
def Turn (own : List Nat) (t : T) (fc : Env → R (Bool × Env)) (fe : Env → R (Sl × Env)) (W : Env) (x : D) : Option D → Prop
  | none => ∃ ρ1 ρ2, setT t x W = some ρ1 ∧ fc ρ1 = .ok (false, ρ2) ∧ wipeE ρ2 own = W
  | some y => ∃ ρ1 ρ2 s ρ3, setT t x W = some ρ1 ∧ fc ρ1 = .ok (true, ρ2) ∧ fe ρ2 = .ok (s, ρ3) ∧ s.d? = some y ∧ wipeE ρ3 own = W
theorem comp_fm {own : List Nat} {t : T} {fc : Env → R (Bool × Env)} {fe : Env → R (Sl × Env)} {W : Env} {g : D → Option D} (xs : List D) (h : ∀ x ∈ xs, Turn own t fc fe W x (g x)) (ρ : Env) (hρ : wipeE ρ own = W) (acc : List D) : ∃ ρ', compG own t fc fe xs ρ acc = .ok (acc ++ xs.filterMap g, ρ') ∧ wipeE ρ' own = W := by
  induction xs generalizing ρ acc with
  | nil => exact ⟨ρ, by simp [compG], hρ⟩
  | cons x xs ih =>
    have hx := h x (List.mem_cons_self ..)
    have hr := fun y hy => h y (List.mem_cons_of_mem _ hy)
    cases e : g x with
    | none =>
      rw [e] at hx
      obtain ⟨ρ1, ρ2, h1, h2, h3⟩ := hx
      obtain ⟨ρ', e1, e2⟩ := ih hr ρ2 h3 acc
      refine ⟨ρ', ?_, e2⟩
      simp only [compG, hρ, h1, h2, e1, List.filterMap_cons, e]
    | some y =>
      rw [e] at hx
      obtain ⟨ρ1, ρ2, s, ρ3, h1, h2, h3, h4, h5⟩ := hx
      obtain ⟨ρ', e1, e2⟩ := ih hr ρ3 h5 (acc ++ [y])
      refine ⟨ρ', ?_, e2⟩
      simp only [compG, hρ, h1, h2, h3, h4, e1, List.filterMap_cons, e, List.append_assoc, List.singleton_append]
theorem comp_e (Γ : Tab) (asg : Nat → List Bool) {own : List Nat} {t : T} {k : K} {src cnd elt : E} {ρ ρ1 : Env} {ds xs : List D} {g : D → Option D} (h1 : (ev Γ asg src).l ρ = .ok (ds, ρ1)) (h2 : itemsOf k ds = some xs) (h3 : xs.length < LIM) (h : ∀ x ∈ xs, Turn own t (ev Γ asg cnd).t (ev Γ asg elt).e (wipeE ρ1 own) x (g x)) :
    (ev Γ asg (.comp own t k src cnd elt)).e ρ = .ok (.own (.lst (xs.filterMap g)), ρ1) := by
  obtain ⟨ρ', e1, e2⟩ := comp_fm xs h ρ1 rfl []
  rw [e_comp, h1, bind_ok]
  dsimp only
  rw [h2]
  dsimp only
  rw [if_pos h3, e1, bind_ok]
  dsimp only
  rw [unwipe_of e2, List.nil_append]

/-! ### sums -/
theorem qd_zero : qd 0 = .tup [.int 0, .int 1] := rfl
theorem qd_one : qd 1 = .tup [.int 1, .int 1] := rfl
theorem fine_zero (D : Nat) : Fine D 0 0 := ⟨0, (Rat.zero_mkRat _).symm, Nat.le_refl _⟩
section
variable {fs : List Fd} (P : HasP fs)
theorem total_loop (n : Nat) (D B : Nat) (hD : 0 < D) (hT : D < TINY) (x : Sl) (qs : List Rat) : ∀ (s : Rat) (C : Nat) (z : Sl), Fine D C s → (∀ q ∈ qs, Fine D B q) → C + qs.length * B < TINY → ∃ z', forG (.nm 2) (evC (tabAt fs (n + 3)) (asgOf fs) (.asg (.nm 1) (.call P.plus (.cons (.var 1) (.cons (.var 2) .nil))) .done)) (qs.map qd) [x, .shr (qd s), z] = .nx [x, .shr (qd (qs.foldl (· + ·) s)), z'] := by
  induction qs with
  | nil => intro s C z _ _ _; exact ⟨z, rfl⟩
  | cons q qs ih =>
    intro s C z hs hq hb
    have hqf := hq q (List.mem_cons_self ..)
    have hb' : C + B + qs.length * B < TINY := by
      rw [List.length_cons, Nat.add_mul] at hb; omega
    have hBT : B < TINY := by
      have : 0 ≤ qs.length * B := Nat.zero_le _
      omega
    have hCT : C < TINY := by
      have : 0 ≤ qs.length * B := Nat.zero_le _
      omega
    obtain ⟨z', e⟩ := ih (s + q) (C + B) (.shr (qd q)) (hs.add hD hqf) (fun y hy => hq y (List.mem_cons_of_mem _ hy)) hb'
    refine ⟨z', ?_⟩
    rw [List.map_cons, forG]
    wide_open with [and_self]
    have hp := plus_spec P n s q (hs.tiny hD hT hCT) (hqf.tiny hD hT hBT)
    wide_open with [P.hplus.asg, hp, List.foldl_cons]
    exact e
/-- sums of many of one kind -/
def rsum (qs : List Rat) : Rat := qs.foldl (· + ·) 0
theorem total_spec (n : Nat) (D B : Nat) (hD : 0 < D) (hT : D < TINY) (qs : List Rat) (hq : ∀ q ∈ qs, Fine D B q) (hb : qs.length * B < TINY) : tabAt fs (n + 4) P.total [.shr (.lst (qs.map qd))] = .ok (.shr (qd (rsum qs))) [.non] := by
  rw [P.htotal.tab (n + 3) _ [.shr (.lst (qs.map qd)), .non, .non] rfl rfl (by decide) rfl]
  obtain ⟨z', e⟩ := total_loop P n D B hD hT (.shr (.lst (qs.map qd))) qs 0 0 .non (fine_zero D) hq (by omega)
  unfold c_total
  rw [qd_zero] at e
  wide_open with [c_for, itemsOf, e]
  rfl
end
end Mx.My

end
section
set_option Elab.async false
set_option linter.all false
/-! Sp3: the count of comers. -/
namespace Mx.My
local macro_rules
  | `(tactic| wide_open with [$ts,*]) => `(tactic| simp only [e_var, e_cst, e_pr, t_pr, t_cst, t_var, t_call, t_tv, e_tv, t_not, e_not, t_and, e_and, t_or, e_or, e_ifx, e_tup, e_lst, e_call, o_nil, l_nil, a_nil, o_cons, l_cons, a_cons, bind_ok, bind_exc, bind_bad, isVar_var, isVar_pr, isVar_cst, isVar_call, isVar_tup, isVar_lst, isVar_comp, isVar_ifx, opd_some, opd_none, kep_eq, tst_eq, arg_f, arg_t, d_shr, d_own, prE_eq, get_val, get_bor, gets_nil, gets_cons, p_ne_int, p_eq_int, p_add, p_sub, p_abs, p_idx0, p_idx1, okShr_eq, c_done, c_asg, c_par, c_exp, c_retV, c_ife, ofR_ok, ofR_exc, then_nx, then_ret, then_exc, take_nil, take_val, List.getElem?_cons_zero, List.getElem?_cons_succ, List.set_cons_zero, List.set_cons_succ, List.length_cons, List.length_nil, Option.bind_some, Option.map_some, List.map_cons, List.map_nil, Ar.sl, List.replicate, List.cons_append, List.nil_append, backA, outs_nil, outs_shr, fin_nx, fin_ret, asgT_n, asgT_t, setT_n, setT_t, setTs_n, setTs_c, callK_eq, c_retP, c_retT, c_retC, c_retX, c_retD, c_retA, c_retI, Nat.reduceAdd, Nat.reduceLT, reduceIte, and_self, Nat.reduceSub, lm0, lm1, lm2, lm3, lm4, lm5, lm6, lm7, lm8, lm9, lm10, lm11, lm12, lm13, lm14, if_true, Nat.lt_add_one, Nat.zero_lt_succ, $[$ts:term],*])
open PySem
theorem c_setI (Γ : Tab) (asg : Nat → List Bool) (i : Nat) (ix e : E) (k : C) (ρ : Env) : evC Γ asg (.setI i ix e k) ρ = if !ownAt ρ i then .bad else ofR ((ev Γ asg (.cons e (.cons ix .nil))).l ρ) fun x => match x.1 with
    | [v, y] => (match x.2[i]? with
      | some (.own d) => (match setD d y v with
        | some d' => evC Γ asg k (x.2.set i (.own d'))
        | none => .bad)
      | _ => .bad)
    | _ => .bad := rfl
theorem getAt_nat {α : Type} (xs : List α) (i : Nat) (x : α) (h : xs[i]? = some x) : getAt xs (i : Int) = some x := by
  have hi : i < xs.length := by
    rcases Nat.lt_or_ge i xs.length with h1 | h1
    · exact h1
    · rw [List.getElem?_eq_none h1] at h; cases h
  unfold getAt atIx
  rw [if_pos (by omega), if_pos (by omega)]
  simpa using h
theorem setD_nat (xs : List D) (i : Nat) (v : D) (h : i < xs.length) : setD (.lst xs) (.int i) v = some (.lst (xs.set i v)) := by
  show (atIx xs.length (i : Int)).map (fun j => D.lst (xs.set j v)) = _
  unfold atIx
  rw [if_pos (by omega), if_pos (by omega)]
  rfl
theorem get_map {L : List Rat} {i : Nat} (h : i < L.length) : (L.map qd)[i]? = some (qd (L.getD i 0)) := by
  simp [List.getD, h]
/-- each one's share, one place further -/
def addTo (p : Rat) : List Rat → Nat → List Rat → List Rat
  | [], _, L => L
  | x :: f, k, L => addTo p f (k + 1) (L.set (k + 1) (L.getD (k + 1) 0 + x * p))
def cstep (f : List Rat) (p : Rat) : List Rat := addTo p f 0 (f.map (fun x => x * (1 - p)) ++ [0])
def cntR (ps : List Rat) : List Rat := ps.foldl cstep [1]
theorem addTo_len (p : Rat) (f : List Rat) (k : Nat) (L : List Rat) : (addTo p f k L).length = L.length := by
  induction f generalizing k L with
  | nil => rfl
  | cons x f ih => rw [addTo, ih, List.length_set]
theorem cstep_len (f : List Rat) (p : Rat) : (cstep f p).length = f.length + 1 := by
  rw [cstep, addTo_len]; simp
def enumD (k : Nat) (xs : List D) : List D := (xs.zipIdx k).map fun p => .tup [.int (p.2 : Nat), p.1]
theorem enumD_cons (k : Nat) (x : D) (xs : List D) : enumD k (x :: xs) = .tup [.int (k : Nat), x] :: enumD (k + 1) xs := rfl
theorem rest_qd (a : Rat) : D.tup [.int (a.den - a.num), .int a.den] = qd (1 - a) := by
  have h : (1 - a) = ⟨a.den - a.num, a.den, a.den_nz, by
    have := a.reduced
    rw [Nat.Coprime] at this ⊢
    rw [← this]
    have h1 : Int.gcd ((a.den : Int) - a.num) a.den = Int.gcd a.num a.den := by
      rw [Int.gcd_comm, Int.gcd_comm a.num]
      simp
    exact h1⟩ := by
    rw [Rat.sub_def', Rat.mk_eq_mkRat]
    simp
  rw [h]
  rfl
section
variable {fs : List Fd} (P : HasP fs)
theorem cnt_inner (n : Nat) (D B d : Nat) (hd : 0 < D * d) (hD : D * d < TINY) (hB : 2 * (B * d) < TINY) (hD1 : D < TINY) (hB1 : B < TINY) (hd1 : d < TINY) (hD0 : 0 < D) (hd0 : 0 < d) (c s1 : Sl) (p : Rat) (hp : Fine d d p) (f : List Rat) : ∀ (k : Nat) (L : List Rat) (z3 z5 : Sl), k + 1 + f.length = L.length → (∀ x ∈ f, Fine D B x) → (∀ j, Fine (D * d) (if j ≤ k then 2 * (B * d) else B * d) (L.getD j 0)) →
    (∃ z3' z5', forG (.tp (.cons (.nm 5) (.cons (.nm 3) .nil))) (evC (tabAt fs (n + 3)) (asgOf fs) (.setI 4 (.pr .add (.cons (.var 5) (.cons (.cst (.int 1)) .nil))) (.call P.plus (.cons (.pr .idx (.cons (.var 4) (.cons (.pr .add (.cons (.var 5) (.cons (.cst (.int 1)) .nil))) .nil))) (.cons (.call P.times (.cons (.var 3) (.cons (.var 2) .nil))) .nil))) .done)) (enumD k (f.map qd)) [c, s1, .shr (qd p), z3, .own (.lst (L.map qd)), z5, .non] = .nx [c, s1, .shr (qd p), z3', .own (.lst ((addTo p f k L).map qd)), z5', .non]) ∧ (∀ j, Fine (D * d) (2 * (B * d)) ((addTo p f k L).getD j 0)) := by
  induction f with
  | nil =>
    intro k L z3 z5 hl _ hL
    refine ⟨⟨z3, z5, rfl⟩, fun j => ?_⟩
    have := hL j
    split at this
    · exact this
    · exact this.le (by omega)
  | cons x f ih =>
    intro k L z3 z5 hl hf hL
    have hx := hf x (List.mem_cons_self ..)
    have hk : k + 1 < L.length := by rw [List.length_cons] at hl; omega
    have hl1 : k + 1 + 1 + f.length = (L.set (k + 1) (L.getD (k + 1) 0 + x * p)).length := by rw [List.length_set, ← hl, List.length_cons]; omega
    have hLk : Fine (D * d) (B * d) (L.getD (k + 1) 0) := by have := hL (k + 1); rwa [if_neg (by omega)] at this
    have hxp : Fine (D * d) (B * d) (x * p) := hx.mul hp
    have hnew : Fine (D * d) (2 * (B * d)) (L.getD (k + 1) 0 + x * p) := (hLk.add hd hxp).le (by omega)
    have hL1 : ∀ j, Fine (D * d) (if j ≤ k + 1 then 2 * (B * d) else B * d) ((L.set (k + 1) (L.getD (k + 1) 0 + x * p)).getD j 0) := by
      intro j
      by_cases hj : j = k + 1
      · subst hj
        rw [if_pos (Nat.le_refl _), List.getD, List.getElem?_set_self hk]
        exact hnew
      · rw [List.getD, List.getElem?_set_ne (fun e => hj e.symm)]
        have := hL j
        by_cases h1 : j ≤ k
        · rw [if_pos h1] at this; rw [if_pos (by omega)]; exact this
        · rw [if_neg h1] at this; rw [if_neg (by omega)]; exact this
    obtain ⟨⟨z3', z5', e⟩, hfin⟩ := ih (k + 1) _ (.shr (qd x)) (.shr (.int k)) hl1 (fun y hy => hf y (List.mem_cons_of_mem _ hy)) hL1
    refine ⟨⟨z3', z5', ?_⟩, hfin⟩
    have h1 : B * d < TINY := by omega
    have ht := times_spec P n x p (hx.tiny hD0 hD1 hB1) (hp.tiny hd0 hd1 hd1)
    have hpl := plus_spec P n (L.getD (k + 1) 0) (x * p) (hLk.tiny hd hD h1) (hxp.tiny hd hD h1)
    have hg : getAt (L.map qd) ((k : Int) + 1) = some (qd (L.getD (k + 1) 0)) := getAt_nat _ (k + 1) _ (get_map hk)
    have hsd : setD (.lst (L.map qd)) (.int ((k : Int) + 1)) (qd (L.getD (k + 1) 0 + x * p)) = some (.lst ((L.set (k + 1) (L.getD (k + 1) 0 + x * p)).map qd)) := by
      rw [show ((k : Int) + 1) = ((k + 1 : Nat) : Int) by omega, setD_nat _ _ _ (by simpa using hk), List.map_set]
    rw [List.map_cons, enumD_cons, forG]
    wide_open with [c_setI, ownAt, Bool.not_true, P.hplus.asg, P.htimes.asg, ht, p_idxL, hg, hpl, hsd]
    simp only [Bool.false_eq_true, if_false]
    exact e

theorem p_addL (xs ys : List D) : prI .add [.lst xs, .lst ys] = if xs.length + ys.length < LIM then some (.own (.lst (xs ++ ys))) else none := by unfold prI; rfl
theorem fm_qd {f : List Rat} {g : Rat → Rat} {h : D → Option D} (hh : ∀ x ∈ f, h (qd x) = some (qd (g x))) : (f.map qd).filterMap h = (f.map g).map qd := by
  induction f with
  | nil => rfl
  | cons x f ih =>
    rw [List.map_cons, List.filterMap_cons, hh x (List.mem_cons_self ..)]
    dsimp only
    rw [ih (fun y hy => hh y (List.mem_cons_of_mem _ hy))]
    rfl
/-- a share behind its written form -/
def unq : D → Rat
  | .tup [.int a, .int b] => mkRat a b.toNat
  | _ => 0
theorem unq_qd (q : Rat) : unq (qd q) = q := by
  show mkRat q.num ((q.den : Nat) : Int).toNat = q
  rw [Int.toNat_natCast]
  exact Rat.mkRat_self q
def cBody (times plus rest : Nat) : C := (.asg (.nm 4) (.pr .add (.cons (.comp [6, 3] (.nm 3) .val (.cons (.var 1) .nil) (.cst (.bl true)) (.call times (.cons (.var 3) (.cons (.call rest (.cons (.var 2) .nil)) .nil)))) (.cons (.lst (.cons (.tup (.cons (.cst (.int 0)) (.cons (.cst (.int 1)) .nil))) .nil)) .nil))) (.for_ (.tp (.cons (.nm 5) (.cons (.nm 3) .nil))) .enum (.cons (.var 1) .nil) (.setI 4 (.pr .add (.cons (.var 5) (.cons (.cst (.int 1)) .nil))) (.call plus (.cons (.pr .idx (.cons (.var 4) (.cons (.pr .add (.cons (.var 5) (.cons (.cst (.int 1)) .nil))) .nil))) (.cons (.call times (.cons (.var 3) (.cons (.var 2) .nil))) .nil))) .done) (.asg (.nm 1) (.var 4) .done)))
theorem cnt_turn (n : Nat) (D B d : Nat) (hd : 0 < D * d) (hD : D * d < TINY) (hB : 2 * (B * d) < TINY) (hD1 : D < TINY) (hB1 : B < TINY) (hd1 : d < TINY) (hD0 : 0 < D) (hd0 : 0 < d) (c s1 z3 z4 z5 : Sl) (p : Rat) (hp : Fine d d p) (hq : Fine d d (1 - p)) (f : List Rat) (hs : s1 = .own (.lst (f.map qd)) ∨ s1 = .shr (.lst (f.map qd))) (hf : ∀ x ∈ f, Fine D B x) (hl : f.length < 1000) :
    (∃ z3' z4' z5', evC (tabAt fs (n + 3)) (asgOf fs) (cBody P.times P.plus P.rest) [c, s1, .shr (qd p), z3, z4, z5, .non] = .nx [c, .shr (.lst ((cstep f p).map qd)), .shr (qd p), z3', z4', z5', .non]) ∧ (∀ x ∈ cstep f p, Fine (D * d) (2 * (B * d)) x) := by
  have h1 : B * d < TINY := by omega
  have hB0 : ∀ j, Fine (D * d) (if j ≤ 0 then 2 * (B * d) else B * d) ((f.map (fun x => x * (1 - p)) ++ [0]).getD j 0) := by
    intro j
    have : Fine (D * d) (B * d) ((f.map (fun x => x * (1 - p)) ++ [0]).getD j 0) := by
      rw [List.getD]
      by_cases hj : j < f.length
      · rw [List.getElem?_append_left (by simpa using hj)]
        simp only [List.getElem?_map, List.getElem?_eq_getElem hj, Option.map_some, Option.getD_some]
        exact (hf _ (List.getElem_mem hj)).mul hq
      · by_cases hj2 : j = f.length
        · subst hj2
          rw [List.getElem?_append_right (by simp)]
          simp
          exact (fine_zero _).le (Nat.zero_le _)
        · rw [List.getElem?_eq_none (by simp; omega)]
          exact (fine_zero _).le (Nat.zero_le _)
    split
    · exact this.le (by omega)
    · exact this
  obtain ⟨⟨z3', z5', e⟩, hfin⟩ := cnt_inner P n D B d hd hD hB hD1 hB1 hd1 hD0 hd0 c (.shr (.lst (f.map qd))) p hp f 0 (f.map (fun x => x * (1 - p)) ++ [0]) z3 z5 (by simp; omega) hf hB0
  have hcomp : (ev (tabAt fs (n + 3)) (asgOf fs) (.comp [6, 3] (.nm 3) .val (.cons (.var 1) .nil) (.cst (.bl true)) (.call P.times (.cons (.var 3) (.cons (.call P.rest (.cons (.var 2) .nil)) .nil))))).e [c, s1, .shr (qd p), z3, z4, z5, .non] = .ok (.own (.lst ((f.map qd).filterMap fun y => some (qd (unq y * (1 - p))))), [c, .shr (.lst (f.map qd)), .shr (qd p), z3, z4, z5, .non]) := by
    refine comp_e _ _ (ds := [.lst (f.map qd)]) (xs := f.map qd) (ρ1 := [c, .shr (.lst (f.map qd)), .shr (qd p), z3, z4, z5, .non]) ?_ rfl ?_ ?_
    · rcases hs with rfl | rfl <;> wide_open with [and_self]
    · rw [List.length_map]; exact lim_pos _ hl
    · intro y hy
      obtain ⟨x, hx, rfl⟩ := List.mem_map.mp hy
      have hxf := hf x hx
      have ht := times_spec P n x (1 - p) (hxf.tiny hD0 hD1 hB1) (hq.tiny hd0 hd1 hd1)
      have hr := rest_spec P (n + 2) p
      rw [rest_qd] at hr
      refine ⟨[c, .shr (.lst (f.map qd)), .shr (qd p), .shr (qd x), z4, z5, .non], [c, .shr (.lst (f.map qd)), .shr (qd p), .shr (qd x), z4, z5, .non], .shr (qd (x * (1 - p))), [c, .shr (.lst (f.map qd)), .shr (qd p), .shr (qd x), z4, z5, .non], ?_, ?_, ?_, ?_, ?_⟩
      · simp [setT, wipeE]
      · wide_open with [and_self]
      · wide_open with [P.htimes.asg, P.hrest.asg, hr, ht]
      · rw [unq_qd]; rfl
      · simp [wipeE]
  rw [fm_qd (g := fun x => x * (1 - p)) (fun x _ => by rw [unq_qd])] at hcomp
  constructor
  · refine ⟨z3', .shr (.lst ((cstep f p).map qd)), z5', ?_⟩
    unfold cBody
    have hlen : (List.map qd (List.map (fun x => x * (1 - p)) f)).length + 1 < LIM := by
      rw [List.length_map, List.length_map]; unfold LIM; omega
    have happ : List.map qd (List.map (fun x => x * (1 - p)) f) ++ [Mx.D.tup [.int 0, .int 1]] = (f.map (fun x => x * (1 - p)) ++ [0]).map qd := by rw [List.map_append]; rfl
    have hen : itemsOf .enum [.lst (f.map qd)] = some (enumD 0 (f.map qd)) := rfl
    wide_open with [hcomp, p_addL, c_for, hlen, happ, hen, e]
    rfl
  · intro x hx
    obtain ⟨j, hj, rfl⟩ := List.getElem_of_mem hx
    have := hfin j
    rw [List.getD, show addTo p f 0 (f.map (fun x => x * (1 - p)) ++ [0]) = cstep f p from rfl, List.getElem?_eq_getElem hj] at this
    exact this

theorem cnt_loop (n : Nat) (d : Nat) (hd0 : 0 < d) (c : Sl) (ps : List Rat) : ∀ (D B : Nat) (s1 z2 z3 z4 z5 : Sl) (f : List Rat), 0 < D → D ≤ B → (∀ p ∈ ps, Fine d d p ∧ Fine d d (1 - p)) → (s1 = .own (.lst (f.map qd)) ∨ s1 = .shr (.lst (f.map qd))) → (∀ x ∈ f, Fine D B x) → f.length + ps.length < 1000 → B * (2 * d) ^ ps.length < TINY → d < TINY →
    (∃ s1' z2' z3' z4' z5', forG (.nm 2) (evC (tabAt fs (n + 3)) (asgOf fs) (cBody P.times P.plus P.rest)) (ps.map qd) [c, s1, z2, z3, z4, z5, .non] = .nx [c, s1', z2', z3', z4', z5', .non] ∧ (s1' = .own (.lst ((ps.foldl cstep f).map qd)) ∨ s1' = .shr (.lst ((ps.foldl cstep f).map qd)))) ∧ (∀ x ∈ ps.foldl cstep f, Fine (D * d ^ ps.length) (B * (2 * d) ^ ps.length) x) := by
  induction ps with
  | nil =>
    intro D B s1 z2 z3 z4 z5 f _ _ _ hs hf _ _ _
    exact ⟨⟨s1, z2, z3, z4, z5, rfl, hs⟩, fun x hx => by simpa using hf x hx⟩
  | cons p ps ih =>
    intro D B s1 z2 z3 z4 z5 f hD hDB hp hs hf hl hB hdT
    have h2d : 0 < 2 * d := by omega
    have hpow : 0 < (2 * d) ^ ps.length := Nat.pow_pos h2d
    have hBe : B * (2 * d) ^ (p :: ps).length = B * (2 * d) * (2 * d) ^ ps.length := by
      rw [List.length_cons, Nat.pow_succ, Nat.mul_comm ((2 * d) ^ ps.length), ← Nat.mul_assoc]
    rw [hBe] at hB
    have hB2 : B * (2 * d) < TINY := Nat.lt_of_le_of_lt (Nat.le_mul_of_pos_right _ hpow) hB
    have hBB : B * (2 * d) = 2 * (B * d) := by rw [Nat.mul_left_comm]
    have hB0 : B ≤ B * d := Nat.le_mul_of_pos_right _ hd0
    have hDd : D * d ≤ B * d := Nat.mul_le_mul_right _ hDB
    have hDd0 : 0 < D * d := Nat.mul_pos hD hd0
    have hDD : D ≤ D * d := Nat.le_mul_of_pos_right _ hd0
    obtain ⟨h1, h2⟩ := cnt_turn P n D B d hDd0 (by omega) (by omega) (by omega) (by omega) hdT hD hd0 c s1 z3 z4 z5 p (hp p (List.mem_cons_self ..)).1 (hp p (List.mem_cons_self ..)).2 f hs hf (by omega)
    obtain ⟨y3, y4, y5, e⟩ := h1
    rw [List.length_cons] at hl
    have hB3 : 2 * (B * d) * (2 * d) ^ ps.length < TINY := by rw [← hBB]; exact hB
    obtain ⟨⟨s1', w2, w3, w4, w5, e2, hs2⟩, h3⟩ := ih (D * d) (2 * (B * d)) (.shr (.lst ((cstep f p).map qd))) (.shr (qd p)) y3 y4 y5 (cstep f p) hDd0 (by omega) (fun y hy => hp y (List.mem_cons_of_mem _ hy)) (.inr rfl) h2 (by rw [cstep_len]; omega) hB3 hdT
    refine ⟨⟨s1', w2, w3, w4, w5, ?_, hs2⟩, ?_⟩
    · rw [List.map_cons, forG]
      wide_open with [e, e2]
    · intro x hx
      have := h3 x hx
      rw [List.length_cons, Nat.pow_succ, Nat.pow_succ, Nat.mul_comm (d ^ ps.length), ← Nat.mul_assoc, Nat.mul_comm ((2 * d) ^ ps.length), ← Nat.mul_assoc, hBB]
      exact this
theorem counted_spec (n : Nat) (d : Nat) (hd0 : 0 < d) (ps : List Rat) (hp : ∀ p ∈ ps, Fine d d p ∧ Fine d d (1 - p)) (hl : ps.length < 900) (hB : (2 * d) ^ ps.length < TINY) (hdT : d < TINY) :
    (∃ s, (s = Sl.own (.lst ((cntR ps).map qd)) ∨ s = .shr (.lst ((cntR ps).map qd))) ∧ tabAt fs (n + 4) P.counted [.shr (.lst (ps.map qd))] = .ok s [.non]) ∧ (∀ x ∈ cntR ps, Fine (d ^ ps.length) ((2 * d) ^ ps.length) x) := by
  have h1 : Fine 1 1 (1 : Rat) := ⟨1, (Rat.mkRat_self 1).symm, by decide⟩
  obtain ⟨⟨s1', z2, z3, z4, z5, e, hs⟩, hf⟩ := cnt_loop P n d hd0 (.shr (.lst (ps.map qd))) ps 1 1 (.own (.lst ([1].map qd))) .non .non .non .non [1] (by omega) (by omega) hp (.inl rfl) (by intro x hx; rw [List.mem_singleton.mp hx]; exact h1) (by simp; omega) (by omega) hdT
  rw [Nat.one_mul] at hf
  refine ⟨?_, fun x hx => by have := hf x hx; rwa [Nat.one_mul] at this⟩
  refine ⟨s1', hs, ?_⟩
  rw [P.hcounted.tab (n + 3) _ [.shr (.lst (ps.map qd)), .non, .non, .non, .non, .non, .non] rfl rfl (by decide) rfl]
  unfold c_counted
  have e' := e
  unfold cBody at e'
  rw [List.map_cons, List.map_nil, qd_one] at e'
  wide_open with [c_for, itemsOf, e']
  rcases hs with rfl | rfl <;> wide_open with [and_self]
end
end Mx.My

end
section
set_option Elab.async false
set_option linter.all false
/-! Sp4: shares of staying. -/
namespace Mx.My
local macro_rules
  | `(tactic| wide_open with [$ts,*]) => `(tactic| simp only [e_var, e_cst, e_pr, t_pr, t_cst, t_var, t_call, t_tv, e_tv, t_not, e_not, t_and, e_and, t_or, e_or, e_ifx, e_tup, e_lst, e_call, o_nil, l_nil, a_nil, o_cons, l_cons, a_cons, bind_ok, bind_exc, bind_bad, isVar_var, isVar_pr, isVar_cst, isVar_call, isVar_tup, isVar_lst, isVar_comp, isVar_ifx, opd_some, opd_none, kep_eq, tst_eq, arg_f, arg_t, d_shr, d_own, prE_eq, get_val, get_bor, gets_nil, gets_cons, p_ne_int, p_eq_int, p_add, p_sub, p_abs, p_idx0, p_idx1, okShr_eq, c_done, c_asg, c_par, c_exp, c_retV, c_ife, ofR_ok, ofR_exc, then_nx, then_ret, then_exc, take_nil, take_val, List.getElem?_cons_zero, List.getElem?_cons_succ, List.set_cons_zero, List.set_cons_succ, List.length_cons, List.length_nil, Option.bind_some, Option.map_some, List.map_cons, List.map_nil, Ar.sl, List.replicate, List.cons_append, List.nil_append, backA, outs_nil, outs_shr, fin_nx, fin_ret, asgT_n, asgT_t, setT_n, setT_t, setTs_n, setTs_c, callK_eq, c_retP, c_retT, c_retC, c_retX, c_retD, c_retA, c_retI, Nat.reduceAdd, Nat.reduceLT, reduceIte, and_self, Nat.reduceSub, lm0, lm1, lm2, lm3, lm4, lm5, lm6, lm7, lm8, lm9, lm10, lm11, lm12, lm13, lm14, if_true, Nat.lt_add_one, Nat.zero_lt_succ, $[$ts:term],*])
open PySem
theorem cutIx_nat (n d i : Nat) : cutIx n d (some (i : Int)) = min i n := by
  show (if (i : Int) < 0 then ((i : Int) + (n : Int)).toNat else min (i : Int).toNat n) = _
  rw [if_neg (by omega)]
  rfl
theorem cut_drop {α : Type} (xs : List α) (i : Nat) : cut xs (some (i : Int)) none = xs.drop i := by
  unfold cut
  rw [cutIx_nat]
  show List.take (xs.length - min i xs.length) (xs.drop (min i xs.length)) = _
  rcases Nat.le_total i xs.length with h | h
  · rw [Nat.min_eq_left h, List.take_of_length_le (by rw [List.length_drop]; omega)]
  · rw [Nat.min_eq_right h, List.drop_of_length_le (Nat.le_refl _), List.drop_of_length_le h, List.take_nil]
theorem p_slcL (xs : List D) (i : Nat) : prI (.slc true false) [.lst xs, .int i] = some (.own (.lst (xs.drop i))) := by
  rw [← cut_drop]
  unfold prI
  rfl
theorem rsum_fine' {D B : Nat} (hD : 0 < D) (qs : List Rat) : ∀ (s : Rat) (C : Nat), Fine D C s → (∀ q ∈ qs, Fine D B q) → Fine D (C + qs.length * B) (qs.foldl (· + ·) s) := by
  induction qs with
  | nil => intro s C hs _; simpa using hs
  | cons q qs ih =>
    intro s C hs hq
    have := ih (s + q) (C + B) (hs.add hD (hq q (List.mem_cons_self ..))) (fun y hy => hq y (List.mem_cons_of_mem _ hy))
    rw [List.length_cons, Nat.add_mul, Nat.one_mul]
    rw [List.foldl_cons]
    exact this.le (by omega)
theorem rsum_fine {D B : Nat} (hD : 0 < D) {qs : List Rat} (h : ∀ q ∈ qs, Fine D B q) : Fine D (qs.length * B) (rsum qs) := by
  have := rsum_fine' hD qs 0 0 (fine_zero D) h
  rw [Nat.zero_add] at this
  exact this
/-- a booking -/
structure Bk where
  name : Str
  going : Str
  fare : Int
  ch : Rat
  miss : Int
  ask : Option Int
def askD : Option Int → D
  | none => .non
  | some a => .int a
def bkD (b : Bk) : D := .tup [.str b.name, .str b.going, .int b.fare, qd b.ch, .int b.miss, askD b.ask]
theorem p_idx3 (a b c x : D) (xs : List D) : prI .idx [.tup (a :: b :: c :: x :: xs), .int 3] = okShr x := by
  rw [p_idxT, show (3 : Int) = ((3 : Nat) : Int) from rfl, getAt_nat _ 3 x rfl]; rfl
theorem p_idx2 (a b x : D) (xs : List D) : prI .idx [.tup (a :: b :: x :: xs), .int 2] = okShr x := by
  rw [p_idxT, show (2 : Int) = ((2 : Nat) : Int) from rfl, getAt_nat _ 2 x rfl]; rfl
theorem p_idx5 (a b c e f x : D) (xs : List D) : prI .idx [.tup (a :: b :: c :: e :: f :: x :: xs), .int 5] = okShr x := by
  rw [p_idxT, show (5 : Int) = ((5 : Nat) : Int) from rfl, getAt_nat _ 5 x rfl]; rfl
theorem cntR_len (ps : List Rat) : (cntR ps).length = ps.length + 1 := by
  have : ∀ (ps f : List Rat), (ps.foldl cstep f).length = f.length + ps.length := by
    intro ps
    induction ps with
    | nil => intro f; rfl
    | cons p ps ih => intro f; rw [List.foldl_cons, ih, cstep_len, List.length_cons]; omega
  rw [cntR, this]; simp; omega
/-- the share that it comes and stays, when so many others are behind -/
def partR (b : Bk) (later : List Bk) (seats : Nat) : Rat := b.ch * rsum ((cntR (later.map (·.ch))).drop seats)
def staysR (seats : Nat) : List Bk → List (Bk × Rat)
  | [] => []
  | b :: r => (b, partR b r seats) :: staysR seats r
def rowD (p : Bk × Rat) : D := .tup [bkD p.1, qd p.2]
/-- chances of which d is a common lower number -/
def Ch (d : Nat) (b : Bk) : Prop := Fine d d b.ch ∧ Fine d d (1 - b.ch)
theorem part_fine {d M : Nat} (hd : 0 < d) (b : Bk) (later : List Bk) (seats : Nat) (hb : Ch d b) (hc : ∀ x ∈ cntR (later.map (·.ch)), Fine (d ^ later.length) ((2 * d) ^ later.length) x) (hM : later.length + 1 ≤ M) : Fine (d ^ M) (M * (2 * d) ^ M) (partR b later seats) := by
  have h1 : Fine (d ^ later.length) ((later.length + 1) * (2 * d) ^ later.length) (rsum ((cntR (later.map (·.ch))).drop seats)) := by
    have := rsum_fine (Nat.pow_pos hd) (qs := (cntR (later.map (·.ch))).drop seats) (fun q hq => hc q (List.mem_of_mem_drop hq))
    refine this.le (Nat.mul_le_mul_right _ ?_)
    rw [List.length_drop, cntR_len, List.length_map]; omega
  have h2 := hb.1.mul h1
  have h3 := h2.up (d ^ (M - (later.length + 1))) (Nat.pow_pos hd)
  have e1 : d * d ^ later.length * d ^ (M - (later.length + 1)) = d ^ M := by
    rw [← Nat.pow_succ', ← Nat.pow_add]; congr 1; omega
  rw [e1] at h3
  refine h3.le ?_
  have e2 : d ≤ 2 * d := by omega
  calc d * ((later.length + 1) * (2 * d) ^ later.length) * d ^ (M - (later.length + 1))
      ≤ (2 * d) * (M * (2 * d) ^ later.length) * (2 * d) ^ (M - (later.length + 1)) := Nat.mul_le_mul (Nat.mul_le_mul e2 (Nat.mul_le_mul_right _ hM)) (Nat.pow_le_pow_left e2 _)
    _ = M * ((2 * d) ^ (later.length + 1) * (2 * d) ^ (M - (later.length + 1))) := by rw [Nat.pow_succ]; simp only [Nat.mul_assoc, Nat.mul_left_comm, Nat.mul_comm]
    _ = M * (2 * d) ^ M := by rw [← Nat.pow_add]; congr 2; omega
end Mx.My

end
section
set_option Elab.async false
set_option linter.all false
/-! Sp5: who stays, and what willing ones are paid by their own asks. -/
namespace Mx.My
local macro_rules
  | `(tactic| wide_open with [$ts,*]) => `(tactic| simp only [e_var, e_cst, e_pr, t_pr, t_cst, t_var, t_call, t_tv, e_tv, t_not, e_not, t_and, e_and, t_or, e_or, e_ifx, e_tup, e_lst, e_call, o_nil, l_nil, a_nil, o_cons, l_cons, a_cons, bind_ok, bind_exc, bind_bad, isVar_var, isVar_pr, isVar_cst, isVar_call, isVar_tup, isVar_lst, isVar_comp, isVar_ifx, opd_some, opd_none, kep_eq, tst_eq, arg_f, arg_t, d_shr, d_own, prE_eq, get_val, get_bor, gets_nil, gets_cons, p_ne_int, p_eq_int, p_add, p_sub, p_abs, p_idx0, p_idx1, okShr_eq, c_done, c_asg, c_par, c_exp, c_retV, c_ife, ofR_ok, ofR_exc, then_nx, then_ret, then_exc, take_nil, take_val, List.getElem?_cons_zero, List.getElem?_cons_succ, List.set_cons_zero, List.set_cons_succ, List.length_cons, List.length_nil, Option.bind_some, Option.map_some, List.map_cons, List.map_nil, Ar.sl, List.replicate, List.cons_append, List.nil_append, backA, outs_nil, outs_shr, fin_nx, fin_ret, asgT_n, asgT_t, setT_n, setT_t, setTs_n, setTs_c, callK_eq, c_retP, c_retT, c_retC, c_retX, c_retD, c_retA, c_retI, Nat.reduceAdd, Nat.reduceLT, reduceIte, and_self, Nat.reduceSub, lm0, lm1, lm2, lm3, lm4, lm5, lm6, lm7, lm8, lm9, lm10, lm11, lm12, lm13, lm14, if_true, Nat.lt_add_one, Nat.zero_lt_succ, $[$ts:term],*])
open PySem
theorem p_bk2 (b : Bk) : prI .idx [bkD b, .int 2] = okShr (.int b.fare) := p_idx2 ..
theorem p_bk3 (b : Bk) : prI .idx [bkD b, .int 3] = okShr (qd b.ch) := p_idx3 ..
theorem p_bk5 (b : Bk) : prI .idx [bkD b, .int 5] = okShr (askD b.ask) := p_idx5 ..
def at3 : D → Option D
  | .tup [_, _, _, c, _, _] => some c
  | _ => none
theorem fm_at3 (r : List Bk) : (r.map bkD).filterMap at3 = (r.map (·.ch)).map qd := by
  induction r with
  | nil => rfl
  | cons b r ih => rw [List.map_cons, List.filterMap_cons]; show qd b.ch :: _ = _; rw [ih]; rfl
theorem p_slc1 (xs : List D) (k : Nat) : prI (.slc true false) [.lst xs, .int ((k : Int) + 1)] = some (.own (.lst (xs.drop (k + 1)))) := p_slcL xs (k + 1)
theorem mutApp {xs : List D} {x : D} (h : xs.length < LIM) : mutD .append (.lst xs) [x] = some (.non, .lst (xs ++ [x])) := if_pos h
structure HasS (fs : List Fd) extends HasP fs where
  staysBy : Nat
  meanOwn : Nat
  hstays : isF fs staysBy 2 8 [false, false] (c_stays_by counted times total)
  hmeanOwn : isF fs meanOwn 2 6 [false, false] (c_mean_own staysBy total times)
/-- all is small enough -/
structure Room (d M : Nat) : Prop where
  d0 : 0 < d
  m : M < 300
  t : M * (M * ((2 * d) ^ M * 1000)) < TINY
theorem Room.t1 {d M k : Nat} (h : Room d M) (hk : k ≤ M) (hM : 0 < M) : (2 * d) ^ k < TINY := by
  have h1 : (2 * d) ^ k ≤ (2 * d) ^ M := Nat.pow_le_pow_right (by have := h.d0; omega) hk
  have h2 : (2 * d) ^ M ≤ M * (M * ((2 * d) ^ M * 1000)) := by
    calc (2 * d) ^ M ≤ (2 * d) ^ M * 1000 := Nat.le_mul_of_pos_right _ (by omega)
      _ ≤ M * ((2 * d) ^ M * 1000) := Nat.le_mul_of_pos_left _ hM
      _ ≤ _ := Nat.le_mul_of_pos_left _ hM
  have := h.t
  omega
theorem Room.dt {d M : Nat} (h : Room d M) (hM : 0 < M) : d < TINY := by
  have := h.t1 (k := 1) hM hM
  rw [Nat.pow_one] at this
  omega
theorem pow_d_le (d k : Nat) : d ^ k ≤ (2 * d) ^ k := Nat.pow_le_pow_left (by omega) k
section
variable {fs : List Fd} (S : HasS fs)
def sBody (S : HasS fs) : C := (.asg (.nm 5) (.call S.counted (.cons (.comp [6, 7] (.nm 7) .val (.cons (.pr (.slc true false) (.cons (.var 0) (.cons (.pr .add (.cons (.var 3) (.cons (.cst (.int 1)) .nil))) .nil))) .nil) (.cst (.bl true)) (.pr .idx (.cons (.var 7) (.cons (.cst (.int 3)) .nil)))) .nil)) (.exp (.mut .append 2 (.cons (.tup (.cons (.var 4) (.cons (.call S.times (.cons (.pr .idx (.cons (.var 4) (.cons (.cst (.int 3)) .nil))) (.cons (.call S.total (.cons (.pr (.slc true false) (.cons (.var 5) (.cons (.var 1) .nil))) .nil)) .nil))) .nil))) .nil)) .done))
theorem stays_turn (n d M : Nat) (hR : Room d M) (all : List Bk) (seats k : Nat) (b : Bk) (r : List Bk) (hk : all.drop k = b :: r) (hb : Ch d b) (hc : ∀ x ∈ r, Ch d x) (hM : r.length + 1 ≤ M) (acc : List D) (ha : acc.length < LIM) (z5 : Sl) :
    ∃ z5', evC (tabAt fs (n + 4)) (asgOf fs) (sBody S) [.shr (.lst (all.map bkD)), .shr (.int seats), .own (.lst acc), .shr (.int k), .shr (bkD b), z5, .non, .non] = .nx [.shr (.lst (all.map bkD)), .shr (.int seats), .own (.lst (acc ++ [rowD (b, partR b r seats)])), .shr (.int k), .shr (bkD b), z5', .non, .non] := by
  have hM0 : 0 < M := by omega
  have hd := hR.d0
  have hdrop : (all.map bkD).drop (k + 1) = r.map bkD := by
    rw [← List.map_drop, ← List.drop_drop, hk]; rfl
  have hcomp : (ev (tabAt fs (n + 4)) (asgOf fs) (.comp [6, 7] (.nm 7) .val (.cons (.pr (.slc true false) (.cons (.var 0) (.cons (.pr .add (.cons (.var 3) (.cons (.cst (.int 1)) .nil))) .nil))) .nil) (.cst (.bl true)) (.pr .idx (.cons (.var 7) (.cons (.cst (.int 3)) .nil))))).e [.shr (.lst (all.map bkD)), .shr (.int seats), .own (.lst acc), .shr (.int k), .shr (bkD b), z5, .non, .non] = .ok (.own (.lst ((r.map bkD).filterMap at3)), [.shr (.lst (all.map bkD)), .shr (.int seats), .own (.lst acc), .shr (.int k), .shr (bkD b), z5, .non, .non]) := by
    refine comp_e _ _ (ds := [.lst (r.map bkD)]) (xs := r.map bkD) (ρ1 := [.shr (.lst (all.map bkD)), .shr (.int seats), .own (.lst acc), .shr (.int k), .shr (bkD b), z5, .non, .non]) ?_ rfl ?_ ?_
    · wide_open with [p_slc1, hdrop]
    · rw [List.length_map]; have := hR.m; exact lim_pos _ (by omega)
    · intro y hy
      obtain ⟨x, hx, rfl⟩ := List.mem_map.mp hy
      refine ⟨[.shr (.lst (all.map bkD)), .shr (.int seats), .own (.lst acc), .shr (.int k), .shr (bkD b), z5, .non, .shr (bkD x)], [.shr (.lst (all.map bkD)), .shr (.int seats), .own (.lst acc), .shr (.int k), .shr (bkD b), z5, .non, .shr (bkD x)], .shr (qd x.ch), [.shr (.lst (all.map bkD)), .shr (.int seats), .own (.lst acc), .shr (.int k), .shr (bkD b), z5, .non, .shr (bkD x)], ?_, ?_, ?_, ?_, ?_⟩
      · simp [setT, wipeE]
      · wide_open with [and_self]
      · wide_open with [bkD, p_idx3]
      · rfl
      · simp [wipeE]
  rw [fm_at3] at hcomp
  obtain ⟨⟨s, hs, hcs⟩, hcf⟩ := counted_spec S.toHasP n d hd (r.map (·.ch)) (by intro p hp; obtain ⟨x, hx, rfl⟩ := List.mem_map.mp hp; exact hc x hx) (by rw [List.length_map]; have := hR.m; omega) (by rw [List.length_map]; exact hR.t1 (by omega) hM0) (hR.dt hM0)
  rw [List.length_map] at hcf
  have hcf' : ∀ x ∈ (cntR (r.map (·.ch))).drop seats, Fine (d ^ r.length) ((2 * d) ^ r.length) x := fun x hx => hcf x (List.mem_of_mem_drop hx)
  have hlen : ((cntR (r.map (·.ch))).drop seats).length ≤ M := by rw [List.length_drop, cntR_len, List.length_map]; omega
  have hbig : ((cntR (r.map (·.ch))).drop seats).length * (2 * d) ^ r.length < TINY := by
    have h1 : ((cntR (r.map (·.ch))).drop seats).length * (2 * d) ^ r.length ≤ M * (2 * d) ^ M := Nat.mul_le_mul hlen (Nat.pow_le_pow_right (by omega) (by omega))
    have h2 : M * (2 * d) ^ M ≤ M * (M * ((2 * d) ^ M * 1000)) := Nat.mul_le_mul_left _ (Nat.le_trans (Nat.le_mul_of_pos_right _ (by omega : 0 < 1000)) (Nat.le_mul_of_pos_left _ hM0))
    have := hR.t
    omega
  have hDt : d ^ r.length < TINY := Nat.lt_of_le_of_lt (pow_d_le d _) (hR.t1 (by omega) hM0)
  have htot := total_spec S.toHasP n (d ^ r.length) ((2 * d) ^ r.length) (Nat.pow_pos hd) hDt ((cntR (r.map (·.ch))).drop seats) hcf' hbig
  have hsumF := rsum_fine (Nat.pow_pos hd) hcf'
  have htimes := times_spec S.toHasP (n + 1) b.ch (rsum ((cntR (r.map (·.ch))).drop seats)) (hb.1.tiny hd (hR.dt hM0) (hR.dt hM0)) (hsumF.tiny (Nat.pow_pos hd) hDt hbig)
  have hmut : mutOk .append (some (Sl.own (.lst acc))) = true := rfl
  refine ⟨s, ?_⟩
  have hdr : ((cntR (r.map (·.ch))).map qd).drop seats = ((cntR (r.map (·.ch))).drop seats).map qd := by rw [List.map_drop]
  unfold sBody
  rcases hs with rfl | rfl <;> wide_open with [hcomp, S.hcounted.asg, S.htimes.asg, S.htotal.asg, hcs, e_mut, hmut, p_bk3, p_slcL, hdr, htot, htimes, mutK, mutApp ha]
  all_goals rfl

theorem stays_loop (n d M : Nat) (hR : Room d M) (all : List Bk) (seats : Nat) (r : List Bk) : ∀ (k : Nat) (acc : List D) (z3 z4 z5 : Sl), all.drop k = r → (∀ x ∈ r, Ch d x) → r.length ≤ M → acc.length + r.length < 1000 →
    ∃ z3' z4' z5', forG (.tp (.cons (.nm 3) (.cons (.nm 4) .nil))) (evC (tabAt fs (n + 4)) (asgOf fs) (sBody S)) (enumD k (r.map bkD)) [.shr (.lst (all.map bkD)), .shr (.int seats), .own (.lst acc), z3, z4, z5, .non, .non] = .nx [.shr (.lst (all.map bkD)), .shr (.int seats), .own (.lst (acc ++ (staysR seats r).map rowD)), z3', z4', z5', .non, .non] := by
  induction r with
  | nil => intro k acc z3 z4 z5 _ _ _ _; exact ⟨z3, z4, z5, by rw [staysR, List.map_nil, List.map_nil, List.append_nil]; rfl⟩
  | cons b r ih =>
    intro k acc z3 z4 z5 hk hc hM ha
    rw [List.length_cons] at hM ha
    have hk1 : all.drop (k + 1) = r := by rw [← List.drop_drop, hk]; rfl
    obtain ⟨y5, e⟩ := stays_turn S n d M hR all seats k b r hk (hc b (List.mem_cons_self ..)) (fun x hx => hc x (List.mem_cons_of_mem _ hx)) hM acc (by unfold LIM; omega) z5
    obtain ⟨w3, w4, w5, e2⟩ := ih (k + 1) (acc ++ [rowD (b, partR b r seats)]) (.shr (.int k)) (.shr (bkD b)) y5 hk1 (fun x hx => hc x (List.mem_cons_of_mem _ hx)) (by omega) (by rw [List.length_append, List.length_singleton]; omega)
    refine ⟨w3, w4, w5, ?_⟩
    rw [List.map_cons, enumD_cons, forG]
    wide_open with [e, e2]
    rw [List.append_assoc]
    rfl
theorem stays_spec (n d M : Nat) (hR : Room d M) (bs : List Bk) (seats : Nat) (hc : ∀ x ∈ bs, Ch d x) (hM : bs.length ≤ M) :
    tabAt fs (n + 5) S.staysBy [.shr (.lst (bs.map bkD)), .shr (.int seats)] = .ok (.own (.lst ((staysR seats bs).map rowD))) [.non, .non] ∧
    tabAt fs (n + 5) S.staysBy [.own (.lst (bs.map bkD)), .shr (.int seats)] = .ok (.own (.lst ((staysR seats bs).map rowD))) [.shr (.lst (bs.map bkD)), .non] := by
  obtain ⟨z3, z4, z5, e⟩ := stays_loop S n d M hR bs seats bs 0 [] .non .non .non rfl hc hM (by have := hR.m; simp; omega)
  have hen : itemsOf .enum [.lst (bs.map bkD)] = some (enumD 0 (bs.map bkD)) := rfl
  rw [List.nil_append] at e
  unfold sBody at e
  constructor
  · rw [S.hstays.tab (n + 4) _ [.shr (.lst (bs.map bkD)), .shr (.int seats), .non, .non, .non, .non, .non, .non] rfl rfl (by decide) rfl]
    unfold c_stays_by
    wide_open with [c_for, hen, e]
  · rw [S.hstays.tab (n + 4) _ [.own (.lst (bs.map bkD)), .shr (.int seats), .non, .non, .non, .non, .non, .non] rfl rfl (by decide) rfl]
    unfold c_stays_by
    wide_open with [c_for, hen, e, outsOf]
end
end Mx.My

end
section
set_option Elab.async false
set_option linter.all false
/-! Sp6: what willing ones are paid by their own asks; signed sums. -/
namespace Mx.My
local macro_rules
  | `(tactic| wide_open with [$ts,*]) => `(tactic| simp only [e_var, e_cst, e_pr, t_pr, t_cst, t_var, t_call, t_tv, e_tv, t_not, e_not, t_and, e_and, t_or, e_or, e_ifx, e_tup, e_lst, e_call, o_nil, l_nil, a_nil, o_cons, l_cons, a_cons, bind_ok, bind_exc, bind_bad, isVar_var, isVar_pr, isVar_cst, isVar_call, isVar_tup, isVar_lst, isVar_comp, isVar_ifx, opd_some, opd_none, kep_eq, tst_eq, arg_f, arg_t, d_shr, d_own, prE_eq, get_val, get_bor, gets_nil, gets_cons, p_ne_int, p_eq_int, p_add, p_sub, p_abs, p_idx0, p_idx1, okShr_eq, c_done, c_asg, c_par, c_exp, c_retV, c_ife, ofR_ok, ofR_exc, then_nx, then_ret, then_exc, take_nil, take_val, List.getElem?_cons_zero, List.getElem?_cons_succ, List.set_cons_zero, List.set_cons_succ, List.length_cons, List.length_nil, Option.bind_some, Option.map_some, List.map_cons, List.map_nil, Ar.sl, List.replicate, List.cons_append, List.nil_append, backA, outs_nil, outs_shr, fin_nx, fin_ret, asgT_n, asgT_t, setT_n, setT_t, setTs_n, setTs_c, callK_eq, c_retP, c_retT, c_retC, c_retX, c_retD, c_retA, c_retI, Nat.reduceAdd, Nat.reduceLT, reduceIte, and_self, Nat.reduceSub, lm0, lm1, lm2, lm3, lm4, lm5, lm6, lm7, lm8, lm9, lm10, lm11, lm12, lm13, lm14, if_true, Nat.lt_add_one, Nat.zero_lt_succ, $[$ts:term],*])
open PySem
section
variable {fs : List Fd} (S : HasS fs)
include S in
theorem stays_fine (d M : Nat) (hR : Room d M) (seats : Nat) (bs : List Bk) (hc : ∀ x ∈ bs, Ch d x) (hM : bs.length ≤ M) : ∀ p ∈ staysR seats bs, Fine (d ^ M) (M * (2 * d) ^ M) p.2 := by
  induction bs with
  | nil => intro p hp; cases hp
  | cons b r ih =>
    rw [List.length_cons] at hM
    intro p hp
    rcases List.mem_cons.mp hp with rfl | hp
    · have hcf := (counted_spec S.toHasP 0 d hR.d0 (r.map (·.ch)) (by intro p hp; obtain ⟨x, hx, rfl⟩ := List.mem_map.mp hp; exact hc x (List.mem_cons_of_mem _ hx)) (by rw [List.length_map]; have := hR.m; omega) (by rw [List.length_map]; exact hR.t1 (by omega) (by omega)) (hR.dt (by omega))).2
      rw [List.length_map] at hcf
      exact part_fine hR.d0 b r seats (hc b (List.mem_cons_self ..)) hcf hM
    · exact ih (fun x hx => hc x (List.mem_cons_of_mem _ hx)) (by omega) p hp
theorem qd_int (a : Int) : qd (a : Rat) = .tup [.int a, .int 1] := rfl
def ownR (p : Bk × Rat) : Option Rat := p.1.ask.map fun a => p.2 * a
def meanOwnR (seats : Nat) (bs : List Bk) : Rat := rsum ((staysR seats bs).filterMap ownR)
def ownD : D → Option D
  | .tup [.tup [_, _, _, _, _, .int a], q] => some (qd (unq q * a))
  | _ => none
theorem ownD_row (p : Bk × Rat) : ownD (rowD p) = (ownR p).map qd := by
  obtain ⟨⟨n, g, f, c, m, a⟩, q⟩ := p
  cases a with
  | none => rfl
  | some a => show some (qd (unq (qd q) * a)) = _; rw [unq_qd]; rfl
theorem fm_rows (rows : List (Bk × Rat)) : (rows.map rowD).filterMap ownD = (rows.filterMap ownR).map qd := by
  rw [List.filterMap_map, List.map_filterMap]
  congr 1
  funext p
  exact ownD_row p
theorem isnt_non (o : Option Int) : prI .isntC [askD o, .non] = okShr (.bl o.isSome) := by
  cases o <;> (unfold prI; rfl)
theorem is_non (o : Option Int) : prI .isC [askD o, .non] = okShr (.bl o.isNone) := by
  cases o <;> (unfold prI; rfl)
/-- asks are no more than a thousand -/
def Low (b : Bk) : Prop := ∀ a, b.ask = some a → a.natAbs ≤ 1000
theorem staysR_mem {seats : Nat} {bs : List Bk} {p : Bk × Rat} (h : p ∈ staysR seats bs) : p.1 ∈ bs := by
  induction bs with
  | nil => cases h
  | cons b r ih =>
    rcases List.mem_cons.mp h with rfl | h
    · exact List.mem_cons_self ..
    · exact List.mem_cons_of_mem _ (ih h)
theorem staysR_len (seats : Nat) (bs : List Bk) : (staysR seats bs).length = bs.length := by
  induction bs with
  | nil => rfl
  | cons b r ih => rw [staysR, List.length_cons, ih, List.length_cons]
theorem fine_int1 (a : Int) (h : a.natAbs ≤ 1000) : Fine 1 1000 (a : Rat) := by
  have := Fine.ofInt (D := 1) (by omega) a
  exact this.le (by omega)
theorem tiny_1000 : 1000 < TINY := by unfold TINY; exact Nat.lt_of_lt_of_le (by decide : 1000 < 2 ^ 10) (Nat.pow_le_pow_right (by decide) (by decide))
include S in
theorem own_fine (d M : Nat) (hR : Room d M) (seats : Nat) (bs : List Bk) (hc : ∀ x ∈ bs, Ch d x) (hl : ∀ x ∈ bs, Low x) (hM : bs.length ≤ M) : ∀ q ∈ (staysR seats bs).filterMap ownR, Fine (d ^ M) (M * (2 * d) ^ M * 1000) q := by
  intro q hq
  obtain ⟨p, hp, e⟩ := List.mem_filterMap.mp hq
  have h1 := stays_fine S d M hR seats bs hc hM p hp
  have h2 := hl p.1 (staysR_mem hp)
  unfold ownR at e
  cases ha : p.1.ask with
  | none => rw [ha] at e; cases e
  | some a =>
    rw [ha] at e
    cases e
    have := h1.mul (fine_int1 a (h2 a ha))
    rwa [Nat.mul_one] at this
theorem meanOwn_spec (n d M : Nat) (hR : Room d M) (bs : List Bk) (seats : Nat) (hc : ∀ x ∈ bs, Ch d x) (hl : ∀ x ∈ bs, Low x) (hM : bs.length ≤ M) (hM0 : 0 < M) :
    tabAt fs (n + 6) S.meanOwn [.shr (.lst (bs.map bkD)), .shr (.int seats)] = .ok (.shr (qd (meanOwnR seats bs))) [.non, .non] := by
  have hd := hR.d0
  have hst := (stays_spec S n d M hR bs seats hc hM).1
  have hpf := stays_fine S d M hR seats bs hc hM
  have hof := own_fine S d M hR seats bs hc hl hM
  have hDt : d ^ M < TINY := Nat.lt_of_le_of_lt (pow_d_le d _) (hR.t1 (Nat.le_refl _) hM0)
  have hMM : M * (2 * d) ^ M < TINY := by
    have h2 : M * (2 * d) ^ M ≤ M * (M * ((2 * d) ^ M * 1000)) := Nat.mul_le_mul_left _ (Nat.le_trans (Nat.le_mul_of_pos_right _ (by omega : 0 < 1000)) (Nat.le_mul_of_pos_left _ hM0))
    have := hR.t
    omega
  have hlen : ((staysR seats bs).filterMap ownR).length ≤ M := Nat.le_trans (List.length_filterMap_le _ _) (by rw [staysR_len]; exact hM)
  have htot := total_spec S.toHasP (n + 1) (d ^ M) (M * (2 * d) ^ M * 1000) (Nat.pow_pos hd) hDt _ hof (by
    have h1 : ((staysR seats bs).filterMap ownR).length * (M * (2 * d) ^ M * 1000) ≤ M * (M * (2 * d) ^ M * 1000) := Nat.mul_le_mul_right _ hlen
    have h2 := hR.t
    rw [Nat.mul_assoc M ((2 * d) ^ M)] at h1 ⊢
    omega)
  rw [S.hmeanOwn.tab (n + 5) _ [.shr (.lst (bs.map bkD)), .shr (.int seats), .non, .non, .non, .non] rfl rfl (by decide) rfl]
  have hcomp : (ev (tabAt fs (n + 5)) (asgOf fs) (.comp [3, 4, 5] (.tp (.cons (.nm 4) (.cons (.nm 5) .nil))) .val (.cons (.var 2) .nil) (.pr .isntC (.cons (.pr .idx (.cons (.var 4) (.cons (.cst (.int 5)) .nil))) (.cons (.cst .non) .nil))) (.call S.times (.cons (.var 5) (.cons (.tup (.cons (.pr .idx (.cons (.var 4) (.cons (.cst (.int 5)) .nil))) (.cons (.cst (.int 1)) .nil))) .nil))))).e [.shr (.lst (bs.map bkD)), .shr (.int seats), .own (.lst ((staysR seats bs).map rowD)), .non, .non, .non] = .ok (.own (.lst (((staysR seats bs).map rowD).filterMap ownD)), [.shr (.lst (bs.map bkD)), .shr (.int seats), .shr (.lst ((staysR seats bs).map rowD)), .non, .non, .non]) := by
    refine comp_e _ _ (ds := [.lst ((staysR seats bs).map rowD)]) (xs := (staysR seats bs).map rowD) (ρ1 := [.shr (.lst (bs.map bkD)), .shr (.int seats), .shr (.lst ((staysR seats bs).map rowD)), .non, .non, .non]) ?_ rfl ?_ ?_
    · wide_open with [and_self]
    · rw [List.length_map, staysR_len]; have := hR.m; exact lim_pos _ (by omega)
    · intro y hy
      obtain ⟨p, hp, rfl⟩ := List.mem_map.mp hy
      rw [ownD_row]
      have hp1 := hpf p hp
      have hlow := hl p.1 (staysR_mem hp)
      unfold ownR
      cases ha : p.1.ask with
      | none =>
        refine ⟨[.shr (.lst (bs.map bkD)), .shr (.int seats), .shr (.lst ((staysR seats bs).map rowD)), .non, .shr (bkD p.1), .shr (qd p.2)], [.shr (.lst (bs.map bkD)), .shr (.int seats), .shr (.lst ((staysR seats bs).map rowD)), .non, .shr (bkD p.1), .shr (qd p.2)], ?_, ?_, ?_⟩
        · simp [setT, setT.setTs, wipeE, rowD]
        · wide_open with [p_bk5, isnt_non, ha]
          rfl
        · simp [wipeE]
      | some a =>
        have ht := times_spec S.toHasP (n + 2) p.2 (a : Rat) (hp1.tiny (Nat.pow_pos hd) hDt hMM) ((fine_int1 a (hlow a ha)).tiny (by omega) (Nat.lt_trans (by omega) tiny_1000) tiny_1000)
        rw [qd_int] at ht
        refine ⟨[.shr (.lst (bs.map bkD)), .shr (.int seats), .shr (.lst ((staysR seats bs).map rowD)), .non, .shr (bkD p.1), .shr (qd p.2)], [.shr (.lst (bs.map bkD)), .shr (.int seats), .shr (.lst ((staysR seats bs).map rowD)), .non, .shr (bkD p.1), .shr (qd p.2)], .shr (qd (p.2 * a)), [.shr (.lst (bs.map bkD)), .shr (.int seats), .shr (.lst ((staysR seats bs).map rowD)), .non, .shr (bkD p.1), .shr (qd p.2)], ?_, ?_, ?_, ?_, ?_⟩
        · simp [setT, setT.setTs, wipeE, rowD]
        · wide_open with [p_bk5, isnt_non, ha]
          rfl
        · wide_open with [p_bk5, ha, askD, S.htimes.asg, ht]
        · rfl
        · simp [wipeE]
  rw [fm_rows] at hcomp
  unfold c_mean_own
  wide_open with [S.hstays.asg, hst, hcomp, S.htotal.asg, htot]
  rfl
end
end Mx.My

end
section
set_option Elab.async false
set_option linter.all false
/-! Sp7: numbers by their weights. -/
namespace Mx.My
local macro_rules
  | `(tactic| wide_open with [$ts,*]) => `(tactic| simp only [e_var, e_cst, e_pr, t_pr, t_cst, t_var, t_call, t_tv, e_tv, t_not, e_not, t_and, e_and, t_or, e_or, e_ifx, e_tup, e_lst, e_call, o_nil, l_nil, a_nil, o_cons, l_cons, a_cons, bind_ok, bind_exc, bind_bad, isVar_var, isVar_pr, isVar_cst, isVar_call, isVar_tup, isVar_lst, isVar_comp, isVar_ifx, opd_some, opd_none, kep_eq, tst_eq, arg_f, arg_t, d_shr, d_own, prE_eq, get_val, get_bor, gets_nil, gets_cons, p_ne_int, p_eq_int, p_add, p_sub, p_abs, p_idx0, p_idx1, okShr_eq, c_done, c_asg, c_par, c_exp, c_retV, c_ife, ofR_ok, ofR_exc, then_nx, then_ret, then_exc, take_nil, take_val, List.getElem?_cons_zero, List.getElem?_cons_succ, List.set_cons_zero, List.set_cons_succ, List.length_cons, List.length_nil, Option.bind_some, Option.map_some, List.map_cons, List.map_nil, Ar.sl, List.replicate, List.cons_append, List.nil_append, backA, outs_nil, outs_shr, fin_nx, fin_ret, asgT_n, asgT_t, setT_n, setT_t, setTs_n, setTs_c, callK_eq, c_retP, c_retT, c_retC, c_retX, c_retD, c_retA, c_retI, Nat.reduceAdd, Nat.reduceLT, reduceIte, and_self, Nat.reduceSub, lm0, lm1, lm2, lm3, lm4, lm5, lm6, lm7, lm8, lm9, lm10, lm11, lm12, lm13, lm14, if_true, Nat.lt_add_one, Nat.zero_lt_succ, $[$ts:term],*])
open PySem
structure HasW (fs : List Fd) extends HasS fs where
  signedSum : Nat
  hsigned : isF fs signedSum 1 5 [false] (c_signed_sum share)
def numD (r : Int × Rat) : D := .tup [.int r.1, qd r.2]
def ssumF (s : Rat) (r : Int × Rat) : Rat := s + r.1 * r.2
def ssum (rows : List (Int × Rat)) : Rat := rows.foldl ssumF 0
theorem c_retTp (a : E) (Γ : Tab) (asg : Nat → List Bool) (ρ : Env) : evC Γ asg (.ret (.tup a)) ρ = ofR ((ev Γ asg (.tup a)).e ρ) fun x => .ret x.1 x.2 := rfl
theorem ssum_step (s : Rat) (i : Int) (q : Rat) : mkRat (s.num * q.den + i * q.num * s.den) (s.den * q.den) = s + i * q := by
  have h1 : (i : Rat) * q = mkRat (i * q.num) q.den := by
    rw [Rat.mul_def']
    show mkRat (i * q.num) (1 * q.den) = _
    rw [Nat.one_mul]
  rw [h1]
  conv => rhs; lhs; rw [← Rat.mkRat_self s]
  rw [Rat.mkRat_add_mkRat _ _ s.den_nz q.den_nz]
section
variable {fs : List Fd} (S : HasW fs)
def wBody (share : Nat) : C := (.asg (.tp (.cons (.nm 1) (.cons (.nm 2) .nil))) (.call share (.cons (.pr .add (.cons (.pr .mul (.cons (.var 1) (.cons (.pr .idx (.cons (.var 4) (.cons (.cst (.int 1)) .nil))) .nil))) (.cons (.pr .mul (.cons (.pr .mul (.cons (.var 3) (.cons (.pr .idx (.cons (.var 4) (.cons (.cst (.int 0)) .nil))) .nil))) (.cons (.var 2) .nil))) .nil))) (.cons (.pr .mul (.cons (.var 2) (.cons (.pr .idx (.cons (.var 4) (.cons (.cst (.int 1)) .nil))) .nil))) .nil))) .done)
theorem qd_idx0 (q : Rat) : prI .idx [qd q, .int 0] = okShr (.int q.num) := p_idx0 ..
theorem qd_idx1 (q : Rat) : prI .idx [qd q, .int 1] = okShr (.int q.den) := p_idx1 ..
theorem ssum_turn (n : Nat) (x z3 z4 : Sl) (s : Rat) (i : Int) (q : Rat) (hs : Tiny s) (hq : Tiny q) (hi : i.natAbs < TINY) :
    evC (tabAt fs (n + 2)) (asgOf fs) (wBody S.share) [x, .shr (.int s.num), .shr (.int s.den), .shr (.int i), .shr (qd q)] = .nx [x, .shr (.int (s + i * q).num), .shr (.int (s + i * q).den), .shr (.int i), .shr (qd q)] := by
  have h := share_spec S.hcommon S.hshare n (s.num * q.den + i * q.num * s.den) (s.den * q.den) (Nat.mul_pos s.den_pos q.den_pos) (den_mul hs hq)
  rw [ssum_step, Int.natCast_mul, show qd (s + i * q) = .tup [.int (s + i * q).num, .int (s + i * q).den] from rfl] at h
  have hb : (i * q.num).natAbs < BIG := by rw [Int.natAbs_mul]; exact Nat.lt_trans (Nat.mul_lt_mul'' hi hq.n) tiny_mul
  have m1 := p_mul s.num q.den hs.nb hq.db
  have m2 := p_mul i q.num (Nat.lt_trans hi tiny_big) hq.nb
  have m3 := p_mul (i * q.num) s.den hb hs.db
  have m4 := p_mul s.den q.den hs.db hq.db
  generalize hW : s + (i : Rat) * q = W at h ⊢
  clear hW
  unfold wBody
  wide_open with [qd_idx0, qd_idx1, m1, m2, m3, m4, S.hshare.asg, h]
theorem ssum_loop (n D B N : Nat) (hD : 0 < D) (hT : D < TINY) (hB : B < TINY) (hN : N < TINY) (x : Sl) (rows : List (Int × Rat)) : ∀ (s : Rat) (C : Nat) (z3 z4 : Sl), Fine D C s → (∀ r ∈ rows, Fine D B r.2 ∧ r.1.natAbs ≤ N) → C + rows.length * (N * B) < TINY →
    ∃ z3' z4', forG (.tp (.cons (.nm 3) (.cons (.nm 4) .nil))) (evC (tabAt fs (n + 2)) (asgOf fs) (wBody S.share)) (rows.map numD) [x, .shr (.int s.num), .shr (.int s.den), z3, z4] = .nx [x, .shr (.int (rows.foldl ssumF s).num), .shr (.int (rows.foldl ssumF s).den), z3', z4'] := by
  induction rows with
  | nil => intro s C z3 z4 _ _ _; exact ⟨z3, z4, rfl⟩
  | cons r rows ih =>
    intro s C z3 z4 hs hr hb
    obtain ⟨h1, h2⟩ := hr r (List.mem_cons_self ..)
    rw [List.length_cons, Nat.add_mul, Nat.one_mul] at hb
    have hi : Fine 1 N (r.1 : Rat) := (Fine.ofInt (D := 1) (by omega) r.1).le (by omega)
    have hm := hi.mul h1
    rw [Nat.one_mul] at hm
    have ht := ssum_turn S n x z3 z4 s r.1 r.2 (hs.tiny hD hT (by omega)) (h1.tiny hD hT hB) (by omega)
    obtain ⟨w3, w4, e⟩ := ih (ssumF s r) (C + N * B) (.shr (.int r.1)) (.shr (qd r.2)) (hs.add hD hm) (fun y hy => hr y (List.mem_cons_of_mem _ hy)) (by omega)
    refine ⟨w3, w4, ?_⟩
    rw [List.map_cons, forG]
    wide_open with [numD, ht]
    exact e
theorem ssum_fine' {D B N : Nat} (hD : 0 < D) (rows : List (Int × Rat)) : ∀ (s : Rat) (C : Nat), Fine D C s → (∀ r ∈ rows, Fine D B r.2 ∧ r.1.natAbs ≤ N) → Fine D (C + rows.length * (N * B)) (rows.foldl ssumF s) := by
  induction rows with
  | nil => intro s C hs _; simpa using hs
  | cons r rows ih =>
    intro s C hs hr
    obtain ⟨h1, h2⟩ := hr r (List.mem_cons_self ..)
    have hi : Fine 1 N (r.1 : Rat) := (Fine.ofInt (D := 1) (by omega) r.1).le (by omega)
    have hm := hi.mul h1
    rw [Nat.one_mul] at hm
    have := ih (ssumF s r) (C + N * B) (hs.add hD hm) (fun y hy => hr y (List.mem_cons_of_mem _ hy))
    rw [List.length_cons, Nat.add_mul, Nat.one_mul]
    exact this.le (by omega)
theorem ssum_fine {D B N : Nat} (hD : 0 < D) {rows : List (Int × Rat)} (h : ∀ r ∈ rows, Fine D B r.2 ∧ r.1.natAbs ≤ N) : Fine D (rows.length * (N * B)) (ssum rows) := by
  have := ssum_fine' hD rows 0 0 (fine_zero D) h
  rw [Nat.zero_add] at this
  exact this
theorem signed_spec (n D B N : Nat) (hD : 0 < D) (hT : D < TINY) (hB : B < TINY) (hN : N < TINY) (rows : List (Int × Rat)) (h : ∀ r ∈ rows, Fine D B r.2 ∧ r.1.natAbs ≤ N) (hb : rows.length * (N * B) < TINY) :
    tabAt fs (n + 3) S.signedSum [.shr (.lst (rows.map numD))] = .ok (.shr (qd (ssum rows))) [.non] := by
  obtain ⟨z3, z4, e⟩ := ssum_loop S n D B N hD hT hB hN (.shr (.lst (rows.map numD))) rows 0 0 .non .non (fine_zero D) h (by omega)
  rw [S.hsigned.tab (n + 2) _ [.shr (.lst (rows.map numD)), .non, .non, .non, .non] rfl rfl (by decide) rfl]
  unfold c_signed_sum
  unfold wBody at e
  have e0 : (0 : Rat).num = 0 := rfl
  have e1 : (((0 : Rat).den : Nat) : Int) = 1 := rfl
  rw [e0, e1] at e
  have hen : itemsOf .val [.lst (rows.map numD)] = some (rows.map numD) := rfl
  wide_open with [c_for, hen, e]
  rfl
end
end Mx.My

end
section
set_option Elab.async false
set_option linter.all false
/-! Sp8: the order of staying. -/
namespace Mx.My
local macro_rules
  | `(tactic| wide_open with [$ts,*]) => `(tactic| simp only [e_var, e_cst, e_pr, t_pr, t_cst, t_var, t_call, t_tv, e_tv, t_not, e_not, t_and, e_and, t_or, e_or, e_ifx, e_tup, e_lst, e_call, o_nil, l_nil, a_nil, o_cons, l_cons, a_cons, bind_ok, bind_exc, bind_bad, isVar_var, isVar_pr, isVar_cst, isVar_call, isVar_tup, isVar_lst, isVar_comp, isVar_ifx, opd_some, opd_none, kep_eq, tst_eq, arg_f, arg_t, d_shr, d_own, prE_eq, get_val, get_bor, gets_nil, gets_cons, p_ne_int, p_eq_int, p_add, p_sub, p_abs, p_idx0, p_idx1, okShr_eq, c_done, c_asg, c_par, c_exp, c_retV, c_ife, ofR_ok, ofR_exc, then_nx, then_ret, then_exc, take_nil, take_val, List.getElem?_cons_zero, List.getElem?_cons_succ, List.set_cons_zero, List.set_cons_succ, List.length_cons, List.length_nil, Option.bind_some, Option.map_some, List.map_cons, List.map_nil, Ar.sl, List.replicate, List.cons_append, List.nil_append, backA, outs_nil, outs_shr, fin_nx, fin_ret, asgT_n, asgT_t, setT_n, setT_t, setTs_n, setTs_c, callK_eq, c_retP, c_retT, c_retC, c_retX, c_retD, c_retA, c_retI, Nat.reduceAdd, Nat.reduceLT, reduceIte, and_self, Nat.reduceSub, lm0, lm1, lm2, lm3, lm4, lm5, lm6, lm7, lm8, lm9, lm10, lm11, lm12, lm13, lm14, if_true, Nat.lt_add_one, Nat.zero_lt_succ, $[$ts:term],*])
open PySem
def keyD (b : Bk) : D := match b.ask with
  | none => .tup [.int 1, .int (-b.miss), .str b.name]
  | some a => .tup [.int 0, .int a, .str b.name]
def inOrd (bs : List Bk) : List Bk := bs.mergeSort fun a b => leK (keyD a, bkD a) (keyD b, bkD b)
structure HasO (fs : List Fd) extends HasW fs where
  stayKey : Nat
  inOrder : Nat
  hkey : isF fs stayKey 1 1 [false] c_stay_key
  horder : isF fs inOrder 1 1 [false] (c_in_order stayKey)
theorem bk_idx4 (b : Bk) : prI .idx [bkD b, .int 4] = okShr (.int b.miss) := by
  unfold bkD
  rw [p_idxT, show (4 : Int) = ((4 : Nat) : Int) from rfl, getAt_nat _ 4 _ rfl]; rfl
theorem bk_idx0 (b : Bk) : prI .idx [bkD b, .int 0] = okShr (.str b.name) := p_idx0 ..
theorem p_neg (i : Int) : prI .neg [.int i] = okShr (.int (-i)) := by unfold prI; rfl
theorem key_alike (a b : Bk) : alikeD (keyD a) (keyD b) = true := by
  unfold keyD
  cases a.ask <;> cases b.ask <;> simp [alikeD, alikeL]
theorem key_plain (a : Bk) : plainD 60 (keyD a) = true := by
  unfold keyD
  cases a.ask <;> rfl
theorem key_tup (a : Bk) : isTup1 (keyD a) = true := by
  unfold keyD
  cases a.ask <;> rfl
theorem keys_comp (bs : List Bk) : comparable (bs.map keyD) = true := by
  unfold comparable
  simp only [List.all_map, Bool.and_eq_true, Bool.or_eq_true, List.all_eq_true, Function.comp]
  exact ⟨fun a _ => ⟨key_plain a, fun b _ => key_alike a b⟩, .inl fun a _ => key_tup a⟩
theorem sort_bks (bs : List Bk) (h : bs.length < LIM) : sortBy (bs.map keyD) (bs.map bkD) = some ((inOrd bs).map bkD) := by
  unfold sortBy
  rw [keys_comp, List.length_map, List.length_map]
  rw [if_pos (by simp [h])]
  congr 1
  have hz : (bs.map keyD).zip (bs.map bkD) = bs.map fun b => (keyD b, bkD b) := by
    rw [List.zip_map', ]
  rw [hz]
  have := List.map_mergeSort (l := bs) (r := fun a b => leK (keyD a, bkD a) (keyD b, bkD b)) (s := leK) (f := fun b => (keyD b, bkD b)) (fun a _ b _ => rfl)
  rw [← this, List.map_map]
  rfl
section
variable {fs : List Fd} (S : HasO fs)
theorem key_spec (n : Nat) (b : Bk) : tabAt fs (n + 1) S.stayKey [.shr (bkD b)] = .ok (.shr (keyD b)) [.non] := by
  rw [S.hkey.tab n _ [.shr (bkD b)] rfl rfl (by decide) rfl]
  unfold c_stay_key
  cases h : b.ask with
  | none => wide_open with [p_bk5, is_non, h, bk_idx4, bk_idx0, p_neg, Option.isNone_none, keyD]
  | some a =>
    have h5 := p_bk5 b
    have hn := is_non (some a)
    rw [h] at h5
    simp only [askD] at h5 hn
    wide_open with [h5, hn, bk_idx0, Option.isNone_some, keyD, h, Bool.false_eq_true, if_false]
theorem keys_by (n : Nat) (bs : List Bk) : keysBy (fun x => frE (tabAt fs (n + 1) S.stayKey [.shr x])) (bs.map bkD) = some (bs.map keyD) := by
  induction bs with
  | nil => rfl
  | cons b bs ih =>
    rw [List.map_cons, keysBy, key_spec S n b]
    show Option.map (fun x => keyD b :: x) (keysBy (fun x => frE (tabAt fs (n + 1) S.stayKey [.shr x])) (bs.map bkD)) = _
    rw [ih]
    rfl
theorem order_spec (n : Nat) (bs : List Bk) (h : bs.length < LIM) : tabAt fs (n + 2) S.inOrder [.shr (.lst (bs.map bkD))] = .ok (.own (.lst ((inOrd bs).map bkD))) [.non] := by
  rw [S.horder.tab (n + 1) _ [.shr (.lst (bs.map bkD))] rfl rfl (by decide) rfl]
  unfold c_in_order
  rw [show evC (tabAt fs (n + 1)) (asgOf fs) (C.ret (E.srt S.stayKey ((E.var 0).cons E.nil))) [.shr (.lst (bs.map bkD))] = ofR ((ev (tabAt fs (n + 1)) (asgOf fs) (E.srt S.stayKey ((E.var 0).cons E.nil))).e [.shr (.lst (bs.map bkD))]) fun x => .ret x.1 x.2 from rfl]
  wide_open with [e_srt, keys_by S n bs, sort_bks bs h]
end
end Mx.My

end
section
set_option Elab.async false
set_option linter.all false
/-! Sp9: houses; what is booked at a going. -/
namespace Mx.My
local macro_rules
  | `(tactic| wide_open with [$ts,*]) => `(tactic| simp only [e_var, e_cst, e_pr, t_pr, t_cst, t_var, t_call, t_tv, e_tv, t_not, e_not, t_and, e_and, t_or, e_or, e_ifx, e_tup, e_lst, e_call, o_nil, l_nil, a_nil, o_cons, l_cons, a_cons, bind_ok, bind_exc, bind_bad, isVar_var, isVar_pr, isVar_cst, isVar_call, isVar_tup, isVar_lst, isVar_comp, isVar_ifx, opd_some, opd_none, kep_eq, tst_eq, arg_f, arg_t, d_shr, d_own, prE_eq, get_val, get_bor, gets_nil, gets_cons, p_ne_int, p_eq_int, p_add, p_sub, p_abs, p_idx0, p_idx1, okShr_eq, c_done, c_asg, c_par, c_exp, c_retV, c_ife, ofR_ok, ofR_exc, then_nx, then_ret, then_exc, take_nil, take_val, List.getElem?_cons_zero, List.getElem?_cons_succ, List.set_cons_zero, List.set_cons_succ, List.length_cons, List.length_nil, Option.bind_some, Option.map_some, List.map_cons, List.map_nil, Ar.sl, List.replicate, List.cons_append, List.nil_append, backA, outs_nil, outs_shr, fin_nx, fin_ret, asgT_n, asgT_t, setT_n, setT_t, setTs_n, setTs_c, callK_eq, c_retP, c_retT, c_retC, c_retX, c_retD, c_retA, c_retI, Nat.reduceAdd, Nat.reduceLT, reduceIte, and_self, Nat.reduceSub, lm0, lm1, lm2, lm3, lm4, lm5, lm6, lm7, lm8, lm9, lm10, lm11, lm12, lm13, lm14, if_true, Nat.lt_add_one, Nat.zero_lt_succ, $[$ts:term],*])
open PySem
structure Go where
  name : Str
  a : Str
  b : Str
  leaves : Int
  comes : Int
  seats : Nat
def goD (g : Go) : D := .tup [.str g.name, .str g.a, .str g.b, .int g.leaves, .int g.comes, .int g.seats]
structure House where
  gos : List Go
  bks : List Bk
  rule : Str
  table : List (Int × Int)
def tabD (t : List (Int × Int)) : D := .tup (t.map fun r => .tup [.int r.1, .int r.2])
def ruleD (h : House) : D := .tup [.str h.rule, tabD h.table]
def houseD (h : House) : D := .tup [.tup (h.gos.map goD), .tup (h.bks.map bkD), ruleD h]
theorem ho_idx0 (h : House) : prI .idx [houseD h, .int 0] = okShr (.tup (h.gos.map goD)) := p_idx0 ..
theorem ho_idx1 (h : House) : prI .idx [houseD h, .int 1] = okShr (.tup (h.bks.map bkD)) := p_idx1 ..
theorem ho_idx2 (h : House) : prI .idx [houseD h, .int 2] = okShr (ruleD h) := p_idx2 ..
theorem go_idx0 (g : Go) : prI .idx [goD g, .int 0] = okShr (.str g.name) := p_idx0 ..
theorem go_idx5 (g : Go) : prI .idx [goD g, .int 5] = okShr (.int g.seats) := p_idx5 ..
theorem bk_idx1 (b : Bk) : prI .idx [bkD b, .int 1] = okShr (.str b.going) := p_idx1 ..
theorem p_eq_str (x y : Str) : prI .eq [.str x, .str y] = okShr (.bl (x == y)) := by unfold prI; rfl
structure HasH (fs : List Fd) extends HasO fs where
  goingOf : Nat
  bookedAt : Nat
  hgoing : isF fs goingOf 2 4 [false, false] c_going_of
  hbooked : isF fs bookedAt 2 4 [false, false] c_booked_at
def atGoing (h : House) (g : Str) : List Bk := h.bks.filter fun b => b.going == g
def pickBk (g : Str) : D → Option D
  | .tup [a, .str x, c, d, e, f] => if x == g then some (.tup [a, .str x, c, d, e, f]) else none
  | _ => none
theorem pick_bk (g : Str) (b : Bk) : pickBk g (bkD b) = if b.going == g then some (bkD b) else none := rfl
theorem fm_pick (g : Str) (bs : List Bk) : (bs.map bkD).filterMap (pickBk g) = (bs.filter fun b => b.going == g).map bkD := by
  induction bs with
  | nil => rfl
  | cons b bs ih =>
    rw [List.map_cons, List.filterMap_cons, pick_bk, List.filter_cons]
    cases e : (b.going == g) <;> simp [ih]
def pickGo (g : Str) : D → Option D
  | .tup [.str x, b, c, d, e, f] => if x == g then some (.tup [.str x, b, c, d, e, f]) else none
  | _ => none
theorem pick_go (g : Str) (b : Go) : pickGo g (goD b) = if b.name == g then some (goD b) else none := rfl
theorem fm_go (g : Str) (bs : List Go) : (bs.map goD).filterMap (pickGo g) = (bs.filter fun b => b.name == g).map goD := by
  induction bs with
  | nil => rfl
  | cons b bs ih =>
    rw [List.map_cons, List.filterMap_cons, pick_go, List.filter_cons]
    cases e : (b.name == g) <;> simp [ih]
section
variable {fs : List Fd} (S : HasH fs)
theorem booked_spec (n : Nat) (h : House) (g : Str) (hl : h.bks.length < LIM) : tabAt fs (n + 1) S.bookedAt [.shr (houseD h), .shr (.str g)] = .ok (.own (.lst ((atGoing h g).map bkD))) [.non, .non] := by
  rw [S.hbooked.tab n _ [.shr (houseD h), .shr (.str g), .non, .non] rfl rfl (by decide) rfl]
  have hcomp : (ev (tabAt fs n) (asgOf fs) (.comp [2, 3] (.nm 3) .val (.cons (.pr .idx (.cons (.var 0) (.cons (.cst (.int 1)) .nil))) .nil) (.pr .eq (.cons (.pr .idx (.cons (.var 3) (.cons (.cst (.int 1)) .nil))) (.cons (.var 1) .nil))) (.var 3))).e [.shr (houseD h), .shr (.str g), .non, .non] = .ok (.own (.lst ((h.bks.map bkD).filterMap (pickBk g))), [.shr (houseD h), .shr (.str g), .non, .non]) := by
    refine comp_e _ _ (ds := [.tup (h.bks.map bkD)]) (xs := h.bks.map bkD) (ρ1 := [.shr (houseD h), .shr (.str g), .non, .non]) ?_ rfl ?_ ?_
    · wide_open with [ho_idx1]
    · rw [List.length_map]; exact hl
    · intro y hy
      obtain ⟨b, hb, rfl⟩ := List.mem_map.mp hy
      rw [pick_bk]
      cases e : (b.going == g) with
      | false =>
        refine ⟨[.shr (houseD h), .shr (.str g), .non, .shr (bkD b)], [.shr (houseD h), .shr (.str g), .non, .shr (bkD b)], ?_, ?_, ?_⟩
        · simp [setT, wipeE]
        · wide_open with [bk_idx1, p_eq_str, e]
        · simp [wipeE]
      | true =>
        refine ⟨[.shr (houseD h), .shr (.str g), .non, .shr (bkD b)], [.shr (houseD h), .shr (.str g), .non, .shr (bkD b)], .shr (bkD b), [.shr (houseD h), .shr (.str g), .non, .shr (bkD b)], ?_, ?_, ?_, ?_, ?_⟩
        · simp [setT, wipeE]
        · wide_open with [bk_idx1, p_eq_str, e]
        · wide_open with [and_self]
        · rfl
        · simp [wipeE]
  rw [fm_pick] at hcomp
  unfold c_booked_at
  wide_open with [hcomp]
  rfl
theorem going_spec (n : Nat) (h : House) (g : Str) (x : Go) (r : List Go) (hx : h.gos.filter (fun b => b.name == g) = x :: r) (hl : h.gos.length < LIM) : tabAt fs (n + 1) S.goingOf [.shr (houseD h), .shr (.str g)] = .ok (.shr (goD x)) [.non, .non] := by
  rw [S.hgoing.tab n _ [.shr (houseD h), .shr (.str g), .non, .non] rfl rfl (by decide) rfl]
  have hcomp : (ev (tabAt fs n) (asgOf fs) (.comp [2, 3] (.nm 3) .val (.cons (.pr .idx (.cons (.var 0) (.cons (.cst (.int 0)) .nil))) .nil) (.pr .eq (.cons (.pr .idx (.cons (.var 3) (.cons (.cst (.int 0)) .nil))) (.cons (.var 1) .nil))) (.var 3))).e [.shr (houseD h), .shr (.str g), .non, .non] = .ok (.own (.lst ((h.gos.map goD).filterMap (pickGo g))), [.shr (houseD h), .shr (.str g), .non, .non]) := by
    refine comp_e _ _ (ds := [.tup (h.gos.map goD)]) (xs := h.gos.map goD) (ρ1 := [.shr (houseD h), .shr (.str g), .non, .non]) ?_ rfl ?_ ?_
    · wide_open with [ho_idx0]
    · rw [List.length_map]; exact hl
    · intro y hy
      obtain ⟨b, hb, rfl⟩ := List.mem_map.mp hy
      rw [pick_go]
      cases e : (b.name == g) with
      | false =>
        refine ⟨[.shr (houseD h), .shr (.str g), .non, .shr (goD b)], [.shr (houseD h), .shr (.str g), .non, .shr (goD b)], ?_, ?_, ?_⟩
        · simp [setT, wipeE]
        · wide_open with [go_idx0, p_eq_str, e]
        · simp [wipeE]
      | true =>
        refine ⟨[.shr (houseD h), .shr (.str g), .non, .shr (goD b)], [.shr (houseD h), .shr (.str g), .non, .shr (goD b)], .shr (goD b), [.shr (houseD h), .shr (.str g), .non, .shr (goD b)], ?_, ?_, ?_, ?_, ?_⟩
        · simp [setT, wipeE]
        · wide_open with [go_idx0, p_eq_str, e]
        · wide_open with [and_self]
        · rfl
        · simp [wipeE]
  rw [fm_go, hx] at hcomp
  have hz : prI .idx [.lst ((x :: r).map goD), .int 0] = okShr (goD x) := by
    rw [p_idxL, show (0 : Int) = ((0 : Nat) : Int) from rfl, getAt_nat _ 0 (goD x) rfl]; rfl
  unfold c_going_of
  wide_open with [hcomp]
  simp only [List.map_cons] at hz
  wide_open with [hz]
end
end Mx.My

end
section
set_option Elab.async false
set_option linter.all false
/-! Sp10: so many more of a kind. -/
namespace Mx.My
local macro_rules
  | `(tactic| wide_open with [$ts,*]) => `(tactic| simp only [e_var, e_cst, e_pr, t_pr, t_cst, t_var, t_call, t_tv, e_tv, t_not, e_not, t_and, e_and, t_or, e_or, e_ifx, e_tup, e_lst, e_call, o_nil, l_nil, a_nil, o_cons, l_cons, a_cons, bind_ok, bind_exc, bind_bad, isVar_var, isVar_pr, isVar_cst, isVar_call, isVar_tup, isVar_lst, isVar_comp, isVar_ifx, opd_some, opd_none, kep_eq, tst_eq, arg_f, arg_t, d_shr, d_own, prE_eq, get_val, get_bor, gets_nil, gets_cons, p_ne_int, p_eq_int, p_add, p_sub, p_abs, p_idx0, p_idx1, okShr_eq, c_done, c_asg, c_par, c_exp, c_retV, c_ife, ofR_ok, ofR_exc, then_nx, then_ret, then_exc, take_nil, take_val, List.getElem?_cons_zero, List.getElem?_cons_succ, List.set_cons_zero, List.set_cons_succ, List.length_cons, List.length_nil, Option.bind_some, Option.map_some, List.map_cons, List.map_nil, Ar.sl, List.replicate, List.cons_append, List.nil_append, backA, outs_nil, outs_shr, fin_nx, fin_ret, asgT_n, asgT_t, setT_n, setT_t, setTs_n, setTs_c, callK_eq, c_retP, c_retT, c_retC, c_retX, c_retD, c_retA, c_retI, Nat.reduceAdd, Nat.reduceLT, reduceIte, and_self, Nat.reduceSub, lm0, lm1, lm2, lm3, lm4, lm5, lm6, lm7, lm8, lm9, lm10, lm11, lm12, lm13, lm14, if_true, Nat.lt_add_one, Nat.zero_lt_succ, $[$ts:term],*])
open PySem
structure Kd where
  fare : Int
  ch : Rat
  miss : Int
  ask : Option Int
def kindD (k : Kd) : D := .tup [.int k.fare, qd k.ch, .int k.miss, askD k.ask]
def letters : Str := "abcdefghijkl"
def letter (k : Nat) : Str := ⟨#[letters.cps.toList.getD k 0]⟩
def tilde (k : Nat) : Str := ("~" : Str) ++ letter k
def oneMore (g : Str) (kd : Kd) (k : Nat) : Bk := ⟨tilde k, g, kd.fare, kd.ch, kd.miss, kd.ask⟩
def more (g : Str) (kd : Kd) (n : Nat) : List Bk := (List.range n).map (oneMore g kd)
theorem letters_len : letters.cps.toList.length = 12 := by decide
theorem letter_idx (k : Nat) (h : k < 12) : prI .idx [.str letters, .int k] = okShr (.str (letter k)) := by
  have h0 : prI .idx [.str letters, .int k] = if LIM ≤ letters.length then none else (getAt letters.cps.toList k).bind fun c => okShr (.str ⟨#[c]⟩) := by unfold prI; rfl
  have h1 : ¬ LIM ≤ letters.length := by unfold LIM; decide
  have h2 : letters.cps.toList[k]? = some (letters.cps.toList.getD k 0) := by
    rw [List.getD, List.getElem?_eq_getElem (by rw [letters_len]; exact h)]; rfl
  rw [h0, if_neg h1, getAt_nat _ k _ h2]
  rfl
theorem tilde_add (k : Nat) : prI .add [.str "~", .str (letter k)] = okShr (.str (tilde k)) := by
  have h0 : prI .add [.str "~", .str (letter k)] = if ("~" : Str).length + (letter k).length < LIM then okShr (.str (("~" : Str) ++ letter k)) else none := by unfold prI; rfl
  rw [h0, if_pos]
  · rfl
  · show 1 + 1 < LIM
    unfold LIM; decide
theorem kind_add (x g : Str) (k : Kd) : prI .add [.tup [.str x, .str g], kindD k] = okShr (bkD ⟨x, g, k.fare, k.ch, k.miss, k.ask⟩) := by
  have h0 : prI .add [.tup [.str x, .str g], kindD k] = if 2 + 4 < LIM then okShr (bkD ⟨x, g, k.fare, k.ch, k.miss, k.ask⟩) else none := by unfold prI; rfl
  rw [h0, if_pos (by unfold LIM; decide)]
def fareW (b : Bk) : Int × Rat := (b.fare, b.ch)
def wBk : D → Option D
  | .tup [_, _, f, c, _, _] => some (.tup [f, c])
  | _ => none
theorem fm_fare (bs : List Bk) : (bs.map bkD).filterMap wBk = (bs.map fareW).map numD := by
  induction bs with
  | nil => rfl
  | cons b bs ih => rw [List.map_cons, List.filterMap_cons]; show _ :: _ = _; rw [ih]; rfl
/-- unwilling ones, each by the first row's pay -/
def forced (pay : Int) (p : Bk × Rat) : Option (Int × Rat) := if p.1.ask.isNone then some (pay, p.2) else none
def forcedD (pay : Int) : D → Option D
  | .tup [.tup [_, _, _, _, _, .non], q] => some (.tup [.int pay, q])
  | _ => none
theorem forced_row (pay : Int) (p : Bk × Rat) : forcedD pay (rowD p) = (forced pay p).map numD := by
  obtain ⟨⟨n, g, f, c, m, a⟩, q⟩ := p
  cases a <;> rfl
theorem fm_forced (pay : Int) (rows : List (Bk × Rat)) : (rows.map rowD).filterMap (forcedD pay) = (rows.filterMap (forced pay)).map numD := by
  rw [List.filterMap_map, List.map_filterMap]
  congr 1
  funext p
  exact forced_row pay p
end Mx.My

end
section
set_option Elab.async false
set_option linter.all false
/-! Sp11: what so many more are worth, by own asks. -/
namespace Mx.My
local macro_rules
  | `(tactic| wide_open with [$ts,*]) => `(tactic| simp only [e_var, e_cst, e_pr, t_pr, t_cst, t_var, t_call, t_tv, e_tv, t_not, e_not, t_and, e_and, t_or, e_or, e_ifx, e_tup, e_lst, e_call, o_nil, l_nil, a_nil, o_cons, l_cons, a_cons, bind_ok, bind_exc, bind_bad, isVar_var, isVar_pr, isVar_cst, isVar_call, isVar_tup, isVar_lst, isVar_comp, isVar_ifx, opd_some, opd_none, kep_eq, tst_eq, arg_f, arg_t, d_shr, d_own, prE_eq, get_val, get_bor, gets_nil, gets_cons, p_ne_int, p_eq_int, p_add, p_sub, p_abs, p_idx0, p_idx1, okShr_eq, c_done, c_asg, c_par, c_exp, c_retV, c_ife, ofR_ok, ofR_exc, then_nx, then_ret, then_exc, take_nil, take_val, List.getElem?_cons_zero, List.getElem?_cons_succ, List.set_cons_zero, List.set_cons_succ, List.length_cons, List.length_nil, Option.bind_some, Option.map_some, List.map_cons, List.map_nil, Ar.sl, List.replicate, List.cons_append, List.nil_append, backA, outs_nil, outs_shr, fin_nx, fin_ret, asgT_n, asgT_t, setT_n, setT_t, setTs_n, setTs_c, callK_eq, c_retP, c_retT, c_retC, c_retX, c_retD, c_retA, c_retI, Nat.reduceAdd, Nat.reduceLT, reduceIte, and_self, Nat.reduceSub, lm0, lm1, lm2, lm3, lm4, lm5, lm6, lm7, lm8, lm9, lm10, lm11, lm12, lm13, lm14, if_true, Nat.lt_add_one, Nat.zero_lt_succ, $[$ts:term],*])
open PySem
structure HasX (fs : List Fd) extends HasH fs where
  meanLast : Nat
  willing : Nat
  worthWith : Nat
  hwilling : isF fs willing 3 3 [false, false, false] (c_willing_mean meanOwn meanLast)
  hworth : isF fs worthWith 4 14 [false, false, false, false] (c_worth_with inOrder bookedAt goingOf signedSum staysBy minus willing)
def numsD (n : Nat) : List D := (List.range n).map fun i => .int (i : Nat)
def moreD (g : Str) (kd : Kd) : D → Option D
  | .int i => some (bkD (oneMore g kd i.toNat))
  | _ => none
theorem fm_more (g : Str) (kd : Kd) (n : Nat) : (numsD n).filterMap (moreD g kd) = (more g kd n).map bkD := by
  unfold numsD more
  rw [List.filterMap_map, List.map_map]
  have : (moreD g kd ∘ fun i : Nat => D.int (i : Nat)) = fun i => some ((bkD ∘ oneMore g kd) i) := by
    funext i
    show some (bkD (oneMore g kd (i : Int).toNat)) = _
    rw [Int.toNat_natCast]; rfl
  rw [this]
  exact List.filterMap_eq_map ▸ rfl
theorem rng_nums (n : Nat) (h : n < 1000) : itemsOf .rng [.int (n : Nat)] = some (numsD n) := by
  show (if -(LIM : Int) < (n : Int) ∧ (n : Int) < LIM then some ((List.range (n : Int).toNat).map fun i => D.int (i : Nat)) else none) = _
  rw [if_pos (by unfold LIM; omega), Int.toNat_natCast]
  rfl
section
variable {fs : List Fd} (S : HasX fs)
theorem willing_own (n : Nat) (h : House) (bs : List Bk) (seats : Nat) (hr : h.rule = "own") (r : Rat) (hm : tabAt fs n S.meanOwn [.shr (.lst (bs.map bkD)), .shr (.int seats)] = .ok (.shr (qd r)) [.non, .non]) :
    tabAt fs (n + 1) S.willing [.shr (ruleD h), .shr (.lst (bs.map bkD)), .shr (.int seats)] = .ok (.shr (qd r)) [.non, .non, .non] := by
  rw [S.hwilling.tab n _ [.shr (ruleD h), .shr (.lst (bs.map bkD)), .shr (.int seats)] rfl rfl (by decide) rfl]
  have h0 : prI .idx [ruleD h, .int 0] = okShr (.str "own") := by rw [← hr]; exact p_idx0 ..
  have h1 : (("own" : Str) == "own") = true := by decide
  unfold c_willing_mean
  wide_open with [h0, p_eq_str, h1, S.hmeanOwn.asg, hm]
theorem more_comp (Γ : Tab) (asg : Nat → List Bool) (hs : D) (g : Str) (kd : Kd) (m : Nat) (hm : m ≤ 12) (s4 s5 s6 s7 s8 s9 s12 s13 : Sl) :
    (ev Γ asg (.comp [10, 11] (.nm 11) .rng (.cons (.var 3) .nil) (.cst (.bl true)) (.pr .add (.cons (.tup (.cons (.pr .add (.cons (.cst (.str "~")) (.cons (.pr .idx (.cons (.cst (.str "abcdefghijkl")) (.cons (.var 11) .nil))) .nil))) (.cons (.var 1) .nil))) (.cons (.var 2) .nil))))).e [.shr hs, .shr (.str g), .shr (kindD kd), .shr (.int m), s4, s5, s6, s7, s8, s9, .non, .non, s12, s13] = .ok (.own (.lst ((more g kd m).map bkD)), [.shr hs, .shr (.str g), .shr (kindD kd), .shr (.int m), s4, s5, s6, s7, s8, s9, .non, .non, s12, s13]) := by
  rw [← fm_more]
  refine comp_e _ _ (ds := [.int m]) (xs := numsD m) (ρ1 := [.shr hs, .shr (.str g), .shr (kindD kd), .shr (.int m), s4, s5, s6, s7, s8, s9, .non, .non, s12, s13]) ?_ (rng_nums m (by omega)) ?_ ?_
  · wide_open with [and_self]
  · unfold numsD; rw [List.length_map, List.length_range]; exact lim_pos _ (by omega)
  · intro y hy
    obtain ⟨k, hk, rfl⟩ := List.mem_map.mp hy
    rw [List.mem_range] at hk
    have h1 := letter_idx k (by omega)
    unfold letters at h1
    refine ⟨[.shr hs, .shr (.str g), .shr (kindD kd), .shr (.int m), s4, s5, s6, s7, s8, s9, .non, .shr (.int k), s12, s13], [.shr hs, .shr (.str g), .shr (kindD kd), .shr (.int m), s4, s5, s6, s7, s8, s9, .non, .shr (.int k), s12, s13], .shr (bkD (oneMore g kd k)), [.shr hs, .shr (.str g), .shr (kindD kd), .shr (.int m), s4, s5, s6, s7, s8, s9, .non, .shr (.int k), s12, s13], ?_, ?_, ?_, ?_, ?_⟩
    · simp [setT, wipeE]
    · wide_open with [and_self]
    · wide_open with [h1, tilde_add, kind_add]
      rfl
    · show some _ = some _
      rw [Int.toNat_natCast]
    · simp [wipeE]
end
end Mx.My

end
section
set_option Elab.async false
set_option linter.all false
/-! Sp12: what so many more are worth. -/
namespace Mx.My
local macro_rules
  | `(tactic| wide_open with [$ts,*]) => `(tactic| simp only [e_var, e_cst, e_pr, t_pr, t_cst, t_var, t_call, t_tv, e_tv, t_not, e_not, t_and, e_and, t_or, e_or, e_ifx, e_tup, e_lst, e_call, o_nil, l_nil, a_nil, o_cons, l_cons, a_cons, bind_ok, bind_exc, bind_bad, isVar_var, isVar_pr, isVar_cst, isVar_call, isVar_tup, isVar_lst, isVar_comp, isVar_ifx, opd_some, opd_none, kep_eq, tst_eq, arg_f, arg_t, d_shr, d_own, prE_eq, get_val, get_bor, gets_nil, gets_cons, p_ne_int, p_eq_int, p_add, p_sub, p_abs, p_idx0, p_idx1, okShr_eq, c_done, c_asg, c_par, c_exp, c_retV, c_ife, ofR_ok, ofR_exc, then_nx, then_ret, then_exc, take_nil, take_val, List.getElem?_cons_zero, List.getElem?_cons_succ, List.set_cons_zero, List.set_cons_succ, List.length_cons, List.length_nil, Option.bind_some, Option.map_some, List.map_cons, List.map_nil, Ar.sl, List.replicate, List.cons_append, List.nil_append, backA, outs_nil, outs_shr, fin_nx, fin_ret, asgT_n, asgT_t, setT_n, setT_t, setTs_n, setTs_c, callK_eq, c_retP, c_retT, c_retC, c_retX, c_retD, c_retA, c_retI, Nat.reduceAdd, Nat.reduceLT, reduceIte, and_self, Nat.reduceSub, lm0, lm1, lm2, lm3, lm4, lm5, lm6, lm7, lm8, lm9, lm10, lm11, lm12, lm13, lm14, if_true, Nat.lt_add_one, Nat.zero_lt_succ, $[$ts:term],*])
open PySem
structure Roomy (d M : Nat) : Prop where
  d0 : 0 < d
  m0 : 0 < M
  m : M < 300
  t : 40000 * (M * (M * (2 * d) ^ M)) < TINY
theorem Roomy.room {d M : Nat} (h : Roomy d M) : Room d M := by
  refine ⟨h.d0, h.m, ?_⟩
  have e : M * (M * ((2 * d) ^ M * 1000)) = 1000 * (M * (M * (2 * d) ^ M)) := by
    rw [Nat.mul_comm ((2 * d) ^ M) 1000, Nat.mul_left_comm M 1000, Nat.mul_left_comm M 1000]
  rw [e]
  have := h.t
  omega
/-- bookings that are small enough -/
structure Fit (d : Nat) (b : Bk) : Prop where
  ch : Ch d b
  low : Low b
  fare : b.fare.natAbs ≤ 1000
theorem inOrd_mem {bs : List Bk} {b : Bk} : b ∈ inOrd bs ↔ b ∈ bs := by
  unfold inOrd; exact List.mem_mergeSort
theorem inOrd_len (bs : List Bk) : (inOrd bs).length = bs.length := by
  unfold inOrd; exact List.length_mergeSort _
/-- what they are worth -/
def worthR (pay : Int) (seats : Nat) (bs : List Bk) : Rat := ssum (bs.map fareW) - meanOwnR seats bs - ssum ((staysR seats bs).filterMap (forced pay))
def GREAT (d M : Nat) : Nat := M * (M * (2 * d) ^ M)
theorem great_D (d M : Nat) (hM : 0 < M) : (2 * d) ^ M ≤ GREAT d M := Nat.le_trans (Nat.le_mul_of_pos_left _ hM) (Nat.le_mul_of_pos_left _ hM)
section
variable {fs : List Fd} (S : HasX fs)
include S in
theorem fares_fine (d M : Nat) (hR : Roomy d M) (bs : List Bk) (hb : ∀ b ∈ bs, Fit d b) (hM : bs.length ≤ M) : Fine (d ^ M) (1000 * GREAT d M) (ssum (bs.map fareW)) := by
  have h0 : ∀ r ∈ bs.map fareW, Fine d d r.2 ∧ r.1.natAbs ≤ 1000 := by
    intro r hr
    obtain ⟨b, hb', rfl⟩ := List.mem_map.mp hr
    exact ⟨(hb b hb').ch.1, (hb b hb').fare⟩
  have h1 := (ssum_fine hR.d0 h0).up (d ^ (M - 1)) (Nat.pow_pos hR.d0)
  rw [List.length_map] at h1
  have e : d * d ^ (M - 1) = d ^ M := by
    rw [← Nat.pow_succ']; congr 1; have := hR.m0; omega
  rw [e] at h1
  refine h1.le ?_
  have e2 : bs.length * (1000 * d) * d ^ (M - 1) = 1000 * (bs.length * d ^ M) := by
    rw [← e]; simp only [Nat.mul_assoc, Nat.mul_left_comm, Nat.mul_comm]
  rw [e2]
  refine Nat.mul_le_mul_left _ ?_
  exact Nat.mul_le_mul hM (Nat.le_trans (pow_d_le d M) (Nat.le_mul_of_pos_left _ hR.m0))
include S in
theorem mean_fine (d M : Nat) (hR : Roomy d M) (seats : Nat) (bs : List Bk) (hb : ∀ b ∈ bs, Fit d b) (hM : bs.length ≤ M) : Fine (d ^ M) (1000 * GREAT d M) (meanOwnR seats bs) := by
  have h := rsum_fine (Nat.pow_pos hR.d0) (own_fine S.toHasS d M hR.room seats bs (fun x hx => (hb x hx).ch) (fun x hx => (hb x hx).low) hM)
  refine h.le ?_
  have hl : ((staysR seats bs).filterMap ownR).length ≤ M := Nat.le_trans (List.length_filterMap_le _ _) (by rw [staysR_len]; exact hM)
  refine Nat.le_trans (Nat.mul_le_mul_right _ hl) ?_
  unfold GREAT
  rw [Nat.mul_comm (M * (2 * d) ^ M) 1000, Nat.mul_left_comm]
  exact Nat.le_refl _
include S in
theorem forced_fine (d M : Nat) (hR : Roomy d M) (seats : Nat) (pay : Int) (hp : pay.natAbs ≤ 10000) (bs : List Bk) (hb : ∀ b ∈ bs, Fit d b) (hM : bs.length ≤ M) : ∀ r ∈ (staysR seats bs).filterMap (forced pay), Fine (d ^ M) (M * (2 * d) ^ M) r.2 ∧ r.1.natAbs ≤ 10000 := by
  intro r hr
  obtain ⟨p, hp', e⟩ := List.mem_filterMap.mp hr
  have h1 := stays_fine S.toHasS d M hR.room seats bs (fun x hx => (hb x hx).ch) hM p hp'
  unfold forced at e
  split at e
  · cases e; exact ⟨h1, hp⟩
  · cases e

theorem fare_comp (Γ : Tab) (asg : Nat → List Bool) (bs : List Bk) (hl : bs.length < LIM) (a0 a1 a2 a3 a4 a6 a7 a8 a9 : Sl) :
    (ev Γ asg (.comp [10, 12] (.nm 12) .val (.cons (.var 5) .nil) (.cst (.bl true)) (.tup (.cons (.pr .idx (.cons (.var 12) (.cons (.cst (.int 2)) .nil))) (.cons (.pr .idx (.cons (.var 12) (.cons (.cst (.int 3)) .nil))) .nil))))).e [a0, a1, a2, a3, a4, .own (.lst (bs.map bkD)), a6, a7, a8, a9, .non, .non, .non, .non] = .ok (.own (.lst ((bs.map fareW).map numD)), [a0, a1, a2, a3, a4, .shr (.lst (bs.map bkD)), a6, a7, a8, a9, .non, .non, .non, .non]) := by
  rw [← fm_fare]
  refine comp_e _ _ (ds := [.lst (bs.map bkD)]) (xs := bs.map bkD) (ρ1 := [a0, a1, a2, a3, a4, .shr (.lst (bs.map bkD)), a6, a7, a8, a9, .non, .non, .non, .non]) ?_ rfl ?_ ?_
  · wide_open with [and_self]
  · rw [List.length_map]; exact hl
  · intro y hy
    obtain ⟨b, hb, rfl⟩ := List.mem_map.mp hy
    refine ⟨[a0, a1, a2, a3, a4, .shr (.lst (bs.map bkD)), a6, a7, a8, a9, .non, .non, .shr (bkD b), .non], [a0, a1, a2, a3, a4, .shr (.lst (bs.map bkD)), a6, a7, a8, a9, .non, .non, .shr (bkD b), .non], .shr (.tup [.int b.fare, qd b.ch]), [a0, a1, a2, a3, a4, .shr (.lst (bs.map bkD)), a6, a7, a8, a9, .non, .non, .shr (bkD b), .non], ?_, ?_, ?_, ?_, ?_⟩
    · simp [setT, wipeE]
    · wide_open with [and_self]
    · wide_open with [p_bk2, p_bk3]
    · rfl
    · simp [wipeE]
theorem forced_comp (n : Nat) (bs : List Bk) (seats : Nat) (pay : Int) (hl : bs.length < LIM) (hst : tabAt fs n S.staysBy [.shr (.lst (bs.map bkD)), .shr (.int seats)] = .ok (.own (.lst ((staysR seats bs).map rowD))) [.non, .non]) (a0 a1 a2 a3 a4 a7 a9 : Sl) :
    (ev (tabAt fs n) (asgOf fs) (.comp [10, 12, 13] (.tp (.cons (.nm 12) (.cons (.nm 13) .nil))) .val (.cons (.call S.staysBy (.cons (.var 5) (.cons (.var 6) .nil))) .nil) (.pr .isC (.cons (.pr .idx (.cons (.var 12) (.cons (.cst (.int 5)) .nil))) (.cons (.cst .non) .nil))) (.tup (.cons (.var 8) (.cons (.var 13) .nil))))).e [a0, a1, a2, a3, a4, .shr (.lst (bs.map bkD)), .shr (.int seats), a7, .shr (.int pay), a9, .non, .non, .non, .non] = .ok (.own (.lst (((staysR seats bs).filterMap (forced pay)).map numD)), [a0, a1, a2, a3, a4, .shr (.lst (bs.map bkD)), .shr (.int seats), a7, .shr (.int pay), a9, .non, .non, .non, .non]) := by
  rw [← fm_forced]
  refine comp_e _ _ (ds := [.lst ((staysR seats bs).map rowD)]) (xs := (staysR seats bs).map rowD) (ρ1 := [a0, a1, a2, a3, a4, .shr (.lst (bs.map bkD)), .shr (.int seats), a7, .shr (.int pay), a9, .non, .non, .non, .non]) ?_ rfl ?_ ?_
  · wide_open with [S.hstays.asg, hst]
  · rw [List.length_map, staysR_len]; exact hl
  · intro y hy
    obtain ⟨p, hp, rfl⟩ := List.mem_map.mp hy
    rw [forced_row]
    unfold forced
    cases ha : p.1.ask with
    | some a =>
      refine ⟨[a0, a1, a2, a3, a4, .shr (.lst (bs.map bkD)), .shr (.int seats), a7, .shr (.int pay), a9, .non, .non, .shr (bkD p.1), .shr (qd p.2)], [a0, a1, a2, a3, a4, .shr (.lst (bs.map bkD)), .shr (.int seats), a7, .shr (.int pay), a9, .non, .non, .shr (bkD p.1), .shr (qd p.2)], ?_, ?_, ?_⟩
      · simp [setT, setT.setTs, wipeE, rowD]
      · wide_open with [p_bk5, is_non, ha]
        rfl
      · simp [wipeE]
    | none =>
      refine ⟨[a0, a1, a2, a3, a4, .shr (.lst (bs.map bkD)), .shr (.int seats), a7, .shr (.int pay), a9, .non, .non, .shr (bkD p.1), .shr (qd p.2)], [a0, a1, a2, a3, a4, .shr (.lst (bs.map bkD)), .shr (.int seats), a7, .shr (.int pay), a9, .non, .non, .shr (bkD p.1), .shr (qd p.2)], .shr (.tup [.int pay, qd p.2]), [a0, a1, a2, a3, a4, .shr (.lst (bs.map bkD)), .shr (.int seats), a7, .shr (.int pay), a9, .non, .non, .shr (bkD p.1), .shr (qd p.2)], ?_, ?_, ?_, ?_, ?_⟩
      · simp [setT, setT.setTs, wipeE, rowD]
      · wide_open with [p_bk5, is_non, ha]
        rfl
      · wide_open with [and_self]
      · rfl
      · simp [wipeE]
end
end Mx.My

end
section
set_option Elab.async false
set_option linter.all false
/-! Sp13: worth_with, by own asks. -/
namespace Mx.My
local macro_rules
  | `(tactic| wide_open with [$ts,*]) => `(tactic| simp only [e_var, e_cst, e_pr, t_pr, t_cst, t_var, t_call, t_tv, e_tv, t_not, e_not, t_and, e_and, t_or, e_or, e_ifx, e_tup, e_lst, e_call, o_nil, l_nil, a_nil, o_cons, l_cons, a_cons, bind_ok, bind_exc, bind_bad, isVar_var, isVar_pr, isVar_cst, isVar_call, isVar_tup, isVar_lst, isVar_comp, isVar_ifx, opd_some, opd_none, kep_eq, tst_eq, arg_f, arg_t, d_shr, d_own, prE_eq, get_val, get_bor, gets_nil, gets_cons, p_ne_int, p_eq_int, p_add, p_sub, p_abs, p_idx0, p_idx1, okShr_eq, c_done, c_asg, c_par, c_exp, c_retV, c_ife, ofR_ok, ofR_exc, then_nx, then_ret, then_exc, take_nil, take_val, List.getElem?_cons_zero, List.getElem?_cons_succ, List.set_cons_zero, List.set_cons_succ, List.length_cons, List.length_nil, Option.bind_some, Option.map_some, List.map_cons, List.map_nil, Ar.sl, List.replicate, List.cons_append, List.nil_append, backA, outs_nil, outs_shr, fin_nx, fin_ret, asgT_n, asgT_t, setT_n, setT_t, setTs_n, setTs_c, callK_eq, c_retP, c_retT, c_retC, c_retX, c_retD, c_retA, c_retI, Nat.reduceAdd, Nat.reduceLT, reduceIte, and_self, Nat.reduceSub, lm0, lm1, lm2, lm3, lm4, lm5, lm6, lm7, lm8, lm9, lm10, lm11, lm12, lm13, lm14, if_true, Nat.lt_add_one, Nat.zero_lt_succ, $[$ts:term],*])
open PySem
section
variable {fs : List Fd} (S : HasX fs)
theorem pay_idx (h : House) (t0 pay : Int) (r : List (Int × Int)) (ht : h.table = (t0, pay) :: r) : prI .idx [ruleD h, .int 1] = okShr (.tup (.tup [.int t0, .int pay] :: r.map fun r => .tup [.int r.1, .int r.2])) := by
  unfold ruleD
  rw [p_idx1, tabD, ht]
  rfl
theorem worth_spec (n d M : Nat) (hR : Roomy d M) (h : House) (g : Str) (kd : Kd) (m : Nat) (hm : m ≤ 12) (x : Go) (gr : List Go) (hx : h.gos.filter (fun b => b.name == g) = x :: gr) (hgl : h.gos.length < LIM) (hbl : h.bks.length < LIM) (hr : h.rule = "own") (t0 pay : Int) (tr : List (Int × Int)) (ht : h.table = (t0, pay) :: tr) (hpay : pay.natAbs ≤ 10000)
    (hb : ∀ b ∈ atGoing h g ++ more g kd m, Fit d b) (hM : (atGoing h g ++ more g kd m).length ≤ M) :
    tabAt fs (n + 8) S.worthWith [.shr (houseD h), .shr (.str g), .shr (kindD kd), .shr (.int m)] = .ok (.shr (qd (worthR pay x.seats (inOrd (atGoing h g ++ more g kd m))))) [.non, .non, .non, .non] := by
  have hd := hR.d0
  have hM0 := hR.m0
  have hmm := hR.m
  have hMl : M < LIM := lim_pos _ (by omega)
  have hb' : ∀ b ∈ inOrd (atGoing h g ++ more g kd m), Fit d b := fun b hh => hb b (inOrd_mem.mp hh)
  have hM' : (inOrd (atGoing h g ++ more g kd m)).length ≤ M := by rw [inOrd_len]; exact hM
  have hG : GREAT d M * 40000 < TINY := by rw [Nat.mul_comm]; exact hR.t
  have hDG : d ^ M ≤ GREAT d M := Nat.le_trans (pow_d_le d M) (great_D d M hM0)
  have hDT : d ^ M < TINY := by omega
  have hDp : 0 < d ^ M := Nat.pow_pos hd
  have hbook := booked_spec S.toHasH (n + 6) h g hbl
  have hgo := going_spec S.toHasH (n + 6) h g x gr hx hgl
  have hord := order_spec S.toHasO (n + 5) (atGoing h g ++ more g kd m) (by omega)
  have hadd : prI .add [.lst ((atGoing h g).map bkD), .lst ((more g kd m).map bkD)] = some (.own (.lst ((atGoing h g ++ more g kd m).map bkD))) := by
    rw [p_addL, if_pos (by rw [List.length_map, List.length_map, ← List.length_append]; omega), List.map_append]
  generalize hW : inOrd (atGoing h g ++ more g kd m) = bs at *
  have hst := (stays_spec S.toHasS (n + 2) d M hR.room bs x.seats (fun y hy => (hb' y hy).ch) hM').1
  have hmean := meanOwn_spec S.toHasS n d M hR.room bs x.seats (fun y hy => (hb' y hy).ch) (fun y hy => (hb' y hy).low) hM' hM0
  have hwill := willing_own S (n + 6) h bs x.seats hr _ hmean
  have hd1 : d ≤ d ^ M := by
    have := Nat.pow_le_pow_right hd hM0
    rwa [Nat.pow_one] at this
  have hfares := signed_spec S.toHasW (n + 4) d d 1000 hd (by omega) (by omega) (by omega) (bs.map fareW) (by
    intro r hr
    obtain ⟨b, hb1, rfl⟩ := List.mem_map.mp hr
    exact ⟨(hb' b hb1).ch.1, (hb' b hb1).fare⟩) (by
    rw [List.length_map]
    have h1 : bs.length * (1000 * d) ≤ M * (1000 * (M * (2 * d) ^ M)) := Nat.mul_le_mul hM' (Nat.mul_le_mul_left _ (Nat.le_trans hd1 (Nat.le_trans (pow_d_le d M) (Nat.le_mul_of_pos_left _ hM0))))
    rw [Nat.mul_left_comm M 1000] at h1
    unfold GREAT at hG
    omega)
  have hff := forced_fine S d M hR x.seats pay hpay bs hb' hM'
  have hfl : ((staysR x.seats bs).filterMap (forced pay)).length ≤ M := Nat.le_trans (List.length_filterMap_le _ _) (by rw [staysR_len]; exact hM')
  have hfb : ((staysR x.seats bs).filterMap (forced pay)).length * (10000 * (M * (2 * d) ^ M)) ≤ 10000 * GREAT d M := by
    refine Nat.le_trans (Nat.mul_le_mul_right _ hfl) ?_
    rw [Nat.mul_left_comm]
    exact Nat.le_refl _
  have hMD : M * (2 * d) ^ M ≤ GREAT d M := Nat.le_mul_of_pos_left _ hM0
  have hforced := signed_spec S.toHasW (n + 4) (d ^ M) (M * (2 * d) ^ M) 10000 hDp hDT (by omega) (by omega) _ hff (by omega)
  have f1 := fares_fine S d M hR bs hb' hM'
  have f2 := mean_fine S d M hR x.seats bs hb' hM'
  have f3 := (ssum_fine hDp hff).le hfb
  have f12 := f1.sub hDp f2
  have hm1 := minus_spec S.toHasP (n + 4) _ _ (f1.tiny hDp hDT (by omega)) (f2.tiny hDp hDT (by omega))
  have hm2 := minus_spec S.toHasP (n + 4) _ _ (f12.tiny hDp hDT (by omega)) (f3.tiny hDp hDT (by omega))
  rw [S.hworth.tab (n + 7) _ [.shr (houseD h), .shr (.str g), .shr (kindD kd), .shr (.int m), .non, .non, .non, .non, .non, .non, .non, .non, .non, .non] rfl rfl (by decide) rfl]
  have c1 := more_comp (tabAt fs (n + 7)) (asgOf fs) (houseD h) g kd m hm .non .non .non .non .non .non .non .non
  unfold c_worth_with
  wide_open with [c1, S.hbooked.asg, hbook, hadd, S.horder.asg, hord, S.hgoing.asg, hgo, go_idx5]
  have c2 := fare_comp (tabAt fs (n + 7)) (asgOf fs) bs (by omega) (.shr (houseD h)) (.shr (.str g)) (.shr (kindD kd)) (.shr (.int m)) (.own (.lst ((more g kd m).map bkD))) (.shr (.int x.seats)) .non .non .non
  have c3 := forced_comp S (n + 7) bs x.seats pay (by omega) hst (.shr (houseD h)) (.shr (.str g)) (.shr (kindD kd)) (.shr (.int m)) (.own (.lst ((more g kd m).map bkD))) (.shr (qd (ssum (bs.map fareW)))) .non
  wide_open with [c2, S.hsigned.asg, hfares, ho_idx2, pay_idx h t0 pay tr ht, c3, hforced, S.hminus.asg, S.hwilling.asg, hwill, hm1, hm2]
  rfl
end
end Mx.My

end
section
set_option Elab.async false
set_option linter.all false
/-! Sp14: kinds; the worths. -/
namespace Mx.My
local macro_rules
  | `(tactic| wide_open with [$ts,*]) => `(tactic| simp only [e_var, e_cst, e_pr, t_pr, t_cst, t_var, t_call, t_tv, e_tv, t_not, e_not, t_and, e_and, t_or, e_or, e_ifx, e_tup, e_lst, e_call, o_nil, l_nil, a_nil, o_cons, l_cons, a_cons, bind_ok, bind_exc, bind_bad, isVar_var, isVar_pr, isVar_cst, isVar_call, isVar_tup, isVar_lst, isVar_comp, isVar_ifx, opd_some, opd_none, kep_eq, tst_eq, arg_f, arg_t, d_shr, d_own, prE_eq, get_val, get_bor, gets_nil, gets_cons, p_ne_int, p_eq_int, p_add, p_sub, p_abs, p_idx0, p_idx1, okShr_eq, c_done, c_asg, c_par, c_exp, c_retV, c_ife, ofR_ok, ofR_exc, then_nx, then_ret, then_exc, take_nil, take_val, List.getElem?_cons_zero, List.getElem?_cons_succ, List.set_cons_zero, List.set_cons_succ, List.length_cons, List.length_nil, Option.bind_some, Option.map_some, List.map_cons, List.map_nil, Ar.sl, List.replicate, List.cons_append, List.nil_append, backA, outs_nil, outs_shr, fin_nx, fin_ret, asgT_n, asgT_t, setT_n, setT_t, setTs_n, setTs_c, callK_eq, c_retP, c_retT, c_retC, c_retX, c_retD, c_retA, c_retI, Nat.reduceAdd, Nat.reduceLT, reduceIte, and_self, Nat.reduceSub, lm0, lm1, lm2, lm3, lm4, lm5, lm6, lm7, lm8, lm9, lm10, lm11, lm12, lm13, lm14, if_true, Nat.lt_add_one, Nat.zero_lt_succ, $[$ts:term],*])
open PySem
theorem e_chain (Γ : Tab) (asg : Nat → List Bool) (p q : Pr) (a b c : E) (ρ : Env) : (ev Γ asg (.chain p q a b c)).e ρ = (opd (isVar a) (ev Γ asg a).e ρ).bind fun x => (opd (isVar b) (ev Γ asg b).e x.2).bind fun y => match gets y.2 [x.1, y.1] with
    | some [u, v] => (match prI p [u, v] with
      | some (.shr (.bl true)) => (opd (isVar c) (ev Γ asg c).e y.2).bind fun z => (match gets z.2 [y.1, z.1] with
        | some [v, w] => (match prI q [v, w] with
          | some (.shr (.bl r)) => .ok (.shr (.bl r), z.2)
          | _ => .bad)
        | _ => .bad)
      | some (.shr (.bl false)) => .ok (.shr (.bl false), y.2)
      | _ => .bad)
    | _ => .bad := by simp only [prI_eq]; rfl
theorem p_le (a b : Int) : prI .le [.int a, .int b] = okShr (.bl (decide (a ≤ b))) := by unfold prI; rfl
theorem isI_int (t : Ty) (a : Int) : prI (.isI t) [.int a] = okShr (.bl ((D.int a).isTy t)) := by unfold prI; rfl
structure HasK (fs : List Fd) extends HasX fs where
  isWhole : Nat
  isChance : Nat
  isKind : Nat
  lookHouse : Nat
  lookGoing : Nat
  lookKind : Nat
  allWorths : Nat
  worths : Nat
  hwhole : isF fs isWhole 3 3 [false, false, false] c_is_whole
  hkind : isF fs isKind 1 1 [false] (c_is_kind isWhole isChance)
  hchance : isF fs isChance 1 3 [false] (c_is_chance common)
  hlookKind : isF fs lookKind 3 3 [false, false, false] (c_look_kind lookHouse lookGoing isKind)
  hall : isF fs allWorths 3 5 [false, false, false] (c_all_worths worthWith)
  hworths : isF fs worths 3 3 [false, false, false] (c_worths lookKind allWorths)
section
variable {fs : List Fd} (S : HasK fs)
theorem whole_spec (n : Nat) (a lo hi : Int) (h1 : lo ≤ a) (h2 : a ≤ hi) : tabAt fs (n + 1) S.isWhole [.shr (.int a), .shr (.int lo), .shr (.int hi)] = .ok (.shr (.bl true)) [.non, .non, .non] := by
  rw [S.hwhole.tab n _ [.shr (.int a), .shr (.int lo), .shr (.int hi)] rfl rfl (by decide) rfl]
  unfold c_is_whole
  wide_open with [isI_int, D.isTy, e_chain, p_le, decide_eq_true h1, decide_eq_true h2, Bool.not_false]

theorem not_non (o : Option Int) : prI .isC [askD o, .non] = okShr (.bl o.isNone) := is_non o
theorem isI_tup (xs : List D) : prI (.isI .tuple) [.tup xs] = okShr (.bl true) := by unfold prI; rfl
theorem len_tup (xs : List D) : prI .len [.tup xs] = okShr (.int xs.length) := by unfold prI; rfl
theorem kd_idx0 (k : Kd) : prI .idx [kindD k, .int 0] = okShr (.int k.fare) := p_idx0 ..
theorem kd_idx1 (k : Kd) : prI .idx [kindD k, .int 1] = okShr (qd k.ch) := p_idx1 ..
theorem kd_idx2 (k : Kd) : prI .idx [kindD k, .int 2] = okShr (.int k.miss) := p_idx2 ..
theorem kd_idx3 (k : Kd) : prI .idx [kindD k, .int 3] = okShr (askD k.ask) := p_idx3 ..
theorem kd_tup (k : Kd) : prI (.isI .tuple) [kindD k] = okShr (.bl true) := isI_tup _
theorem kd_len (k : Kd) : prI .len [kindD k] = okShr (.int 4) := len_tup _
structure KdOk (k : Kd) : Prop where
  f0 : 0 ≤ k.fare
  f1 : k.fare ≤ 999
  m0 : 0 ≤ k.miss
  m1 : k.miss ≤ 9
  a0 : ∀ a, k.ask = some a → 0 ≤ a ∧ a ≤ 999
theorem kind_spec (n : Nat) (k : Kd) (h : KdOk k) (hch : tabAt fs (n + 1) S.isChance [.shr (qd k.ch)] = .ok (.shr (.bl true)) [.non]) : tabAt fs (n + 2) S.isKind [.shr (kindD k)] = .ok (.shr (.bl true)) [.non] := by
  rw [S.hkind.tab (n + 1) _ [.shr (kindD k)] rfl rfl (by decide) rfl]
  have w1 := whole_spec S n k.fare 0 999 h.f0 h.f1
  have w2 := whole_spec S n k.miss 0 9 h.m0 h.m1
  have h4 : ((4 : Int) == 4) = true := rfl
  unfold c_is_kind
  cases ha : k.ask with
  | none =>
    have i3 := kd_idx3 k
    have hn := is_non none
    rw [ha] at i3
    simp only [askD] at i3 hn
    wide_open with [kd_tup, Bool.not_true, kd_len, h4, Bool.false_eq_true, if_false, kd_idx0, S.hwhole.asg, w1, kd_idx1, S.hchance.asg, hch, kd_idx2, w2, i3, hn, Option.isNone_none]
  | some a =>
    have w3 := whole_spec S n a 0 999 (h.a0 a ha).1 (h.a0 a ha).2
    have i3 := kd_idx3 k
    have hn := is_non (some a)
    rw [ha] at i3
    simp only [askD] at i3 hn
    wide_open with [kd_tup, Bool.not_true, kd_len, h4, Bool.false_eq_true, if_false, kd_idx0, S.hwhole.asg, w1, kd_idx1, S.hchance.asg, hch, kd_idx2, w2, i3, hn, Option.isNone_some, w3]
end
end Mx.My

end
section
set_option Elab.async false
set_option linter.all false
/-! Sp15: all worths. -/
namespace Mx.My
local macro_rules
  | `(tactic| wide_open with [$ts,*]) => `(tactic| simp only [e_var, e_cst, e_pr, t_pr, t_cst, t_var, t_call, t_tv, e_tv, t_not, e_not, t_and, e_and, t_or, e_or, e_ifx, e_tup, e_lst, e_call, o_nil, l_nil, a_nil, o_cons, l_cons, a_cons, bind_ok, bind_exc, bind_bad, isVar_var, isVar_pr, isVar_cst, isVar_call, isVar_tup, isVar_lst, isVar_comp, isVar_ifx, opd_some, opd_none, kep_eq, tst_eq, arg_f, arg_t, d_shr, d_own, prE_eq, get_val, get_bor, gets_nil, gets_cons, p_ne_int, p_eq_int, p_add, p_sub, p_abs, p_idx0, p_idx1, okShr_eq, c_done, c_asg, c_par, c_exp, c_retV, c_ife, ofR_ok, ofR_exc, then_nx, then_ret, then_exc, take_nil, take_val, List.getElem?_cons_zero, List.getElem?_cons_succ, List.set_cons_zero, List.set_cons_succ, List.length_cons, List.length_nil, Option.bind_some, Option.map_some, List.map_cons, List.map_nil, Ar.sl, List.replicate, List.cons_append, List.nil_append, backA, outs_nil, outs_shr, fin_nx, fin_ret, asgT_n, asgT_t, setT_n, setT_t, setTs_n, setTs_c, callK_eq, c_retP, c_retT, c_retC, c_retX, c_retD, c_retA, c_retI, Nat.reduceAdd, Nat.reduceLT, reduceIte, and_self, Nat.reduceSub, lm0, lm1, lm2, lm3, lm4, lm5, lm6, lm7, lm8, lm9, lm10, lm11, lm12, lm13, lm14, if_true, Nat.lt_add_one, Nat.zero_lt_succ, $[$ts:term],*])
open PySem
structure HasL (fs : List Fd) extends HasK fs where
  isHouse : Nat
  hlookHouse : isF fs lookHouse 1 1 [false] (c_look_house isHouse)
  hlookGoing : isF fs lookGoing 2 4 [false, false] c_look_going
section
variable {fs : List Fd} (S : HasL fs)
theorem lookKind_spec (n : Nat) (h : House) (g : Str) (k : Kd) (h1 : tabAt fs n S.lookHouse [.shr (houseD h)] = .ok (.shr .non) [.non]) (h2 : tabAt fs n S.lookGoing [.shr (houseD h), .shr (.str g)] = .ok (.shr .non) [.non, .non]) (h3 : tabAt fs n S.isKind [.shr (kindD k)] = .ok (.shr (.bl true)) [.non]) :
    tabAt fs (n + 1) S.lookKind [.shr (houseD h), .shr (.str g), .shr (kindD k)] = .ok (.shr .non) [.non, .non, .non] := by
  rw [S.hlookKind.tab n _ [.shr (houseD h), .shr (.str g), .shr (kindD k)] rfl rfl (by decide) rfl]
  unfold c_look_kind
  wide_open with [S.hlookHouse.asg, h1, S.hlookGoing.asg, h2, S.hkind.asg, h3, Bool.not_true, Bool.false_eq_true, if_false]
/-- the worths of 0 to 12 more -/
def worthsR (f : Nat → Rat) : List Rat := (List.range 13).map f
theorem allWorths_spec (n : Nat) (h : House) (g : Str) (k : Kd) (f : Nat → Rat) (hw : ∀ m : Nat, m ≤ 12 → tabAt fs n S.worthWith [.shr (houseD h), .shr (.str g), .shr (kindD k), .shr (.int m)] = .ok (.shr (qd (f m))) [.non, .non, .non, .non]) :
    tabAt fs (n + 1) S.allWorths [.shr (houseD h), .shr (.str g), .shr (kindD k)] = .ok (.own (.lst ((worthsR f).map qd))) [.non, .non, .non] := by
  rw [S.hall.tab n _ [.shr (houseD h), .shr (.str g), .shr (kindD k), .non, .non] rfl rfl (by decide) rfl]
  have hcomp : (ev (tabAt fs n) (asgOf fs) (.comp [3, 4] (.nm 4) .rng (.cons (.pr .add (.cons (.cst (.int 12)) (.cons (.cst (.int 1)) .nil))) .nil) (.cst (.bl true)) (.call S.worthWith (.cons (.var 0) (.cons (.var 1) (.cons (.var 2) (.cons (.var 4) .nil))))))).e [.shr (houseD h), .shr (.str g), .shr (kindD k), .non, .non] = .ok (.own (.lst ((numsD 13).filterMap fun d => match d with | .int i => some (qd (f i.toNat)) | _ => none)), [.shr (houseD h), .shr (.str g), .shr (kindD k), .non, .non]) := by
    refine comp_e _ _ (ds := [.int ((13 : Nat) : Int)]) (xs := numsD 13) (ρ1 := [.shr (houseD h), .shr (.str g), .shr (kindD k), .non, .non]) ?_ (rng_nums 13 (by omega)) ?_ ?_
    · wide_open with [and_self]
      rfl
    · exact lm13
    · intro y hy
      obtain ⟨m, hm, rfl⟩ := List.mem_map.mp hy
      rw [List.mem_range] at hm
      refine ⟨[.shr (houseD h), .shr (.str g), .shr (kindD k), .non, .shr (.int m)], [.shr (houseD h), .shr (.str g), .shr (kindD k), .non, .shr (.int m)], .shr (qd (f m)), [.shr (houseD h), .shr (.str g), .shr (kindD k), .non, .shr (.int m)], ?_, ?_, ?_, ?_, ?_⟩
      · simp [setT, wipeE]
      · wide_open with [and_self]
      · wide_open with [S.hworth.asg, hw m (by omega)]
      · show some _ = some _
        rw [Int.toNat_natCast]
      · simp [wipeE]
  unfold c_all_worths
  wide_open with [hcomp]
  rfl
theorem worths_spec (n : Nat) (h : House) (g : Str) (k : Kd) (f : Nat → Rat) (h1 : tabAt fs n S.lookKind [.shr (houseD h), .shr (.str g), .shr (kindD k)] = .ok (.shr .non) [.non, .non, .non]) (h2 : tabAt fs n S.allWorths [.shr (houseD h), .shr (.str g), .shr (kindD k)] = .ok (.own (.lst ((worthsR f).map qd))) [.non, .non, .non]) :
    tabAt fs (n + 1) S.worths [.shr (houseD h), .shr (.str g), .shr (kindD k)] = .ok (.own (.lst ((worthsR f).map qd))) [.non, .non, .non] := by
  rw [S.hworths.tab n _ [.shr (houseD h), .shr (.str g), .shr (kindD k)] rfl rfl (by decide) rfl]
  unfold c_worths
  wide_open with [S.hlookKind.asg, h1, S.hall.asg, h2]
end
end Mx.My

end
section
set_option Elab.async false
set_option linter.all false
/-! Sp16: the best number, what each adds, the turning. -/
namespace Mx.My
local macro_rules
  | `(tactic| wide_open with [$ts,*]) => `(tactic| simp only [e_var, e_cst, e_pr, t_pr, t_cst, t_var, t_call, t_tv, e_tv, t_not, e_not, t_and, e_and, t_or, e_or, e_ifx, e_tup, e_lst, e_call, o_nil, l_nil, a_nil, o_cons, l_cons, a_cons, bind_ok, bind_exc, bind_bad, isVar_var, isVar_pr, isVar_cst, isVar_call, isVar_tup, isVar_lst, isVar_comp, isVar_ifx, opd_some, opd_none, kep_eq, tst_eq, arg_f, arg_t, d_shr, d_own, prE_eq, get_val, get_bor, gets_nil, gets_cons, p_ne_int, p_eq_int, p_add, p_sub, p_abs, p_idx0, p_idx1, okShr_eq, c_done, c_asg, c_par, c_exp, c_retV, c_ife, ofR_ok, ofR_exc, then_nx, then_ret, then_exc, take_nil, take_val, List.getElem?_cons_zero, List.getElem?_cons_succ, List.set_cons_zero, List.set_cons_succ, List.length_cons, List.length_nil, Option.bind_some, Option.map_some, List.map_cons, List.map_nil, Ar.sl, List.replicate, List.cons_append, List.nil_append, backA, outs_nil, outs_shr, fin_nx, fin_ret, asgT_n, asgT_t, setT_n, setT_t, setTs_n, setTs_c, callK_eq, c_retP, c_retT, c_retC, c_retX, c_retD, c_retA, c_retI, Nat.reduceAdd, Nat.reduceLT, reduceIte, and_self, Nat.reduceSub, lm0, lm1, lm2, lm3, lm4, lm5, lm6, lm7, lm8, lm9, lm10, lm11, lm12, lm13, lm14, if_true, Nat.lt_add_one, Nat.zero_lt_succ, $[$ts:term],*])
open PySem
theorem p_gt (a b : Int) : prI .gt [.int a, .int b] = okShr (.bl (decide (b < a))) := by unfold prI; rfl
theorem p_lt (a b : Int) : prI .lt [.int a, .int b] = okShr (.bl (decide (a < b))) := by unfold prI; rfl
structure HasB (fs : List Fd) extends HasL fs where
  best : Nat
  adds : Nat
  turning : Nat
  hbest : isF fs best 3 7 [false, false, false] (c_best_number lookKind allWorths minus)
  hadds : isF fs adds 3 7 [false, false, false] (c_adds allWorths minus)
  hturn : isF fs turning 3 7 [false, false, false] (c_turning lookKind adds)
/-- the first of the greatest -/
def bestF (rows : List Rat) : Nat → Nat → List Rat → Nat
  | _, b, [] => b
  | k, b, q :: r => bestF rows (k + 1) (if 0 < (q - rows.getD b 0).num then k else b) r
section
variable {fs : List Fd} (S : HasB fs)
def bBody (minus : Nat) : C := (.ife (.pr .gt (.cons (.pr .idx (.cons (.call minus (.cons (.var 6) (.cons (.pr .idx (.cons (.var 3) (.cons (.var 4) .nil))) .nil))) (.cons (.cst (.int 0)) .nil))) (.cons (.cst (.int 0)) .nil))) (.asg (.nm 4) (.var 5) .done) .done .done)
theorem best_loop (n : Nat) (a0 a1 a2 : Sl) (rows : List Rat) (ht : ∀ q ∈ rows, Tiny q) (r : List Rat) : ∀ (k b : Nat) (z5 z6 : Sl), rows.drop k = r → b < rows.length →
    ∃ z5' z6', forG (.tp (.cons (.nm 5) (.cons (.nm 6) .nil))) (evC (tabAt fs (n + 3)) (asgOf fs) (bBody S.minus)) (enumD k (r.map qd)) [a0, a1, a2, .shr (.lst (rows.map qd)), .shr (.int b), z5, z6] = .nx [a0, a1, a2, .shr (.lst (rows.map qd)), .shr (.int (bestF rows k b r)), z5', z6'] := by
  induction r with
  | nil => intro k b z5 z6 _ _; exact ⟨z5, z6, rfl⟩
  | cons q r ih =>
    intro k b z5 z6 hk hb
    have hk1 : rows.drop (k + 1) = r := by rw [← List.drop_drop, hk]; rfl
    have hq : q ∈ rows := List.mem_of_mem_drop (i := k) (by rw [hk]; exact List.mem_cons_self ..)
    have hkl : k < rows.length := by
      rcases Nat.lt_or_ge k rows.length with h | h
      · exact h
      · rw [List.drop_of_length_le h] at hk; cases hk
    have hbm : rows.getD b 0 ∈ rows := by rw [List.getD, List.getElem?_eq_getElem hb]; exact List.getElem_mem hb
    have hg : getAt (rows.map qd) (b : Int) = some (qd (rows.getD b 0)) := getAt_nat _ b _ (get_map hb)
    have hm := minus_spec S.toHasP n q (rows.getD b 0) (ht q hq) (ht _ hbm)
    by_cases hc : 0 < (q - rows.getD b 0).num
    · obtain ⟨w5, w6, e⟩ := ih (k + 1) k (.shr (.int k)) (.shr (qd q)) hk1 hkl
      refine ⟨w5, w6, ?_⟩
      rw [List.map_cons, enumD_cons, forG]
      unfold bBody
      unfold bBody at e
      wide_open with [p_idxL, hg, S.hminus.asg, hm, qd_idx0, p_gt, decide_eq_true hc, e]
      rw [bestF, if_pos hc]
    · obtain ⟨w5, w6, e⟩ := ih (k + 1) b (.shr (.int k)) (.shr (qd q)) hk1 hb
      refine ⟨w5, w6, ?_⟩
      rw [List.map_cons, enumD_cons, forG]
      unfold bBody
      unfold bBody at e
      wide_open with [p_idxL, hg, S.hminus.asg, hm, qd_idx0, p_gt, decide_eq_false hc, Bool.false_eq_true, if_false, e]
      rw [bestF, if_neg hc]

def bestR (rows : List Rat) : Nat := bestF rows 0 0 rows
theorem best_spec (n : Nat) (h g k : D) (rows : List Rat) (ht : ∀ q ∈ rows, Tiny q) (h0 : 0 < rows.length) (h1 : tabAt fs (n + 3) S.lookKind [.shr h, .shr g, .shr k] = .ok (.shr .non) [.non, .non, .non]) (h2 : tabAt fs (n + 3) S.allWorths [.shr h, .shr g, .shr k] = .ok (.own (.lst (rows.map qd))) [.non, .non, .non]) :
    tabAt fs (n + 4) S.best [.shr h, .shr g, .shr k] = .ok (.shr (.int (bestR rows))) [.non, .non, .non] := by
  rw [S.hbest.tab (n + 3) _ [.shr h, .shr g, .shr k, .non, .non, .non, .non] rfl rfl (by decide) rfl]
  obtain ⟨z5, z6, e⟩ := best_loop S n (.shr h) (.shr g) (.shr k) rows ht rows 0 0 .non .non rfl h0
  unfold bBody at e
  have hen : itemsOf .enum [.lst (rows.map qd)] = some (enumD 0 (rows.map qd)) := rfl
  unfold c_best_number
  wide_open with [S.hlookKind.asg, h1, S.hall.asg, h2, c_for, hen]
  have e' : forG (.tp (.cons (.nm 5) (.cons (.nm 6) .nil))) _ _ [.shr h, .shr g, .shr k, .shr (.lst (rows.map qd)), .shr (.int 0), .non, .non] = _ := e
  rw [e']
  wide_open with [and_self]
  rfl
def addsR (rows : List Rat) : List Rat := (rows.zip rows.tail).map fun p => p.2 - p.1
def addD : D → Option D
  | .tup [a, b] => some (qd (unq b - unq a))
  | _ => none
theorem fm_adds (ps : List (Rat × Rat)) : (ps.map fun p => pairD (qd p.1, qd p.2)).filterMap addD = (ps.map fun p => p.2 - p.1).map qd := by
  induction ps with
  | nil => rfl
  | cons p ps ih =>
    rw [List.map_cons, List.filterMap_cons]
    show qd (unq (qd p.2) - unq (qd p.1)) :: _ = _
    rw [unq_qd, unq_qd, ih]
    rfl
theorem adds_spec (n : Nat) (h g k : D) (rows : List Rat) (ht : ∀ q ∈ rows, Tiny q) (hl : rows.length < 1000) (h2 : tabAt fs (n + 3) S.allWorths [.shr h, .shr g, .shr k] = .ok (.own (.lst (rows.map qd))) [.non, .non, .non]) :
    tabAt fs (n + 4) S.adds [.shr h, .shr g, .shr k] = .ok (.own (.lst ((addsR rows).map qd))) [.non, .non, .non] := by
  rw [S.hadds.tab (n + 3) _ [.shr h, .shr g, .shr k, .non, .non, .non, .non] rfl rfl (by decide) rfl]
  have hz : ((rows.map qd).zip ((rows.map qd).drop 1)).map pairD = (rows.zip rows.tail).map fun p => pairD (qd p.1, qd p.2) := by
    rw [List.drop_one, ← List.map_tail, List.zip_map, List.map_map]
    rfl
  have hit : itemsOf .zip [.lst (rows.map qd), .lst ((rows.map qd).drop 1)] = some ((rows.zip rows.tail).map fun p => pairD (qd p.1, qd p.2)) := by rw [← hz]; rfl
  have hsl : prI (.slc true false) [.lst (rows.map qd), .int 1] = some (.own (.lst ((rows.map qd).drop 1))) := p_slcL _ 1
  have hcomp : (ev (tabAt fs (n + 3)) (asgOf fs) (.comp [4, 5, 6] (.tp (.cons (.nm 5) (.cons (.nm 6) .nil))) .zip (.cons (.var 3) (.cons (.pr (.slc true false) (.cons (.var 3) (.cons (.cst (.int 1)) .nil))) .nil)) (.cst (.bl true)) (.call S.minus (.cons (.var 6) (.cons (.var 5) .nil))))).e [.shr h, .shr g, .shr k, .own (.lst (rows.map qd)), .non, .non, .non] = .ok (.own (.lst (((rows.zip rows.tail).map fun p => pairD (qd p.1, qd p.2)).filterMap addD)), [.shr h, .shr g, .shr k, .shr (.lst (rows.map qd)), .non, .non, .non]) := by
    refine comp_e _ _ (ds := [.lst (rows.map qd), .lst ((rows.map qd).drop 1)]) (xs := (rows.zip rows.tail).map fun p => pairD (qd p.1, qd p.2)) (ρ1 := [.shr h, .shr g, .shr k, .shr (.lst (rows.map qd)), .non, .non, .non]) ?_ hit ?_ ?_
    · wide_open with [hsl]
    · rw [List.length_map, List.length_zip]; exact lim_pos _ (by omega)
    · intro y hy
      obtain ⟨p, hp, rfl⟩ := List.mem_map.mp hy
      have hp1 : p.1 ∈ rows := (List.of_mem_zip hp).1
      have hp2 : p.2 ∈ rows := List.mem_of_mem_tail (List.of_mem_zip hp).2
      have hm := minus_spec S.toHasP n p.2 p.1 (ht _ hp2) (ht _ hp1)
      refine ⟨[.shr h, .shr g, .shr k, .shr (.lst (rows.map qd)), .non, .shr (qd p.1), .shr (qd p.2)], [.shr h, .shr g, .shr k, .shr (.lst (rows.map qd)), .non, .shr (qd p.1), .shr (qd p.2)], .shr (qd (p.2 - p.1)), [.shr h, .shr g, .shr k, .shr (.lst (rows.map qd)), .non, .shr (qd p.1), .shr (qd p.2)], ?_, ?_, ?_, ?_, ?_⟩
      · simp [setT, setT.setTs, wipeE, pairD]
      · wide_open with [and_self]
      · wide_open with [S.hminus.asg, hm]
      · show some _ = some (qd (unq (qd p.2) - unq (qd p.1)))
        rw [unq_qd, unq_qd]
      · simp [wipeE]
  rw [fm_adds] at hcomp
  unfold c_adds
  wide_open with [S.hall.asg, h2, hcomp]
  rfl
end
end Mx.My

end
section
set_option Elab.async false
set_option linter.all false
/-! Sp17: the turning. -/
namespace Mx.My
local macro_rules
  | `(tactic| wide_open with [$ts,*]) => `(tactic| simp only [e_var, e_cst, e_pr, t_pr, t_cst, t_var, t_call, t_tv, e_tv, t_not, e_not, t_and, e_and, t_or, e_or, e_ifx, e_tup, e_lst, e_call, o_nil, l_nil, a_nil, o_cons, l_cons, a_cons, bind_ok, bind_exc, bind_bad, isVar_var, isVar_pr, isVar_cst, isVar_call, isVar_tup, isVar_lst, isVar_comp, isVar_ifx, opd_some, opd_none, kep_eq, tst_eq, arg_f, arg_t, d_shr, d_own, prE_eq, get_val, get_bor, gets_nil, gets_cons, p_ne_int, p_eq_int, p_add, p_sub, p_abs, p_idx0, p_idx1, okShr_eq, c_done, c_asg, c_par, c_exp, c_retV, c_ife, ofR_ok, ofR_exc, then_nx, then_ret, then_exc, take_nil, take_val, List.getElem?_cons_zero, List.getElem?_cons_succ, List.set_cons_zero, List.set_cons_succ, List.length_cons, List.length_nil, Option.bind_some, Option.map_some, List.map_cons, List.map_nil, Ar.sl, List.replicate, List.cons_append, List.nil_append, backA, outs_nil, outs_shr, fin_nx, fin_ret, asgT_n, asgT_t, setT_n, setT_t, setTs_n, setTs_c, callK_eq, c_retP, c_retT, c_retC, c_retX, c_retD, c_retA, c_retI, Nat.reduceAdd, Nat.reduceLT, reduceIte, and_self, Nat.reduceSub, lm0, lm1, lm2, lm3, lm4, lm5, lm6, lm7, lm8, lm9, lm10, lm11, lm12, lm13, lm14, if_true, Nat.lt_add_one, Nat.zero_lt_succ, $[$ts:term],*])
open PySem
theorem c_augI (Γ : Tab) (asg : Nat → List Bool) (i : Nat) (p : Pr) (e : E) (k : C) (ρ : Env) : evC Γ asg (.augI i p e k) ρ = match ρ[i]? with
    | some (.shr (.int x)) => ofR ((ev Γ asg (.cons e .nil)).l ρ) fun y => match y.1 with
      | [.int z] => (match augP p x z with
        | some w => evC Γ asg k (y.2.set i (.shr (.int w)))
        | none => .bad)
      | _ => .bad
    | _ => .bad := rfl
theorem aug_sub (x y : Int) : augP .sub x y = some (x - y) := rfl
theorem len_lst (xs : List D) : prI .len [.lst xs] = okShr (.int xs.length) := by unfold prI; rfl
def turnF (signs : List Bool) : Nat → Nat
  | 0 => 0
  | j + 1 => if signs.getD j false then turnF signs j else j + 1
def turnR (signs : List Bool) : Option Int := if turnF signs signs.length < signs.length then some (turnF signs signs.length) else none
theorem turnF_le (signs : List Bool) (j : Nat) : turnF signs j ≤ j := by
  induction j with
  | zero => exact Nat.le_refl _
  | succ j ih => rw [turnF]; split <;> omega
section
variable {fs : List Fd} (S : HasB fs)
theorem turn_loop (Γ : Tab) (asg : Nat → List Bool) (a0 a1 a2 a5 a6 : Sl) (signs : List Bool) (j : Nat) : ∀ (m : Nat), j < m → j ≤ signs.length →
    whlG (ev Γ asg (.and2 (.pr .gt (.cons (.var 4) (.cons (.cst (.int 0)) .nil))) (.tv (.pr .idx (.cons (.var 3) (.cons (.pr .sub (.cons (.var 4) (.cons (.cst (.int 1)) .nil))) .nil)))))).t (evC Γ asg (.augI 4 .sub (.cst (.int 1)) .done)) m [a0, a1, a2, .own (.lst (signs.map D.bl)), .shr (.int j), a5, a6] = .nx [a0, a1, a2, .own (.lst (signs.map D.bl)), .shr (.int (turnF signs j)), a5, a6] := by
  induction j with
  | zero =>
    intro m hm _
    obtain ⟨m, rfl⟩ : ∃ k, m = k + 1 := ⟨m - 1, by omega⟩
    rw [whl_end (ρ1 := [a0, a1, a2, .own (.lst (signs.map D.bl)), .shr (.int (0 : Nat)), a5, a6])]
    · rfl
    · have : decide ((0 : Int) < ((0 : Nat) : Int)) = false := rfl
      wide_open with [p_gt, this, Bool.false_eq_true, if_false]
  | succ j ih =>
    intro m hm hj
    obtain ⟨m, rfl⟩ : ∃ k, m = k + 1 := ⟨m - 1, by omega⟩
    have hp : decide ((0 : Int) < ((j + 1 : Nat) : Int)) = true := decide_eq_true (by omega)
    have hs : ((j + 1 : Nat) : Int) - 1 = (j : Int) := by omega
    have hg : getAt (signs.map D.bl) (j : Int) = some (.bl (signs.getD j false)) := getAt_nat _ j _ (by simp [List.getD, show j < signs.length by omega])
    cases hb : signs.getD j false with
    | true =>
      have e := ih m (by omega) (by omega)
      rw [whl_step (ρ1 := [a0, a1, a2, .own (.lst (signs.map D.bl)), .shr (.int (j + 1 : Nat)), a5, a6]) (ρ2 := [a0, a1, a2, .own (.lst (signs.map D.bl)), .shr (.int j), a5, a6])]
      · rw [e, turnF, if_pos hb]
      · rw [hb] at hg
        wide_open with [p_gt, hp, p_idxL, hs, hg]
      · wide_open with [c_augI, aug_sub, hs]
    | false =>
      rw [whl_end (ρ1 := [a0, a1, a2, .own (.lst (signs.map D.bl)), .shr (.int (j + 1 : Nat)), a5, a6])]
      · rw [turnF, hb]; rfl
      · rw [hb] at hg
        wide_open with [p_gt, hp, p_idxL, hs, hg]
theorem turn_spec (n : Nat) (h g k : D) (rows : List Rat) (hl : rows.length < 1000) (h1 : tabAt fs n S.lookKind [.shr h, .shr g, .shr k] = .ok (.shr .non) [.non, .non, .non]) (h2 : tabAt fs n S.adds [.shr h, .shr g, .shr k] = .ok (.own (.lst (rows.map qd))) [.non, .non, .non]) :
    tabAt fs (n + 1) S.turning [.shr h, .shr g, .shr k] = .ok (.shr (askD (turnR (rows.map fun q => decide (q.num < 0))))) [.non, .non, .non] := by
  rw [S.hturn.tab n _ [.shr h, .shr g, .shr k, .non, .non, .non, .non] rfl rfl (by decide) rfl]
  have hcomp : (ev (tabAt fs n) (asgOf fs) (.comp [5, 6] (.nm 6) .val (.cons (.call S.adds (.cons (.var 0) (.cons (.var 1) (.cons (.var 2) .nil)))) .nil) (.cst (.bl true)) (.pr .lt (.cons (.pr .idx (.cons (.var 6) (.cons (.cst (.int 0)) .nil))) (.cons (.cst (.int 0)) .nil))))).e [.shr h, .shr g, .shr k, .non, .non, .non, .non] = .ok (.own (.lst ((rows.map qd).filterMap fun d => some (.bl (decide ((unq d).num < 0))))), [.shr h, .shr g, .shr k, .non, .non, .non, .non]) := by
    refine comp_e _ _ (ds := [.lst (rows.map qd)]) (xs := rows.map qd) (ρ1 := [.shr h, .shr g, .shr k, .non, .non, .non, .non]) ?_ rfl ?_ ?_
    · wide_open with [S.hadds.asg, h2]
    · rw [List.length_map]; exact lim_pos _ hl
    · intro y hy
      obtain ⟨q, hq, rfl⟩ := List.mem_map.mp hy
      refine ⟨[.shr h, .shr g, .shr k, .non, .non, .non, .shr (qd q)], [.shr h, .shr g, .shr k, .non, .non, .non, .shr (qd q)], .shr (.bl (decide (q.num < 0))), [.shr h, .shr g, .shr k, .non, .non, .non, .shr (qd q)], ?_, ?_, ?_, ?_, ?_⟩
      · simp [setT, wipeE]
      · wide_open with [and_self]
      · wide_open with [qd_idx0, p_lt]
      · show some _ = some _
        rw [unq_qd]
      · simp [wipeE]
  have hfm : ((rows.map qd).filterMap fun d => some (D.bl (decide ((unq d).num < 0)))) = (rows.map fun q => decide (q.num < 0)).map D.bl := by
    rw [List.filterMap_map, List.map_map]
    rw [← List.filterMap_eq_map]
    congr 1
    funext q
    show some (D.bl _) = some (D.bl _)
    rw [unq_qd]
  rw [hfm] at hcomp
  generalize hsg : (rows.map fun q => decide (q.num < 0)) = signs at *
  have hsl : signs.length < 1000 := by rw [← hsg, List.length_map]; exact hl
  have hfu : signs.length < FUEL := by
    have h3 : 1000 < TINY := tiny_1000
    have := fuel_big
    have := tiny_big
    omega
  have e := turn_loop (tabAt fs n) (asgOf fs) (.shr h) (.shr g) (.shr k) .non .non signs signs.length FUEL hfu (Nat.le_refl _)
  have hlen : ((signs.map D.bl).length : Int) = (signs.length : Int) := by rw [List.length_map]
  unfold c_turning
  wide_open with [S.hlookKind.asg, h1, hcomp, len_lst, hlen, c_whl, e, p_lt]
  unfold turnR
  by_cases hc : turnF signs signs.length < signs.length
  · have hd : decide ((turnF signs signs.length : Int) < (signs.length : Int)) = true := by simp; omega
    wide_open with [hd, hc, askD]
  · have hd : decide ((turnF signs signs.length : Int) < (signs.length : Int)) = false := by simp; omega
    wide_open with [hd, hc, askD, Bool.false_eq_true, if_false]
end
end Mx.My

end
section
set_option Elab.async false
set_option linter.all false
/-! Sq0: comprehensions and loops over typed rows. -/
namespace Mx.My
local macro_rules
  | `(tactic| wide_open with [$ts,*]) => `(tactic| simp only [e_var, e_cst, e_pr, t_pr, t_cst, t_var, t_call, t_tv, e_tv, t_not, e_not, t_and, e_and, t_or, e_or, e_ifx, e_tup, e_lst, e_call, o_nil, l_nil, a_nil, o_cons, l_cons, a_cons, bind_ok, bind_exc, bind_bad, isVar_var, isVar_pr, isVar_cst, isVar_call, isVar_tup, isVar_lst, isVar_comp, isVar_ifx, opd_some, opd_none, kep_eq, tst_eq, arg_f, arg_t, d_shr, d_own, prE_eq, get_val, get_bor, gets_nil, gets_cons, p_ne_int, p_eq_int, p_add, p_sub, p_abs, p_idx0, p_idx1, okShr_eq, c_done, c_asg, c_par, c_exp, c_retV, c_ife, ofR_ok, ofR_exc, then_nx, then_ret, then_exc, take_nil, take_val, List.getElem?_cons_zero, List.getElem?_cons_succ, List.set_cons_zero, List.set_cons_succ, List.length_cons, List.length_nil, Option.bind_some, Option.map_some, List.map_cons, List.map_nil, Ar.sl, List.replicate, List.cons_append, List.nil_append, backA, outs_nil, outs_shr, fin_nx, fin_ret, asgT_n, asgT_t, setT_n, setT_t, setTs_n, setTs_c, callK_eq, c_retP, c_retT, c_retC, c_retX, c_retD, c_retA, c_retI, Nat.reduceAdd, Nat.reduceLT, reduceIte, and_self, Nat.reduceSub, lm0, lm1, lm2, lm3, lm4, lm5, lm6, lm7, lm8, lm9, lm10, lm11, lm12, lm13, lm14, if_true, Nat.lt_add_one, Nat.zero_lt_succ, $[$ts:term],*])
open PySem
def trnR (own : List Nat) (fc : Env → R (Bool × Env)) (fe : Env → R (Sl × Env)) : Option Env → R (Option D × Env)
  | none => .bad
  | some ρ1 => (fc ρ1).bind fun c => if c.1 then (fe c.2).bind fun s => match s.1.d? with
      | some d => .ok (some d, wipeE s.2 own)
      | none => .bad
    else .ok (none, wipeE c.2 own)
theorem trnR_eq (own : List Nat) (fc : Env → R (Bool × Env)) (fe : Env → R (Sl × Env)) (ρ1 : Env) : trnR own fc fe (some ρ1) = (fc ρ1).bind fun c => if c.1 then (fe c.2).bind fun s => match s.1.d? with
      | some d => .ok (some d, wipeE s.2 own)
      | none => .bad
    else .ok (none, wipeE c.2 own) := rfl
theorem turn_of {own t fc fe W x o} (h : trnR own fc fe (setT t x W) = .ok (o, W)) : Turn own t fc fe W x o := by
  cases hs : setT t x W with
  | none => rw [hs] at h; cases h
  | some ρ1 =>
    rw [hs, trnR_eq] at h
    cases hc : fc ρ1 with
    | bad => rw [hc] at h; cases h
    | exc c ρ => rw [hc] at h; cases h
    | ok c =>
      obtain ⟨b, ρ2⟩ := c
      rw [hc, bind_ok] at h
      cases b with
      | false => cases h; exact ⟨ρ1, ρ2, hs, hc, rfl⟩
      | true =>
        simp only [if_true] at h
        cases he : fe ρ2 with
        | bad => rw [he] at h; cases h
        | exc c ρ => rw [he] at h; cases h
        | ok s =>
          obtain ⟨s, ρ3⟩ := s
          rw [he, bind_ok] at h
          simp only at h
          cases hd : s.d? with
          | none => rw [hd] at h; cases h
          | some d => rw [hd] at h; cases h; exact ⟨ρ1, ρ2, s, ρ3, hs, hc, he, hd, rfl⟩
def compR (own : List Nat) (t : T) (fc : Env → R (Bool × Env)) (fe : Env → R (Sl × Env)) (xs : List D) (ρ : Env) : R (Sl × Env) := (compG own t fc fe xs ρ []).bind fun y => .ok (.own (.lst y.1), unwipe ρ own y.2)
theorem e_cmp (Γ : Tab) (asg : Nat → List Bool) (own : List Nat) (t : T) (k : K) (src cnd elt : E) (ρ : Env) : (ev Γ asg (.comp own t k src cnd elt)).e ρ = ((ev Γ asg src).l ρ).bind fun x => match itemsOf k x.1 with
    | some xs => if xs.length < LIM then compR own t (ev Γ asg cnd).t (ev Γ asg elt).e xs x.2 else .bad
    | none => .bad := rfl
theorem compR_ty {α β : Type} (as : List α) (enc : α → D) (g : α → Option β) (enc' : β → D) {own t fc fe ρ} (h : ∀ a ∈ as, trnR own fc fe (setT t (enc a) (wipeE ρ own)) = .ok ((g a).map enc', wipeE ρ own)) : compR own t fc fe (as.map enc) ρ = .ok (.own (.lst ((as.filterMap g).map enc')), ρ) := by
  have key : ∀ (as : List α) (ρ2 : Env) (acc : List D), (∀ a ∈ as, trnR own fc fe (setT t (enc a) (wipeE ρ own)) = .ok ((g a).map enc', wipeE ρ own)) → wipeE ρ2 own = wipeE ρ own → ∃ ρ3, compG own t fc fe (as.map enc) ρ2 acc = .ok (acc ++ (as.filterMap g).map enc', ρ3) ∧ wipeE ρ3 own = wipeE ρ own := by
    intro as
    induction as with
    | nil => intro ρ2 acc _ h2; exact ⟨ρ2, by simp [compG], h2⟩
    | cons a as ih =>
      intro ρ2 acc hh h2
      have ha := turn_of (hh a (List.mem_cons_self ..))
      have hr := fun y hy => hh y (List.mem_cons_of_mem _ hy)
      cases e : g a with
      | none =>
        rw [e] at ha
        obtain ⟨ρ4, ρ5, h3, h4, h5⟩ := ha
        obtain ⟨ρ6, e1, e2⟩ := ih ρ5 acc hr h5
        refine ⟨ρ6, ?_, e2⟩
        simp only [List.map_cons, compG, h2, h3, h4, e1, List.filterMap_cons, e]
      | some y =>
        rw [e] at ha
        obtain ⟨ρ4, ρ5, s, ρ6, h3, h4, h5, h6, h7⟩ := ha
        obtain ⟨ρ7, e1, e2⟩ := ih ρ6 (acc ++ [enc' y]) hr h7
        refine ⟨ρ7, ?_, e2⟩
        simp only [List.map_cons, compG, h2, h3, h4, h5, h6, e1, List.filterMap_cons, e, List.append_assoc, List.singleton_append, List.map_cons]
  obtain ⟨ρ3, e1, e2⟩ := key as ρ [] h rfl
  rw [compR, e1, bind_ok, unwipe_of e2, List.nil_append]
theorem compR_tx {α β : Type} {xs : List D} (as : List α) (enc : α → D) (g : α → Option β) (enc' : β → D) {own t fc fe ρ} (hx : xs = as.map enc) (h : ∀ a ∈ as, trnR own fc fe (setT t (enc a) (wipeE ρ own)) = .ok ((g a).map enc', wipeE ρ own)) : compR own t fc fe xs ρ = .ok (.own (.lst ((as.filterMap g).map enc')), ρ) := by
  rw [hx]; exact compR_ty as enc g enc' h
/-- every item gives one -/
theorem compR_map {α β : Type} (as : List α) (enc : α → D) (g : α → β) (enc' : β → D) {own t fc fe ρ} (h : ∀ a ∈ as, trnR own fc fe (setT t (enc a) (wipeE ρ own)) = .ok (some (enc' (g a)), wipeE ρ own)) : compR own t fc fe (as.map enc) ρ = .ok (.own (.lst ((as.map g).map enc')), ρ) := by
  have := compR_ty as enc (fun a => some (g a)) enc' h
  rwa [List.filterMap_eq_map'] at this
/-- those that are so, as they are -/
theorem compR_filter {α : Type} (as : List α) (enc : α → D) (p : α → Bool) {own t fc fe ρ} (h : ∀ a ∈ as, trnR own fc fe (setT t (enc a) (wipeE ρ own)) = .ok (if p a then some (enc a) else none, wipeE ρ own)) : compR own t fc fe (as.map enc) ρ = .ok (.own (.lst ((as.filter p).map enc)), ρ) := by
  have := compR_ty as enc (fun a => if p a then some a else none) enc (own := own) (t := t) (fc := fc) (fe := fe) (ρ := ρ) (by
    intro a ha
    rw [h a ha]
    by_cases hp : p a <;> simp [hp])
  rwa [show (as.filterMap fun a => if p a then some a else none) = as.filter p from by rw [← List.filterMap_eq_filter]; congr 1] at this

theorem fm_if {α β : Type} (as : List α) (p : α → Bool) (f : α → β) : (as.filterMap fun a => if p a then some (f a) else none) = (as.filter p).map f := by
  induction as with
  | nil => rfl
  | cons a as ih => rw [List.filterMap_cons, List.filter_cons]; cases p a <;> simp [ih]
/-- those that are so, a part of each -/
theorem compR_fm {α β : Type} (as : List α) (enc : α → D) (p : α → Bool) (f : α → β) (enc' : β → D) {own t fc fe ρ} (h : ∀ a ∈ as, trnR own fc fe (setT t (enc a) (wipeE ρ own)) = .ok (if p a then some (enc' (f a)) else none, wipeE ρ own)) : compR own t fc fe (as.map enc) ρ = .ok (.own (.lst (((as.filter p).map f).map enc')), ρ) := by
  have := compR_ty as enc (fun a => if p a then some (f a) else none) enc' (own := own) (t := t) (fc := fc) (fe := fe) (ρ := ρ) (by
    intro a ha
    rw [h a ha]
    by_cases hp : p a <;> simp [hp])
  rwa [fm_if] at this
theorem compR_mapx {α β : Type} {xs : List D} (as : List α) (enc : α → D) (g : α → β) (enc' : β → D) {own t fc fe ρ} (hx : xs = as.map enc) (h : ∀ a ∈ as, trnR own fc fe (setT t (enc a) (wipeE ρ own)) = .ok (some (enc' (g a)), wipeE ρ own)) : compR own t fc fe xs ρ = .ok (.own (.lst ((as.map g).map enc')), ρ) := by
  rw [hx]; exact compR_map as enc g enc' h
/-- over things as they are -/
theorem compR_id {β : Type} (as : List D) (g : D → β) (enc' : β → D) {own t fc fe ρ} (h : ∀ a ∈ as, trnR own fc fe (setT t a (wipeE ρ own)) = .ok (some (enc' (g a)), wipeE ρ own)) : compR own t fc fe as ρ = .ok (.own (.lst ((as.map g).map enc')), ρ) :=
  compR_mapx as id g enc' (by simp) h
/-! ### loops -/
def forT (fb : Env → O) : Option Env → O
  | none => .bad
  | some ρ1 => fb ρ1
theorem forT_some (fb : Env → O) (ρ : Env) : forT fb (some ρ) = fb ρ := rfl
theorem for_cons (t : T) (fb : Env → O) (d : D) (ds : List D) (ρ : Env) : forG t fb (d :: ds) ρ = (forT fb (setT t d ρ)).then (forG t fb ds) := by
  rw [forG]
  cases setT t d ρ <;> rfl
theorem for_ex {α σ : Type} (as : List α) (enc : α → D) (Q : σ → Env → Prop) (step : σ → α → σ) (s0 : σ) {t : T} {fb : Env → O} {ρ : Env} (h0 : Q s0 ρ) (h : ∀ s a ρ, a ∈ as → Q s ρ → ∃ ρ2, forT fb (setT t (enc a) ρ) = .nx ρ2 ∧ Q (step s a) ρ2) : ∃ ρ', forG t fb (as.map enc) ρ = .nx ρ' ∧ Q (as.foldl step s0) ρ' := by
  induction as generalizing s0 ρ with
  | nil => exact ⟨ρ, rfl, h0⟩
  | cons a as ih =>
    obtain ⟨ρ2, e1, e2⟩ := h s0 a ρ (List.mem_cons_self ..) h0
    obtain ⟨ρ3, e3, e4⟩ := ih (step s0 a) e2 (fun s b ρ hb hq => h s b ρ (List.mem_cons_of_mem _ hb) hq)
    refine ⟨ρ3, ?_, e4⟩
    rw [List.map_cons, for_cons, e1, then_nx, e3]
/-- a loop that runs through, wherever it stands -/
theorem for_ind {α σ : Type} (G : O → Prop) (as : List α) (enc : α → D) (Q : σ → Env → Prop) (step : σ → α → σ) (s0 : σ) {t : T} {fb : Env → O} {ρ : Env} (h0 : Q s0 ρ) (h : ∀ s a ρ, a ∈ as → Q s ρ → ∃ ρ2, forT fb (setT t (enc a) ρ) = .nx ρ2 ∧ Q (step s a) ρ2) (hk : ∀ ρ', Q (as.foldl step s0) ρ' → G (.nx ρ')) : G (forG t fb (as.map enc) ρ) := by
  obtain ⟨ρ', e1, e2⟩ := for_ex as enc Q step s0 h0 h
  rw [e1]
  exact hk ρ' e2
/-- the same, with what is so of each turn carried along -/
theorem for_run {α : Type} (G : O → Prop) (as : List α) (enc : α → D) (Q : List α → Env → Prop) {t : T} {fb : Env → O} {ρ : Env} (h0 : Q [] ρ) (h : ∀ p a r ρ, as = p ++ a :: r → Q p ρ → ∃ ρ2, forT fb (setT t (enc a) ρ) = .nx ρ2 ∧ Q (p ++ [a]) ρ2) (hk : ∀ ρ', Q as ρ' → G (.nx ρ')) : G (forG t fb (as.map enc) ρ) := by
  have key : ∀ (r p : List α) (ρ : Env), as = p ++ r → Q p ρ → ∃ ρ', forG t fb (r.map enc) ρ = .nx ρ' ∧ Q as ρ' := by
    intro r
    induction r with
    | nil => intro p ρ hp hq; rw [List.append_nil] at hp; exact ⟨ρ, rfl, hp ▸ hq⟩
    | cons a r ih =>
      intro p ρ hp hq
      obtain ⟨ρ2, e1, e2⟩ := h p a r ρ hp hq
      obtain ⟨ρ3, e3, e4⟩ := ih (p ++ [a]) ρ2 (by rw [hp]; simp) e2
      exact ⟨ρ3, by rw [List.map_cons, for_cons, e1, then_nx, e3], e4⟩
  obtain ⟨ρ', e1, e2⟩ := key as [] ρ rfl h0
  rw [e1]
  exact hk ρ' e2
/-- slots that may hold anything -/
def putE : List Nat → (Nat → Sl) → Env → Env
  | [], _, ρ => ρ
  | j :: js, f, ρ => putE js f (ρ.set j (f j))
theorem put_nil (f : Nat → Sl) (ρ : Env) : putE [] f ρ = ρ := rfl
theorem put_cons (j : Nat) (js : List Nat) (f : Nat → Sl) (ρ : Env) : putE (j :: js) f ρ = putE js f (ρ.set j (f j)) := rfl
theorem put_same (js : List Nat) (ρ : Env) : putE js (fun j => ρ.getD j .non) ρ = ρ := by
  induction js with
  | nil => rfl
  | cons j js ih =>
    rw [put_cons]
    have : ρ.set j (ρ.getD j .non) = ρ := by
      apply List.ext_getElem?
      intro i
      by_cases h : j = i
      · subst h
        by_cases hj : j < ρ.length
        · rw [List.getElem?_set_self hj]; simp [List.getD, hj]
        · rw [List.getElem?_eq_none (by rw [List.length_set]; omega), List.getElem?_eq_none (by omega)]
      · rw [List.getElem?_set_ne h]
    rw [this]
    exact ih
/-- a loop that changes nothing but such slots -/
theorem for_put {α : Type} (G : O → Prop) (as : List α) (enc : α → D) (js : List Nat) {t : T} {fb : Env → O} {ρ : Env} (h : ∀ a ∈ as, ∀ f, ∃ f', forT fb (setT t (enc a) (putE js f ρ)) = .nx (putE js f' ρ)) (hk : ∀ f, G (.nx (putE js f ρ))) : G (forG t fb (as.map enc) ρ) := by
  have key : ∀ (as : List α) (f : Nat → Sl), (∀ a ∈ as, ∀ f, ∃ f', forT fb (setT t (enc a) (putE js f ρ)) = .nx (putE js f' ρ)) → ∃ f', forG t fb (as.map enc) (putE js f ρ) = .nx (putE js f' ρ) := by
    intro as
    induction as with
    | nil => intro f _; exact ⟨f, rfl⟩
    | cons a as ih =>
      intro f hh
      obtain ⟨f1, e1⟩ := hh a (List.mem_cons_self ..) f
      obtain ⟨f2, e2⟩ := ih f1 (fun b hb => hh b (List.mem_cons_of_mem _ hb))
      exact ⟨f2, by rw [List.map_cons, for_cons, e1, then_nx, e2]⟩
  obtain ⟨f', e⟩ := key as (fun j => ρ.getD j .non) h
  rw [put_same] at e
  rw [e]
  exact hk f'
/-! ### what is walked -/
theorem it_lst (xs : List D) : itemsOf .val [.lst xs] = some xs := rfl
theorem it_tup (xs : List D) : itemsOf .val [.tup xs] = some xs := rfl
theorem it_zipL (xs ys : List D) : itemsOf .zip [.lst xs, .lst ys] = some ((xs.zip ys).map pairD) := rfl
theorem it_zipT (xs ys : List D) : itemsOf .zip [.tup xs, .tup ys] = some ((xs.zip ys).map pairD) := rfl
theorem it_rng (n : Nat) (h : n < LIM) : itemsOf .rng [.int n] = some ((List.range n).map fun i => .int (i : Nat)) := by
  show (if -(LIM : Int) < (n : Int) ∧ (n : Int) < (LIM : Int) then some ((List.range ((n : Int)).toNat).map fun i => D.int (i : Nat)) else none) = _
  rw [if_pos (by omega)]; rfl
def enc2 {α : Type} (enc : α → D) (p : α × Nat) : D := .tup [.int (p.2 : Nat), enc p.1]
theorem it_enum {α : Type} (enc : α → D) (as : List α) : itemsOf .enum [.lst (as.map enc)] = some (as.zipIdx.map (enc2 enc)) := by
  show some _ = some _
  congr 1
  rw [List.zipIdx_map, List.map_map]
  rfl
def encP {α β : Type} (enc : α → D) (enc' : β → D) (p : α × β) : D := .tup [enc p.1, enc' p.2]
theorem it_zipLL {α β : Type} (enc : α → D) (enc' : β → D) (as : List α) (bs : List β) : itemsOf .zip [.lst (as.map enc), .lst (bs.map enc')] = some ((as.zip bs).map (encP enc enc')) := by
  rw [it_zipL, List.zip_map, List.map_map]; rfl
theorem it_zipTT {α β : Type} (enc : α → D) (enc' : β → D) (as : List α) (bs : List β) : itemsOf .zip [.tup (as.map enc), .tup (bs.map enc')] = some ((as.zip bs).map (encP enc enc')) := by
  rw [it_zipT, List.zip_map, List.map_map]; rfl
theorem wipe_nil (ρ : Env) : wipeE ρ [] = ρ := rfl
theorem wipe_cons (ρ : Env) (v : Nat) (vs : List Nat) : wipeE ρ (v :: vs) = (wipeE ρ vs).set v .non := rfl
theorem map_some' {α β : Type} (f : α → β) (a : α) : (some a).map f = some (f a) := rfl
theorem map_none' {α β : Type} (f : α → β) : (none : Option α).map f = none := rfl
theorem isVar_nil : isVar .nil = none := rfl
theorem isVar_not (a : E) : isVar (.not a) = none := rfl
theorem isVar_and (a b : E) : isVar (.and2 a b) = none := rfl
theorem isVar_or (a b : E) : isVar (.or2 a b) = none := rfl
theorem isVar_tv (a : E) : isVar (.tv a) = none := rfl
theorem isVar_chain (p q : Pr) (a b c : E) : isVar (.chain p q a b c) = none := rfl
theorem isVar_sl3 (a b c : E) : isVar (.sl3 a b c) = none := rfl
theorem isVar_met (p : Pr) (t : Ty) (a b : E) : isVar (.met p t a b) = none := rfl
theorem isVar_dct (a : E) : isVar (.dct a) = none := rfl
theorem isVar_dcomp (o : List Nat) (t : T) (k : K) (a b c d : E) : isVar (.dcomp o t k a b c d) = none := rfl
theorem isVar_mut (m : MM) (i : Nat) (a : E) : isVar (.mut m i a) = none := rfl
theorem isVar_srt (f : Nat) (a : E) : isVar (.srt f a) = none := rfl
theorem isVar_srtL (o : Nat) (a b : E) : isVar (.srtL o a b) = none := rfl
theorem isVar_mnk (f : Nat) (a : E) : isVar (.mnk f a) = none := rfl
theorem t_ifx (Γ : Tab) (asg : Nat → List Bool) (c a b : E) (ρ : Env) : (ev Γ asg (.ifx c a b)).t ρ = ((ev Γ asg c).t ρ).bind fun x => if x.1 then (ev Γ asg a).t x.2 else (ev Γ asg b).t x.2 := rfl
theorem t_chain (Γ : Tab) (asg : Nat → List Bool) (p q : Pr) (a b c : E) (ρ : Env) : (ev Γ asg (.chain p q a b c)).t ρ = tst (ev Γ asg (.chain p q a b c)).e ρ := rfl
theorem c_retO (a b : E) (Γ : Tab) (asg : Nat → List Bool) (ρ : Env) : evC Γ asg (.ret (.or2 a b)) ρ = ofR ((ev Γ asg (.or2 a b)).e ρ) fun x => .ret x.1 x.2 := rfl
theorem c_retNt (a : E) (Γ : Tab) (asg : Nat → List Bool) (ρ : Env) : evC Γ asg (.ret (.not a)) ρ = ofR ((ev Γ asg (.not a)).e ρ) fun x => .ret x.1 x.2 := rfl
theorem c_retCh (p q : Pr) (a b c : E) (Γ : Tab) (asg : Nat → List Bool) (ρ : Env) : evC Γ asg (.ret (.chain p q a b c)) ρ = ofR ((ev Γ asg (.chain p q a b c)).e ρ) fun x => .ret x.1 x.2 := rfl
theorem c_retL (a : E) (Γ : Tab) (asg : Nat → List Bool) (ρ : Env) : evC Γ asg (.ret (.lst a)) ρ = ofR ((ev Γ asg (.lst a)).e ρ) fun x => .ret x.1 x.2 := rfl
theorem c_retN (Γ : Tab) (asg : Nat → List Bool) (ρ : Env) : evC Γ asg .retN ρ = .ret (.shr .non) ρ := rfl
theorem fin_exc (as : List Sl) (c : Str) (ρ : Env) : finish as (.exc c ρ) = match outsOf as ρ with
    | some os => .exc c os
    | none => .bad := rfl
theorem ite_true' {α : Type} (a b : α) : (if true = true then a else b) = a := rfl
theorem ite_false' {α : Type} (a b : α) : (if false = true then a else b) = b := rfl
theorem nis : (((0 : Nat) : Int) = 0) ∧ (((1 : Nat) : Int) = 1) ∧ (((2 : Nat) : Int) = 2) ∧ (((3 : Nat) : Int) = 3) ∧ (((4 : Nat) : Int) = 4) ∧ (((5 : Nat) : Int) = 5) ∧ (((6 : Nat) : Int) = 6) ∧ (((7 : Nat) : Int) = 7) ∧ (((8 : Nat) : Int) = 8) ∧ (((9 : Nat) : Int) = 9) ∧ (((10 : Nat) : Int) = 10) ∧ (((11 : Nat) : Int) = 11) ∧ (((12 : Nat) : Int) = 12) ∧ (((13 : Nat) : Int) = 13) := ⟨rfl, rfl, rfl, rfl, rfl, rfl, rfl, rfl, rfl, rfl, rfl, rfl, rfl, rfl⟩
local macro_rules
  | `(tactic| wide_open with [$ts,*]) => `(tactic| simp only [e_var, e_cst, e_pr, t_pr, t_cst, t_var, t_call, t_tv, e_tv, t_not, e_not, t_and, e_and, t_or, e_or, e_ifx, e_tup, e_lst, e_call, o_nil, l_nil, a_nil, o_cons, l_cons, a_cons, bind_ok, bind_exc, bind_bad, isVar_var, isVar_pr, isVar_cst, isVar_call, isVar_tup, isVar_lst, isVar_comp, isVar_ifx, opd_some, opd_none, kep_eq, tst_eq, arg_f, arg_t, d_shr, d_own, prE_eq, get_val, get_bor, gets_nil, gets_cons, p_ne_int, p_eq_int, p_add, p_sub, p_abs, p_idx0, p_idx1, okShr_eq, c_done, c_asg, c_par, c_exp, c_retV, c_ife, ofR_ok, ofR_exc, then_nx, then_ret, then_exc, take_nil, take_val, List.getElem?_cons_zero, List.getElem?_cons_succ, List.set_cons_zero, List.set_cons_succ, List.length_cons, List.length_nil, Option.bind_some, Option.map_some, List.map_cons, List.map_nil, Ar.sl, List.replicate, List.cons_append, List.nil_append, backA, outs_nil, outs_shr, fin_nx, fin_ret, asgT_n, asgT_t, setT_n, setT_t, setTs_n, setTs_c, callK_eq, c_retP, c_retT, c_retC, c_retX, c_retD, c_retA, c_retI, Nat.reduceAdd, Nat.reduceLT, reduceIte, and_self, Nat.reduceSub, lm0, lm1, lm2, lm3, lm4, lm5, lm6, lm7, lm8, lm9, lm10, lm11, lm12, lm13, lm14, if_true, Nat.lt_add_one, Nat.zero_lt_succ, $[$ts:term],*])
local macro_rules
  | `(tactic| wide_open using [$ts,*]) => `(tactic| simp only [e_var, e_cst, e_pr, t_pr, t_cst, t_var, t_call, t_tv, e_tv, t_not, e_not, t_and, e_and, t_or, e_or, e_ifx, e_tup, e_lst, e_call, o_nil, l_nil, a_nil, o_cons, l_cons, a_cons, bind_ok, bind_exc, bind_bad, isVar_var, isVar_pr, isVar_cst, isVar_call, isVar_tup, isVar_lst, isVar_comp, isVar_ifx, opd_some, opd_none, kep_eq, tst_eq, arg_f, arg_t, d_shr, d_own, prE_eq, get_val, get_bor, gets_nil, gets_cons, p_ne_int, p_eq_int, p_add, p_sub, p_abs, p_idx0, p_idx1, okShr_eq, c_done, c_asg, c_par, c_exp, c_retV, c_ife, ofR_ok, ofR_exc, then_nx, then_ret, then_exc, take_nil, take_val, List.getElem?_cons_zero, List.getElem?_cons_succ, List.set_cons_zero, List.set_cons_succ, List.length_cons, List.length_nil, Option.bind_some, Option.map_some, List.map_cons, List.map_nil, Ar.sl, List.replicate, List.cons_append, List.nil_append, backA, outs_nil, outs_shr, fin_nx, fin_ret, asgT_n, asgT_t, setT_n, setT_t, setTs_n, setTs_c, callK_eq, c_retP, c_retT, c_retC, c_retX, c_retD, c_retA, c_retI, Nat.reduceAdd, Nat.reduceLT, reduceIte, and_self, Nat.reduceSub, lm0, lm1, lm2, lm3, lm4, lm5, lm6, lm7, lm8, lm9, lm10, lm11, lm12, lm13, lm14, if_true, Nat.lt_add_one, Nat.zero_lt_succ, Nat.reduceEqDiff, Nat.reduceBEq, put_nil, put_cons, nis, Int.reduceBEq, Int.reduceLT, Int.reduceLE, Int.reduceAdd, Int.reduceSub, Int.reduceNeg, decide_true, decide_false, beq_self_eq_true, e_cmp, take_bor, e_chain, t_chain, t_ifx, c_for, c_whl, it_lst, it_tup, it_zipLL, it_zipTT, it_enum, List.length_map, wipe_nil, wipe_cons, forT_some, trnR_eq, map_some', map_none', isVar_nil, isVar_not, isVar_and, isVar_or, isVar_tv, isVar_chain, isVar_sl3, isVar_met, isVar_dct, isVar_dcomp, isVar_mut, isVar_srt, isVar_srtL, isVar_mnk, c_retO, c_retNt, c_retCh, c_retL, c_retN, fin_exc, c_setI, c_augI, c_rse, e_srt, e_mut, ite_true', ite_false', Bool.not_true, Bool.not_false, Bool.false_eq_true, if_false, $[$ts:term],*])
end Mx.My

end
section
set_option Elab.async false
set_option linter.all false
set_option exponentiation.threshold 5000
/-! Sq1: sizes of shares, more simply: a whole number of parts of a power of 420, B at most. -/
namespace Mx.My
local macro_rules
  | `(tactic| wide_open with [$ts,*]) => `(tactic| simp only [e_var, e_cst, e_pr, t_pr, t_cst, t_var, t_call, t_tv, e_tv, t_not, e_not, t_and, e_and, t_or, e_or, e_ifx, e_tup, e_lst, e_call, o_nil, l_nil, a_nil, o_cons, l_cons, a_cons, bind_ok, bind_exc, bind_bad, isVar_var, isVar_pr, isVar_cst, isVar_call, isVar_tup, isVar_lst, isVar_comp, isVar_ifx, opd_some, opd_none, kep_eq, tst_eq, arg_f, arg_t, d_shr, d_own, prE_eq, get_val, get_bor, gets_nil, gets_cons, p_ne_int, p_eq_int, p_add, p_sub, p_abs, p_idx0, p_idx1, okShr_eq, c_done, c_asg, c_par, c_exp, c_retV, c_ife, ofR_ok, ofR_exc, then_nx, then_ret, then_exc, take_nil, take_val, List.getElem?_cons_zero, List.getElem?_cons_succ, List.set_cons_zero, List.set_cons_succ, List.length_cons, List.length_nil, Option.bind_some, Option.map_some, List.map_cons, List.map_nil, Ar.sl, List.replicate, List.cons_append, List.nil_append, backA, outs_nil, outs_shr, fin_nx, fin_ret, asgT_n, asgT_t, setT_n, setT_t, setTs_n, setTs_c, callK_eq, c_retP, c_retT, c_retC, c_retX, c_retD, c_retA, c_retI, Nat.reduceAdd, Nat.reduceLT, reduceIte, and_self, Nat.reduceSub, lm0, lm1, lm2, lm3, lm4, lm5, lm6, lm7, lm8, lm9, lm10, lm11, lm12, lm13, lm14, if_true, Nat.lt_add_one, Nat.zero_lt_succ, $[$ts:term],*])
local macro_rules
  | `(tactic| wide_open using [$ts,*]) => `(tactic| simp only [e_var, e_cst, e_pr, t_pr, t_cst, t_var, t_call, t_tv, e_tv, t_not, e_not, t_and, e_and, t_or, e_or, e_ifx, e_tup, e_lst, e_call, o_nil, l_nil, a_nil, o_cons, l_cons, a_cons, bind_ok, bind_exc, bind_bad, isVar_var, isVar_pr, isVar_cst, isVar_call, isVar_tup, isVar_lst, isVar_comp, isVar_ifx, opd_some, opd_none, kep_eq, tst_eq, arg_f, arg_t, d_shr, d_own, prE_eq, get_val, get_bor, gets_nil, gets_cons, p_ne_int, p_eq_int, p_add, p_sub, p_abs, p_idx0, p_idx1, okShr_eq, c_done, c_asg, c_par, c_exp, c_retV, c_ife, ofR_ok, ofR_exc, then_nx, then_ret, then_exc, take_nil, take_val, List.getElem?_cons_zero, List.getElem?_cons_succ, List.set_cons_zero, List.set_cons_succ, List.length_cons, List.length_nil, Option.bind_some, Option.map_some, List.map_cons, List.map_nil, Ar.sl, List.replicate, List.cons_append, List.nil_append, backA, outs_nil, outs_shr, fin_nx, fin_ret, asgT_n, asgT_t, setT_n, setT_t, setTs_n, setTs_c, callK_eq, c_retP, c_retT, c_retC, c_retX, c_retD, c_retA, c_retI, Nat.reduceAdd, Nat.reduceLT, reduceIte, and_self, Nat.reduceSub, lm0, lm1, lm2, lm3, lm4, lm5, lm6, lm7, lm8, lm9, lm10, lm11, lm12, lm13, lm14, if_true, Nat.lt_add_one, Nat.zero_lt_succ, Nat.reduceEqDiff, Nat.reduceBEq, put_nil, put_cons, nis, Int.reduceBEq, Int.reduceLT, Int.reduceLE, Int.reduceAdd, Int.reduceSub, Int.reduceNeg, decide_true, decide_false, beq_self_eq_true, e_cmp, take_bor, e_chain, t_chain, t_ifx, c_for, c_whl, it_lst, it_tup, it_zipLL, it_zipTT, it_enum, List.length_map, wipe_nil, wipe_cons, forT_some, trnR_eq, map_some', map_none', isVar_nil, isVar_not, isVar_and, isVar_or, isVar_tv, isVar_chain, isVar_sl3, isVar_met, isVar_dct, isVar_dcomp, isVar_mut, isVar_srt, isVar_srtL, isVar_mnk, c_retO, c_retNt, c_retCh, c_retL, c_retN, fin_exc, c_setI, c_augI, c_rse, e_srt, e_mut, ite_true', ite_false', Bool.not_true, Bool.not_false, Bool.false_eq_true, if_false, $[$ts:term],*])
open PySem
def Deg (a B : Nat) (q : Rat) : Prop := Fine (420 ^ a) (B * 420 ^ a) q
theorem p420 (a : Nat) : 0 < 420 ^ a := Nat.pow_pos (by decide)
theorem Deg.up {a b B C : Nat} {q : Rat} (h : Deg a B q) (hab : a ≤ b) (hB : B ≤ C) : Deg b C q := by
  have := Fine.up (420 ^ (b - a)) (p420 _) h
  rw [← Nat.pow_add, Nat.add_sub_cancel' hab, Nat.mul_assoc, ← Nat.pow_add, Nat.add_sub_cancel' hab] at this
  exact this.le (Nat.mul_le_mul_right _ hB)
theorem tiny_val : TINY = 2 ^ 1900 := by unfold TINY; rfl
theorem Deg.tiny {a B : Nat} {q : Rat} (h : Deg a B q) (ha : a ≤ 100) (hB : B ≤ 2 ^ 900) : Tiny q := by
  have h1 := h.up ha hB
  refine Fine.tiny h1 (p420 _) ?_ ?_
  · rw [tiny_val]; decide
  · rw [tiny_val]; decide
theorem Deg.add {a b B C : Nat} {p q : Rat} (hp : Deg a B p) (hq : Deg b C q) : Deg (max a b) (B + C) (p + q) := by
  have h1 := hp.up (Nat.le_max_left a b) (Nat.le_refl B)
  have h2 := hq.up (Nat.le_max_right a b) (Nat.le_refl C)
  have := Fine.add (p420 _) h1 h2
  rwa [← Nat.add_mul] at this
theorem Deg.sub {a b B C : Nat} {p q : Rat} (hp : Deg a B p) (hq : Deg b C q) : Deg (max a b) (B + C) (p - q) := by
  have h1 := hp.up (Nat.le_max_left a b) (Nat.le_refl B)
  have h2 := hq.up (Nat.le_max_right a b) (Nat.le_refl C)
  have := Fine.sub (p420 _) h1 h2
  rwa [← Nat.add_mul] at this
theorem Deg.mul {a b B C : Nat} {p q : Rat} (hp : Deg a B p) (hq : Deg b C q) : Deg (a + b) (B * C) (p * q) := by
  have := Fine.mul hp hq
  rw [← Nat.pow_add] at this
  rwa [show B * 420 ^ a * (C * 420 ^ b) = B * C * 420 ^ (a + b) by rw [Nat.pow_add]; simp only [Nat.mul_assoc, Nat.mul_left_comm]] at this
theorem Deg.ofInt (i : Int) : Deg 0 i.natAbs (i : Rat) := Fine.ofInt (D := 420 ^ 0) (by decide) i
theorem deg_zero (a : Nat) : Deg a 0 0 := by
  have := fine_zero (420 ^ a)
  unfold Deg
  rwa [Nat.zero_mul]
theorem deg_one : Deg 0 1 1 := Deg.ofInt 1
/-- a chance -/
def Chn (p : Rat) : Prop := Ch 420 ⟨"", "", 0, p, 0, none⟩
theorem Chn.one {p : Rat} (h : Chn p) : Deg 1 1 p := by
  have := h.1
  unfold Deg
  rwa [Nat.pow_one, Nat.one_mul]
theorem Chn.two {p : Rat} (h : Chn p) : Deg 1 1 (1 - p) := by
  have := h.2
  unfold Deg
  rwa [Nat.pow_one, Nat.one_mul]
theorem Chn.ch {b : Bk} (h : Chn b.ch) : Ch 420 b := h
theorem rsum_deg {a B : Nat} {qs : List Rat} (h : ∀ q ∈ qs, Deg a B q) : Deg a (qs.length * B) (rsum qs) := by
  have := rsum_fine (p420 a) h
  unfold Deg
  rwa [Nat.mul_assoc]
section
variable {fs : List Fd} (P : HasP fs)
theorem totalD (n a B : Nat) (qs : List Rat) (h : ∀ q ∈ qs, Deg a B q) (ha : a ≤ 100) (hB : qs.length * B ≤ 2 ^ 900) : tabAt fs (n + 4) P.total [.shr (.lst (qs.map qd))] = .ok (.shr (qd (rsum qs))) [.non] := by
  refine total_spec P n (420 ^ 100) (B * 420 ^ 100) (p420 _) ?_ qs (fun q hq => (h q hq).up ha (Nat.le_refl _)) ?_
  · rw [tiny_val]; decide
  · rw [← Nat.mul_assoc, tiny_val]
    exact Nat.lt_of_le_of_lt (Nat.mul_le_mul_right _ hB) (by decide)
theorem totalO (n a B : Nat) (qs : List Rat) (h : ∀ q ∈ qs, Deg a B q) (ha : a ≤ 100) (hB : qs.length * B ≤ 2 ^ 900) : tabAt fs (n + 4) P.total [.own (.lst (qs.map qd))] = .ok (.shr (qd (rsum qs))) [.shr (.lst (qs.map qd))] := by
  rw [P.htotal.tab (n + 3) _ [.own (.lst (qs.map qd)), .non, .non] rfl rfl (by decide) rfl]
  obtain ⟨z', e⟩ := total_loop P n (420 ^ 100) (B * 420 ^ 100) (p420 _) (by rw [tiny_val]; decide) (.shr (.lst (qs.map qd))) qs 0 0 .non (fine_zero _) (fun q hq => (h q hq).up ha (Nat.le_refl _)) (by
    rw [← Nat.mul_assoc, tiny_val, Nat.zero_add]
    exact Nat.lt_of_le_of_lt (Nat.mul_le_mul_right _ hB) (by decide))
  unfold c_total
  rw [qd_zero] at e
  wide_open with [c_for, itemsOf, e, outsOf]
  rfl
theorem cnt_deg (ps : List Rat) (hp : ∀ p ∈ ps, Chn p) (hl : ps.length ≤ 25) (hcf : ∀ x ∈ cntR ps, Fine (420 ^ ps.length) ((2 * 420) ^ ps.length) x) : ∀ x ∈ cntR ps, Deg 25 (2 ^ 25) x := by
  intro x hx
  have h1 : Deg ps.length (2 ^ ps.length) x := by
    have := hcf x hx
    rwa [Nat.mul_pow] at this
  exact h1.up hl (Nat.pow_le_pow_right (by decide) hl)
theorem counted_D (n : Nat) (ps : List Rat) (hp : ∀ p ∈ ps, Chn p) (hl : ps.length ≤ 25) :
    (∃ s, (s = Sl.own (.lst ((cntR ps).map qd)) ∨ s = .shr (.lst ((cntR ps).map qd))) ∧ tabAt fs (n + 4) P.counted [.shr (.lst (ps.map qd))] = .ok s [.non]) ∧ (∀ x ∈ cntR ps, Deg 25 (2 ^ 25) x) := by
  have := counted_spec P n 420 (by decide) ps hp (by omega) (by
    rw [tiny_val]
    exact Nat.lt_of_le_of_lt (Nat.pow_le_pow_right (by decide) hl) (by decide)) (by rw [tiny_val]; decide)
  exact ⟨this.1, cnt_deg ps hp hl this.2⟩
theorem plusD (n a b B C : Nat) {p q : Rat} (hp : Deg a B p) (hq : Deg b C q) (ha : a ≤ 100) (hb : b ≤ 100) (hB : B ≤ 2 ^ 900) (hC : C ≤ 2 ^ 900) : tabAt fs (n + 3) P.plus [.shr (qd p), .shr (qd q)] = .ok (.shr (qd (p + q))) [.non, .non] := plus_spec P n p q (hp.tiny ha hB) (hq.tiny hb hC)
theorem minusD (n a b B C : Nat) {p q : Rat} (hp : Deg a B p) (hq : Deg b C q) (ha : a ≤ 100) (hb : b ≤ 100) (hB : B ≤ 2 ^ 900) (hC : C ≤ 2 ^ 900) : tabAt fs (n + 3) P.minus [.shr (qd p), .shr (qd q)] = .ok (.shr (qd (p - q))) [.non, .non] := minus_spec P n p q (hp.tiny ha hB) (hq.tiny hb hC)
theorem timesD (n a b B C : Nat) {p q : Rat} (hp : Deg a B p) (hq : Deg b C q) (ha : a ≤ 100) (hb : b ≤ 100) (hB : B ≤ 2 ^ 900) (hC : C ≤ 2 ^ 900) : tabAt fs (n + 3) P.times [.shr (qd p), .shr (qd q)] = .ok (.shr (qd (p * q))) [.non, .non] := times_spec P n p q (hp.tiny ha hB) (hq.tiny hb hC)
end
end Mx.My

end
section
set_option Elab.async false
set_option linter.all false
set_option exponentiation.threshold 5000
/-! Sq2: what willing ones are paid at the mean, by the last ask. -/
namespace Mx.My
local macro_rules
  | `(tactic| wide_open with [$ts,*]) => `(tactic| simp only [e_var, e_cst, e_pr, t_pr, t_cst, t_var, t_call, t_tv, e_tv, t_not, e_not, t_and, e_and, t_or, e_or, e_ifx, e_tup, e_lst, e_call, o_nil, l_nil, a_nil, o_cons, l_cons, a_cons, bind_ok, bind_exc, bind_bad, isVar_var, isVar_pr, isVar_cst, isVar_call, isVar_tup, isVar_lst, isVar_comp, isVar_ifx, opd_some, opd_none, kep_eq, tst_eq, arg_f, arg_t, d_shr, d_own, prE_eq, get_val, get_bor, gets_nil, gets_cons, p_ne_int, p_eq_int, p_add, p_sub, p_abs, p_idx0, p_idx1, okShr_eq, c_done, c_asg, c_par, c_exp, c_retV, c_ife, ofR_ok, ofR_exc, then_nx, then_ret, then_exc, take_nil, take_val, List.getElem?_cons_zero, List.getElem?_cons_succ, List.set_cons_zero, List.set_cons_succ, List.length_cons, List.length_nil, Option.bind_some, Option.map_some, List.map_cons, List.map_nil, Ar.sl, List.replicate, List.cons_append, List.nil_append, backA, outs_nil, outs_shr, fin_nx, fin_ret, asgT_n, asgT_t, setT_n, setT_t, setTs_n, setTs_c, callK_eq, c_retP, c_retT, c_retC, c_retX, c_retD, c_retA, c_retI, Nat.reduceAdd, Nat.reduceLT, reduceIte, and_self, Nat.reduceSub, lm0, lm1, lm2, lm3, lm4, lm5, lm6, lm7, lm8, lm9, lm10, lm11, lm12, lm13, lm14, if_true, Nat.lt_add_one, Nat.zero_lt_succ, $[$ts:term],*])
local macro_rules
  | `(tactic| wide_open using [$ts,*]) => `(tactic| simp only [e_var, e_cst, e_pr, t_pr, t_cst, t_var, t_call, t_tv, e_tv, t_not, e_not, t_and, e_and, t_or, e_or, e_ifx, e_tup, e_lst, e_call, o_nil, l_nil, a_nil, o_cons, l_cons, a_cons, bind_ok, bind_exc, bind_bad, isVar_var, isVar_pr, isVar_cst, isVar_call, isVar_tup, isVar_lst, isVar_comp, isVar_ifx, opd_some, opd_none, kep_eq, tst_eq, arg_f, arg_t, d_shr, d_own, prE_eq, get_val, get_bor, gets_nil, gets_cons, p_ne_int, p_eq_int, p_add, p_sub, p_abs, p_idx0, p_idx1, okShr_eq, c_done, c_asg, c_par, c_exp, c_retV, c_ife, ofR_ok, ofR_exc, then_nx, then_ret, then_exc, take_nil, take_val, List.getElem?_cons_zero, List.getElem?_cons_succ, List.set_cons_zero, List.set_cons_succ, List.length_cons, List.length_nil, Option.bind_some, Option.map_some, List.map_cons, List.map_nil, Ar.sl, List.replicate, List.cons_append, List.nil_append, backA, outs_nil, outs_shr, fin_nx, fin_ret, asgT_n, asgT_t, setT_n, setT_t, setTs_n, setTs_c, callK_eq, c_retP, c_retT, c_retC, c_retX, c_retD, c_retA, c_retI, Nat.reduceAdd, Nat.reduceLT, reduceIte, and_self, Nat.reduceSub, lm0, lm1, lm2, lm3, lm4, lm5, lm6, lm7, lm8, lm9, lm10, lm11, lm12, lm13, lm14, if_true, Nat.lt_add_one, Nat.zero_lt_succ, Nat.reduceEqDiff, Nat.reduceBEq, put_nil, put_cons, nis, Int.reduceBEq, Int.reduceLT, Int.reduceLE, Int.reduceAdd, Int.reduceSub, Int.reduceNeg, decide_true, decide_false, beq_self_eq_true, e_cmp, take_bor, e_chain, t_chain, t_ifx, c_for, c_whl, it_lst, it_tup, it_zipLL, it_zipTT, it_enum, List.length_map, wipe_nil, wipe_cons, forT_some, trnR_eq, map_some', map_none', isVar_nil, isVar_not, isVar_and, isVar_or, isVar_tv, isVar_chain, isVar_sl3, isVar_met, isVar_dct, isVar_dcomp, isVar_mut, isVar_srt, isVar_srtL, isVar_mnk, c_retO, c_retNt, c_retCh, c_retL, c_retN, fin_exc, c_setI, c_augI, c_rse, e_srt, e_mut, ite_true', ite_false', Bool.not_true, Bool.not_false, Bool.false_eq_true, if_false, $[$ts:term],*])
open PySem
structure HasM (fs : List Fd) extends HasB fs where
  moreThan : Nat
  hmore : isF fs moreThan 2 2 [false, false] (c_more_than total)
  hlast : isF fs meanLast 2 16 [false, false] (c_mean_last counted plus times moreThan total)
def unwill (bs : List Bk) : List Rat := (bs.filter fun b => b.ask.isNone).map (·.ch)
def willers (bs : List Bk) : List Bk := bs.filter fun b => b.ask.isSome
def isLastR (seats : Nat) (unw : List Rat) (w : List Bk) (i : Nat) : Rat :=
  (if seats < (cntR ((w.drop (i + 1)).map (·.ch) ++ unw)).length then (cntR ((w.drop (i + 1)).map (·.ch) ++ unw)).getD seats 0 else 0) + (cntR ((w.drop (i + 1)).map (·.ch))).getD 0 0 * rsum ((cntR unw).drop (seats + 1))
def meanR (w : List Bk) (i : Nat) : Rat := rsum ((cntR ((w.take i).map (·.ch))).zipIdx.map fun p => p.1 * ((p.2 + 1 : Nat) : Int))
def askR (b : Bk) : Rat := ((b.ask.getD 0 : Int) : Rat)
def lastT (seats : Nat) (unw : List Rat) (w : List Bk) (s : Rat) (p : Bk × Nat) : Rat := s + p.1.ch * isLastR seats unw w p.2 * meanR w p.2 * askR p.1
def meanLastR (seats : Nat) (bs : List Bk) : Rat := (willers bs).zipIdx.foldl (lastT seats (unwill bs) (willers bs)) 0
theorem chs_of {p : Bk → Bool} {bs : List Bk} (hc : ∀ b ∈ bs, Chn b.ch) : ∀ q ∈ (bs.filter p).map (·.ch), Chn q := by
  intro q hq
  obtain ⟨b, hb, rfl⟩ := List.mem_map.mp hq
  exact hc b (List.mem_filter.mp hb).1
theorem getD_deg {a B : Nat} {L : List Rat} (h : ∀ x ∈ L, Deg a B x) (i : Nat) : Deg a B (L.getD i 0) := by
  rw [List.getD]
  rcases Nat.lt_or_ge i L.length with hi | hi
  · rw [List.getElem?_eq_getElem hi]; exact h _ (List.getElem_mem hi)
  · rw [List.getElem?_eq_none hi]; exact (deg_zero a).up (Nat.le_refl _) (Nat.zero_le _)
theorem drop_deg {a B : Nat} {L : List Rat} (h : ∀ x ∈ L, Deg a B x) (i : Nat) : ∀ x ∈ L.drop i, Deg a B x := fun x hx => h x (List.mem_of_mem_drop hx)
theorem isLast_deg (seats : Nat) (unw : List Rat) (w : List Bk) (i : Nat) (h1 : ∀ x ∈ cntR ((w.drop (i + 1)).map (·.ch) ++ unw), Deg 25 (2 ^ 25) x) (h2 : ∀ x ∈ cntR ((w.drop (i + 1)).map (·.ch)), Deg 25 (2 ^ 25) x) (h3 : ∀ x ∈ cntR unw, Deg 25 (2 ^ 25) x) (hl : unw.length ≤ 25) :
    Deg 25 (2 ^ 25) (if seats < (cntR ((w.drop (i + 1)).map (·.ch) ++ unw)).length then (cntR ((w.drop (i + 1)).map (·.ch) ++ unw)).getD seats 0 else 0) ∧ Deg 25 (2 ^ 30) (rsum ((cntR unw).drop (seats + 1))) ∧ Deg 50 (2 ^ 55) ((cntR ((w.drop (i + 1)).map (·.ch))).getD 0 0 * rsum ((cntR unw).drop (seats + 1))) ∧ Deg 50 (2 ^ 56) (isLastR seats unw w i) := by
  have a1 : Deg 25 (2 ^ 25) (if seats < (cntR ((w.drop (i + 1)).map (·.ch) ++ unw)).length then (cntR ((w.drop (i + 1)).map (·.ch) ++ unw)).getD seats 0 else 0) := by
    split
    · exact getD_deg h1 _
    · exact (deg_zero _).up (Nat.le_refl _) (Nat.zero_le _)
  have a2 : Deg 25 (2 ^ 30) (rsum ((cntR unw).drop (seats + 1))) := by
    refine (rsum_deg (drop_deg h3 (seats + 1))).up (Nat.le_refl _) ?_
    rw [List.length_drop, cntR_len]
    exact Nat.le_trans (Nat.mul_le_mul_right (2 ^ 25) (by omega : unw.length + 1 - (seats + 1) ≤ 32)) (by decide)
  have a3 := ((getD_deg h2 0).mul a2).up (b := 50) (C := 2 ^ 55) (by decide) (by decide)
  exact ⟨a1, a2, a3, (a1.add a3).up (by decide) (by decide)⟩
theorem zipIdx_snd {α : Type} {L : List α} {p : α × Nat} (h : p ∈ L.zipIdx) : p.2 < L.length ∧ p.1 ∈ L := by
  have := List.mem_zipIdx h
  simp at this
  exact ⟨this.1, by rw [this.2]; exact List.getElem_mem _⟩
theorem meanR_term (w : List Bk) (i : Nat) (hl : i ≤ 25) (h : ∀ x ∈ cntR ((w.take i).map (·.ch)), Deg 25 (2 ^ 25) x) : ∀ p ∈ (cntR ((w.take i).map (·.ch))).zipIdx, Deg 25 (2 ^ 25) p.1 ∧ Deg 0 32 (((p.2 + 1 : Nat) : Int) : Rat) ∧ Deg 25 (2 ^ 30) (p.1 * (((p.2 + 1 : Nat) : Int) : Rat)) := by
  intro p hp
  obtain ⟨h1, h2⟩ := zipIdx_snd hp
  rw [cntR_len, List.length_map, List.length_take] at h1
  have a1 := h _ h2
  have a2 : Deg 0 32 (((p.2 + 1 : Nat) : Int) : Rat) := (Deg.ofInt _).up (Nat.le_refl _) (by omega)
  exact ⟨a1, a2, (a1.mul a2).up (by decide) (by decide)⟩
theorem meanR_deg (w : List Bk) (i : Nat) (hl : i ≤ 25) (h : ∀ x ∈ cntR ((w.take i).map (·.ch)), Deg 25 (2 ^ 25) x) : Deg 25 (2 ^ 35) (meanR w i) := by
  refine (rsum_deg (a := 25) (B := 2 ^ 30) ?_).up (Nat.le_refl _) ?_
  · intro q hq
    obtain ⟨p, hp, rfl⟩ := List.mem_map.mp hq
    exact (meanR_term w i hl h p hp).2.2
  · rw [List.length_map, List.length_zipIdx, cntR_len, List.length_map, List.length_take]
    exact Nat.le_trans (Nat.mul_le_mul_right (2 ^ 30) (by omega : min i w.length + 1 ≤ 32)) (by decide)
theorem cut_take {α : Type} (xs : List α) (i : Nat) : cut xs none (some (i : Int)) = xs.take i := by
  unfold cut
  rw [cutIx_nat]
  show List.take (min i xs.length - 0) (xs.drop 0) = _
  rw [Nat.sub_zero, List.drop_zero]
  rcases Nat.le_total i xs.length with h | h
  · rw [Nat.min_eq_left h]
  · rw [Nat.min_eq_right h, List.take_length, List.take_of_length_le h]
theorem p_slcT (xs : List D) (i : Nat) : prI (.slc false true) [.lst xs, .int i] = some (.own (.lst (xs.take i))) := by
  rw [← cut_take]
  unfold prI
  rfl
theorem p_max2 (i j : Int) : prI .max2 [.int i, .int j] = okShr (.int (if j > i then j else i)) := by unfold prI; rfl
section
variable {fs : List Fd} (S : HasM fs)
theorem more_spec (n : Nat) (L : List Rat) (seats : Nat) (h : ∀ x ∈ L, Deg 25 (2 ^ 25) x) (hl : L.length ≤ 30) : tabAt fs (n + 5) S.moreThan [.shr (.lst (L.map qd)), .shr (.int seats)] = .ok (.shr (qd (rsum (L.drop (seats + 1))))) [.non, .non] ∧ tabAt fs (n + 5) S.moreThan [.own (.lst (L.map qd)), .shr (.int seats)] = .ok (.shr (qd (rsum (L.drop (seats + 1))))) [.own (.lst (L.map qd)), .non] := by
  have ht := totalD S.toHasP n 25 (2 ^ 25) (L.drop (seats + 1)) (drop_deg h _) (by decide) (by
    rw [List.length_drop]
    exact Nat.le_trans (Nat.mul_le_mul_right (2 ^ 25) (by omega : L.length - (seats + 1) ≤ 32)) (by decide))
  have hx : (if (seats : Int) + 1 > 0 then (seats : Int) + 1 else 0) = ((seats + 1 : Nat) : Int) := by rw [if_pos (by omega)]; rfl
  have hdr : (L.map qd).drop (seats + 1) = (L.drop (seats + 1)).map qd := by rw [List.map_drop]
  constructor
  · rw [S.hmore.tab (n + 4) _ [.shr (.lst (L.map qd)), .shr (.int seats)] rfl rfl (by decide) rfl]
    unfold c_more_than
    wide_open using [p_max2, hx, p_slcL, hdr, S.htotal.asg, ht]
  · rw [S.hmore.tab (n + 4) _ [.own (.lst (L.map qd)), .shr (.int seats)] rfl rfl (by decide) rfl]
    unfold c_more_than
    wide_open using [p_max2, hx, p_slcL, hdr, S.htotal.asg, ht, outsOf]
end
end Mx.My

end
section
set_option Elab.async false
set_option linter.all false
set_option exponentiation.threshold 5000
set_option maxHeartbeats 0
namespace Mx.My
local macro_rules
  | `(tactic| wide_open with [$ts,*]) => `(tactic| simp only [e_var, e_cst, e_pr, t_pr, t_cst, t_var, t_call, t_tv, e_tv, t_not, e_not, t_and, e_and, t_or, e_or, e_ifx, e_tup, e_lst, e_call, o_nil, l_nil, a_nil, o_cons, l_cons, a_cons, bind_ok, bind_exc, bind_bad, isVar_var, isVar_pr, isVar_cst, isVar_call, isVar_tup, isVar_lst, isVar_comp, isVar_ifx, opd_some, opd_none, kep_eq, tst_eq, arg_f, arg_t, d_shr, d_own, prE_eq, get_val, get_bor, gets_nil, gets_cons, p_ne_int, p_eq_int, p_add, p_sub, p_abs, p_idx0, p_idx1, okShr_eq, c_done, c_asg, c_par, c_exp, c_retV, c_ife, ofR_ok, ofR_exc, then_nx, then_ret, then_exc, take_nil, take_val, List.getElem?_cons_zero, List.getElem?_cons_succ, List.set_cons_zero, List.set_cons_succ, List.length_cons, List.length_nil, Option.bind_some, Option.map_some, List.map_cons, List.map_nil, Ar.sl, List.replicate, List.cons_append, List.nil_append, backA, outs_nil, outs_shr, fin_nx, fin_ret, asgT_n, asgT_t, setT_n, setT_t, setTs_n, setTs_c, callK_eq, c_retP, c_retT, c_retC, c_retX, c_retD, c_retA, c_retI, Nat.reduceAdd, Nat.reduceLT, reduceIte, and_self, Nat.reduceSub, lm0, lm1, lm2, lm3, lm4, lm5, lm6, lm7, lm8, lm9, lm10, lm11, lm12, lm13, lm14, if_true, Nat.lt_add_one, Nat.zero_lt_succ, $[$ts:term],*])
local macro_rules
  | `(tactic| wide_open using [$ts,*]) => `(tactic| simp only [e_var, e_cst, e_pr, t_pr, t_cst, t_var, t_call, t_tv, e_tv, t_not, e_not, t_and, e_and, t_or, e_or, e_ifx, e_tup, e_lst, e_call, o_nil, l_nil, a_nil, o_cons, l_cons, a_cons, bind_ok, bind_exc, bind_bad, isVar_var, isVar_pr, isVar_cst, isVar_call, isVar_tup, isVar_lst, isVar_comp, isVar_ifx, opd_some, opd_none, kep_eq, tst_eq, arg_f, arg_t, d_shr, d_own, prE_eq, get_val, get_bor, gets_nil, gets_cons, p_ne_int, p_eq_int, p_add, p_sub, p_abs, p_idx0, p_idx1, okShr_eq, c_done, c_asg, c_par, c_exp, c_retV, c_ife, ofR_ok, ofR_exc, then_nx, then_ret, then_exc, take_nil, take_val, List.getElem?_cons_zero, List.getElem?_cons_succ, List.set_cons_zero, List.set_cons_succ, List.length_cons, List.length_nil, Option.bind_some, Option.map_some, List.map_cons, List.map_nil, Ar.sl, List.replicate, List.cons_append, List.nil_append, backA, outs_nil, outs_shr, fin_nx, fin_ret, asgT_n, asgT_t, setT_n, setT_t, setTs_n, setTs_c, callK_eq, c_retP, c_retT, c_retC, c_retX, c_retD, c_retA, c_retI, Nat.reduceAdd, Nat.reduceLT, reduceIte, and_self, Nat.reduceSub, lm0, lm1, lm2, lm3, lm4, lm5, lm6, lm7, lm8, lm9, lm10, lm11, lm12, lm13, lm14, if_true, Nat.lt_add_one, Nat.zero_lt_succ, Nat.reduceEqDiff, Nat.reduceBEq, put_nil, put_cons, nis, Int.reduceBEq, Int.reduceLT, Int.reduceLE, Int.reduceAdd, Int.reduceSub, Int.reduceNeg, decide_true, decide_false, beq_self_eq_true, e_cmp, take_bor, e_chain, t_chain, t_ifx, c_for, c_whl, it_lst, it_tup, it_zipLL, it_zipTT, it_enum, List.length_map, wipe_nil, wipe_cons, forT_some, trnR_eq, map_some', map_none', isVar_nil, isVar_not, isVar_and, isVar_or, isVar_tv, isVar_chain, isVar_sl3, isVar_met, isVar_dct, isVar_dcomp, isVar_mut, isVar_srt, isVar_srtL, isVar_mnk, c_retO, c_retNt, c_retCh, c_retL, c_retN, fin_exc, c_setI, c_augI, c_rse, e_srt, e_mut, ite_true', ite_false', Bool.not_true, Bool.not_false, Bool.false_eq_true, if_false, $[$ts:term],*])
open PySem
theorem p_lenL (xs : List D) : prI .len [.lst xs] = okShr (.int xs.length) := by unfold prI; rfl
theorem take_own (i : Nat) (d : D) (r : List Opd) (ρ : Env) (h : ρ[i]? = some (.own d)) : takeA (.bor i :: r) ρ = (takeA r (ρ.set i .non)).map fun x => (.mov i d :: x.1, x.2) := by
  simp only [takeA, h]
section
variable {fs : List Fd} (S : HasM fs)
def LI (bs : List Bk) (seats : Nat) (s4 : Sl) (s : Rat × Nat) (ρ : Env) : Prop := (s.2 ≤ 25 ∧ Deg 80 (s.2 * 2 ^ 120) s.1) ∧ ∃ z2 z6 z7 z8 z9 z10 z11, ρ = [.shr (.lst (bs.map bkD)), .shr (.int seats), z2, .shr (.lst ((willers bs).map bkD)), s4, .shr (qd s.1), z6, z7, z8, z9, z10, z11, .non, .non, .non, .non]
theorem meanLast_turn (n : Nat) (bs : List Bk) (seats : Nat) (hc : ∀ b ∈ bs, Chn b.ch) (hl : ∀ b ∈ bs, Low b) (hlen : bs.length ≤ 25) (s4 : Sl) (hs4 : s4 = .own (.lst ((cntR (unwill bs)).map qd)) ∨ s4 = .shr (.lst ((cntR (unwill bs)).map qd))) (s : Rat) (k : Nat) (hk : k < 25) (hs : Deg 80 (k * 2 ^ 120) s) (b : Bk) (i : Nat) (hb : b ∈ willers bs) (hi : i < (willers bs).length) (z2 z6 z7 z8 z9 z10 z11 : Sl) (body : C) (hbody : body = (match c_mean_last S.counted S.plus S.times S.moreThan S.total with
    | .asg _ _ (.asg _ _ (.asg _ _ (.for_ _ _ _ b _))) => b
    | _ => .done)) :
    ∃ ρ2, forT (evC (tabAt fs (n + 5)) (asgOf fs) body) (setT (.tp (.cons (.nm 6) (.cons (.nm 2) .nil))) (enc2 bkD (b, i)) [.shr (.lst (bs.map bkD)), .shr (.int seats), z2, .shr (.lst ((willers bs).map bkD)), s4, .shr (qd s), z6, z7, z8, z9, z10, z11, .non, .non, .non, .non]) = .nx ρ2 ∧ LI bs seats s4 (lastT seats (unwill bs) (willers bs) s (b, i), k + 1) ρ2 := by
  have hw : ∀ b ∈ willers bs, Chn b.ch := fun b hb => hc b (List.mem_filter.mp hb).1
  have hwl : (willers bs).length ≤ bs.length := List.length_filter_le _ _
  have hsum : (willers bs).length + (unwill bs).length ≤ 25 := by
    have : ∀ bs : List Bk, bs.length = (willers bs).length + (unwill bs).length := by
      intro bs
      unfold unwill willers
      rw [List.length_map]
      induction bs with
      | nil => rfl
      | cons b bs ih =>
        rw [List.filter_cons, List.filter_cons]
        cases b.ask <;> simp <;> omega
    have := this bs
    omega
  have hda : ∀ q ∈ ((willers bs).take i).map (·.ch), Chn q := by
    intro q hq; obtain ⟨x, hx, rfl⟩ := List.mem_map.mp hq; exact hw x (List.mem_of_mem_take hx)
  have hdl : ∀ q ∈ ((willers bs).drop (i + 1)).map (·.ch), Chn q := by
    intro q hq; obtain ⟨x, hx, rfl⟩ := List.mem_map.mp hq; exact hw x (List.mem_of_mem_drop hx)
  have hdu : ∀ q ∈ unwill bs, Chn q := chs_of hc
  have hdb : ∀ q ∈ ((willers bs).drop (i + 1)).map (·.ch) ++ unwill bs, Chn q := by
    intro q hq; rcases List.mem_append.mp hq with h | h
    · exact hdl q h
    · exact hdu q h
  obtain ⟨⟨s7, hs7, e7⟩, f7⟩ := counted_D S.toHasP (n + 1) _ hda (by rw [List.length_map, List.length_take]; omega)
  obtain ⟨⟨s8, hs8, e8⟩, f8⟩ := counted_D S.toHasP (n + 1) _ hdl (by rw [List.length_map, List.length_drop]; omega)
  obtain ⟨⟨s9, hs9, e9⟩, f9⟩ := counted_D S.toHasP (n + 1) _ hdb (by rw [List.length_append, List.length_map, List.length_drop]; omega)
  obtain ⟨_, f4⟩ := counted_D S.toHasP (n + 1) _ hdu (by omega)
  obtain ⟨d1, d2, d3, d4⟩ := isLast_deg seats (unwill bs) (willers bs) i f9 f8 f4 (by omega)
  have m1 := meanR_term (willers bs) i (by omega) f7
  have m2 := meanR_deg (willers bs) i (by omega) f7
  have hbc := (hw b hb).one
  obtain ⟨a, ha⟩ : ∃ a, b.ask = some a := Option.isSome_iff_exists.mp (List.mem_filter.mp hb).2
  have hask : Deg 0 1000 (a : Rat) := (Deg.ofInt a).up (Nat.le_refl _) (hl b (List.mem_filter.mp hb).1 a ha)
  have haskR : askR b = (a : Rat) := by unfold askR; rw [ha]; rfl
  have t1 := (hbc.mul d4).up (b := 51) (C := 2 ^ 56) (by decide) (by decide)
  have t2 := (t1.mul m2).up (b := 76) (C := 2 ^ 91) (by decide) (by decide)
  have t3 := (t2.mul hask).up (b := 76) (C := 2 ^ 120) (by decide) (by decide)
  have t4 := (hs.add t3).up (b := 80) (C := (k + 1) * 2 ^ 120) (by decide) (by rw [Nat.add_mul]; omega)
  have hmore := more_spec S n (cntR (unwill bs)) seats f4 (by rw [cntR_len]; omega)
  have htake : ((willers bs).map bkD).take i = ((willers bs).take i).map bkD := by rw [List.map_take]
  have hdrop : ((willers bs).map bkD).drop (i + 1) = ((willers bs).drop (i + 1)).map bkD := by rw [List.map_drop]
  have hslc1 : prI (.slc true false) [.lst ((willers bs).map bkD), .int ((i : Int) + 1)] = some (.own (.lst (((willers bs).drop (i + 1)).map bkD))) := by rw [p_slc1, hdrop]
  have hslc2 : prI (.slc false true) [.lst ((willers bs).map bkD), .int (i : Int)] = some (.own (.lst (((willers bs).take i).map bkD))) := by rw [p_slcT, htake]
  have l1 : ((willers bs).take i).length < LIM := lim_pos _ (by rw [List.length_take]; omega)
  have l2 : ((willers bs).drop (i + 1)).length < LIM := lim_pos _ (by rw [List.length_drop]; omega)
  have l3 : bs.length < LIM := lim_pos _ (by omega)
  have p1 := plusD S.toHasP (n + 2) 25 50 (2 ^ 25) (2 ^ 55) d1 d3 (by decide) (by decide) (by decide) (by decide)
  have q1 := timesD S.toHasP (n + 2) 25 25 (2 ^ 25) (2 ^ 30) (getD_deg f8 0) d2 (by decide) (by decide) (by decide) (by decide)
  have q2 := timesD S.toHasP (n + 2) 1 50 1 (2 ^ 56) hbc d4 (by decide) (by decide) (by decide) (by decide)
  have q3 := timesD S.toHasP (n + 2) 51 25 (2 ^ 56) (2 ^ 35) t1 m2 (by decide) (by decide) (by decide) (by decide)
  have q4 := timesD S.toHasP (n + 2) 76 0 (2 ^ 91) 1000 t2 hask (by decide) (by decide) (by decide) (by decide)
  have p2 := plusD S.toHasP (n + 2) 80 76 (k * 2 ^ 120) (2 ^ 120) hs t3 (by decide) (by decide) (Nat.le_trans (Nat.mul_le_mul_right (2 ^ 120) (by omega : k ≤ 25)) (by decide)) (by decide)
  have tt := totalD S.toHasP (n + 1) 25 (2 ^ 30) ((cntR (((willers bs).take i).map (·.ch))).zipIdx.map fun p => p.1 * (((p.2 + 1 : Nat) : Int) : Rat)) (by
    intro q hq; obtain ⟨p, hp, rfl⟩ := List.mem_map.mp hq; exact (m1 p hp).2.2) (by decide) (by
    rw [List.length_map, List.length_zipIdx, cntR_len, List.length_map, List.length_take]
    exact Nat.le_trans (Nat.mul_le_mul_right (2 ^ 30) (by omega : min i (willers bs).length + 1 ≤ 32)) (by decide))
  have hadd : prI .add [.lst ((((willers bs).drop (i + 1)).map (·.ch)).map qd), .lst ((unwill bs).map qd)] = some (.own (.lst ((((willers bs).drop (i + 1)).map (·.ch) ++ unwill bs).map qd))) := by
    rw [p_addL, if_pos (by rw [List.length_map, List.length_map, List.length_map, List.length_drop]; exact lim_pos _ (by omega)), List.map_append]
  have hl9 : ((((cntR (((willers bs).drop (i + 1)).map (·.ch) ++ unwill bs)).map qd).length : Nat) : Int) = ((cntR (((willers bs).drop (i + 1)).map (·.ch) ++ unwill bs)).length : Int) := by rw [List.length_map]
  have hg8 : getAt ((cntR (((willers bs).drop (i + 1)).map (·.ch))).map qd) 0 = some (qd ((cntR (((willers bs).drop (i + 1)).map (·.ch))).getD 0 0)) := getAt_nat _ 0 _ (get_map (by rw [cntR_len]; omega))
  have hg9 : seats < (cntR (((willers bs).drop (i + 1)).map (·.ch) ++ unwill bs)).length → getAt ((cntR (((willers bs).drop (i + 1)).map (·.ch) ++ unwill bs)).map qd) (seats : Int) = some (qd ((cntR (((willers bs).drop (i + 1)).map (·.ch) ++ unwill bs)).getD seats 0)) := fun h => getAt_nat _ seats _ (get_map h)
  have lz : (cntR (((willers bs).take i).map (·.ch))).zipIdx.length < LIM := lim_pos _ (by rw [List.length_zipIdx, cntR_len, List.length_map, List.length_take]; omega)
  have hfin : lastT seats (unwill bs) (willers bs) s (b, i) = s + b.ch * isLastR seats (unwill bs) (willers bs) i * meanR (willers bs) i * (a : Rat) := by
    show s + _ * askR b = _
    rw [haskR]
  have hlt : decide ((seats : Int) < ((cntR (((willers bs).drop (i + 1)).map (·.ch) ++ unwill bs)).length : Int)) = decide (seats < (cntR (((willers bs).drop (i + 1)).map (·.ch) ++ unwill bs)).length) := by
    congr 1; simp
  subst hbody
  unfold c_mean_last
  wide_open using [enc2, hslc2, l1, S.hcounted.asg]
  rw [compR_map ((willers bs).take i) bkD (·.ch) qd (by intro x hx; wide_open using [p_bk3])]
  wide_open using [e7]
  wide_open using [hslc1, l2, S.hcounted.asg]
  rw [compR_map ((willers bs).drop (i + 1)) bkD (·.ch) qd (by intro x hx; wide_open using [p_bk3])]
  wide_open using [e8]
  wide_open using [hslc1, l2, S.hcounted.asg]
  rw [compR_map ((willers bs).drop (i + 1)) bkD (·.ch) qd (by intro x hx; wide_open using [p_bk3])]
  wide_open using [l3]
  rw [compR_fm bs bkD (fun b => b.ask.isNone) (·.ch) qd (by
    intro x hx; wide_open using [p_bk3, p_bk5, is_non]
    cases x.ask.isNone <;> wide_open using [p_bk3])]
  rw [show (bs.filter fun b => b.ask.isNone).map (·.ch) = unwill bs from rfl]
  wide_open using [hadd, e9]
  have e10 : (if seats < (cntR (((willers bs).drop (i + 1)).map (·.ch) ++ unwill bs)).length then (cntR (((willers bs).drop (i + 1)).map (·.ch) ++ unwill bs)).getD seats 0 else 0) + (cntR (((willers bs).drop (i + 1)).map (·.ch))).getD 0 0 * rsum ((cntR (unwill bs)).drop (seats + 1)) = isLastR seats (unwill bs) (willers bs) i := rfl
  rw [qd_int] at q4
  rcases hs9 with rfl | rfl <;> rcases hs8 with rfl | rfl <;> rcases hs4 with rfl | rfl <;> by_cases hcl : seats < (cntR (((willers bs).drop (i + 1)).map (·.ch) ++ unwill bs)).length
  all_goals first
    | (have hcl' := decide_eq_true hcl; have hg9 := hg9 hcl; rw [if_pos hcl] at p1 e10; wide_open using [p_lenL, hl9, p_lt, hlt, hcl', p_idxL, hg9, hg8, S.hmore.asg, hmore.1, hmore.2, S.hplus.asg, S.htimes.asg, S.htotal.asg, q1, p1, e10])
    | (have hcl' := decide_eq_false hcl; rw [if_neg hcl] at p1 e10; wide_open using [p_lenL, hl9, p_lt, hlt, hcl', p_idxL, hg8, S.hmore.asg, hmore.1, hmore.2, S.hplus.asg, S.htimes.asg, S.htotal.asg, q1, qd_zero.symm, p1, e10])
  all_goals (rcases hs7 with rfl | rfl)
  all_goals wide_open using [S.htotal.asg, lz]
  all_goals rw [compR_map (cntR (((willers bs).take i).map (·.ch))).zipIdx (enc2 qd) (fun p => p.1 * (((p.2 + 1 : Nat) : Int) : Rat)) qd (by
    intro p hp
    have h := m1 p hp
    have ht := timesD S.toHasP (n + 2) 25 0 (2 ^ 25) 32 h.1 h.2.1 (by decide) (by decide) (by decide) (by decide)
    rw [qd_int] at ht
    wide_open using [enc2, S.htimes.asg]
    rw [show ((p.2 : Nat) : Int) + 1 = ((p.2 + 1 : Nat) : Int) by omega, ht]
    wide_open using [and_self])]
  all_goals wide_open using [tt]
  all_goals wide_open using [show rsum ((cntR (((willers bs).take i).map (·.ch))).zipIdx.map fun p => p.1 * (((p.2 + 1 : Nat) : Int) : Rat)) = meanR (willers bs) i from rfl, p_bk3, p_bk5, ha, askD, q2, q3, q4, S.hplus.asg, S.htimes.asg, p2]
  all_goals exact ⟨_, rfl, ⟨by show k + 1 ≤ 25; omega, by show Deg 80 _ (lastT _ _ _ _ _); rw [hfin]; exact t4⟩, _, _, _, _, _, _, _, by rw [hfin]⟩
theorem meanLast_spec (n : Nat) (bs : List Bk) (seats : Nat) (hc : ∀ b ∈ bs, Chn b.ch) (hl : ∀ b ∈ bs, Low b) (hlen : bs.length ≤ 25) :
    tabAt fs (n + 6) S.meanLast [.shr (.lst (bs.map bkD)), .shr (.int seats)] = .ok (.shr (qd (meanLastR seats bs))) [.non, .non] ∧ Deg 80 (25 * 2 ^ 120) (meanLastR seats bs) := by
  have hwl : (willers bs).length ≤ bs.length := List.length_filter_le _ _
  have hul : (unwill bs).length ≤ bs.length := by unfold unwill; rw [List.length_map]; exact List.length_filter_le _ _
  obtain ⟨⟨s4, hs4, e4⟩, f4⟩ := counted_D S.toHasP (n + 1) (unwill bs) (chs_of hc) (by omega)
  have l3 : bs.length < LIM := lim_pos _ (by omega)
  rw [S.hlast.tab (n + 5) _ [.shr (.lst (bs.map bkD)), .shr (.int seats), .non, .non, .non, .non, .non, .non, .non, .non, .non, .non, .non, .non, .non, .non] rfl rfl (by decide) rfl]
  unfold c_mean_last
  wide_open using [S.hcounted.asg, l3]
  rw [compR_filter bs bkD (fun b => b.ask.isSome) (by
    intro x hx; wide_open using [p_bk5, isnt_non]
    cases x.ask.isSome <;> wide_open using [and_self])]
  rw [show bs.filter (fun b => b.ask.isSome) = willers bs from rfl]
  wide_open using [l3, S.hcounted.asg]
  rw [compR_fm bs bkD (fun b => b.ask.isNone) (·.ch) qd (by
    intro x hx; wide_open using [p_bk3, p_bk5, is_non]
    cases x.ask.isNone <;> wide_open using [p_bk3])]
  rw [show (bs.filter fun b => b.ask.isNone).map (·.ch) = unwill bs from rfl]
  wide_open using [e4]
  have hr : ((willers bs).zipIdx.foldl (fun s p => (lastT seats (unwill bs) (willers bs) s.1 p, s.2 + 1)) ((0 : Rat), 0)) = (meanLastR seats bs, (willers bs).length) := by
    have : ∀ (L : List (Bk × Nat)) (a : Rat) (k : Nat), L.foldl (fun s p => (lastT seats (unwill bs) (willers bs) s.1 p, s.2 + 1)) (a, k) = (L.foldl (lastT seats (unwill bs) (willers bs)) a, k + L.length) := by
      intro L
      induction L with
      | nil => intro a k; rfl
      | cons x L ih => intro a k; rw [List.foldl_cons, ih]; simp [Nat.add_comm, Nat.add_left_comm]
    rw [this, List.length_zipIdx, Nat.zero_add]
    rfl
  refine for_run (fun o => (finish _ (o.then _) = _) ∧ _) (willers bs).zipIdx (enc2 bkD) (fun p ρ => LI bs seats s4 (p.foldl (fun s p => (lastT seats (unwill bs) (willers bs) s.1 p, s.2 + 1)) ((0 : Rat), 0)) ρ ∧ (p.foldl (fun s p => (lastT seats (unwill bs) (willers bs) s.1 p, s.2 + 1)) ((0 : Rat), 0)).2 = p.length) ⟨⟨⟨Nat.zero_le _, ?_⟩, .non, .non, .non, .non, .non, .non, .non, rfl⟩, rfl⟩ ?_ ?_
  · exact (deg_zero _).up (Nat.le_refl _) (Nat.zero_le _)
  · intro p a r ρ hp hq
    obtain ⟨⟨⟨h1, h2⟩, z2, z6, z7, z8, z9, z10, z11, rfl⟩, h4⟩ := hq
    have hmem : a ∈ (willers bs).zipIdx := by rw [hp]; simp
    obtain ⟨ha1, ha2⟩ := zipIdx_snd hmem
    have hk : p.length < 25 := by
      have := congrArg List.length hp
      rw [List.length_zipIdx, List.length_append, List.length_cons] at this
      omega
    obtain ⟨ρ2, e, hq⟩ := meanLast_turn S n bs seats hc hl hlen s4 hs4 _ _ (by omega) h2 a.1 a.2 ha2 ha1 z2 z6 z7 z8 z9 z10 z11 _ rfl
    refine ⟨ρ2, e, ?_⟩
    rw [List.foldl_append]
    exact ⟨hq, by rw [List.length_append]; simp [h4]⟩
  · intro ρ' hq
    obtain ⟨⟨⟨h1, h2⟩, z2, z6, z7, z8, z9, z10, z11, rfl⟩, h4⟩ := hq
    rw [hr] at *
    wide_open using [and_self]
    exact ⟨trivial, h2.up (Nat.le_refl _) (Nat.mul_le_mul_right _ h1)⟩
end
end Mx.My

end
section
set_option Elab.async false
set_option linter.all false
set_option exponentiation.threshold 5000
/-! Sq4: worth_with by either rule. -/
namespace Mx.My
local macro_rules
  | `(tactic| wide_open with [$ts,*]) => `(tactic| simp only [e_var, e_cst, e_pr, t_pr, t_cst, t_var, t_call, t_tv, e_tv, t_not, e_not, t_and, e_and, t_or, e_or, e_ifx, e_tup, e_lst, e_call, o_nil, l_nil, a_nil, o_cons, l_cons, a_cons, bind_ok, bind_exc, bind_bad, isVar_var, isVar_pr, isVar_cst, isVar_call, isVar_tup, isVar_lst, isVar_comp, isVar_ifx, opd_some, opd_none, kep_eq, tst_eq, arg_f, arg_t, d_shr, d_own, prE_eq, get_val, get_bor, gets_nil, gets_cons, p_ne_int, p_eq_int, p_add, p_sub, p_abs, p_idx0, p_idx1, okShr_eq, c_done, c_asg, c_par, c_exp, c_retV, c_ife, ofR_ok, ofR_exc, then_nx, then_ret, then_exc, take_nil, take_val, List.getElem?_cons_zero, List.getElem?_cons_succ, List.set_cons_zero, List.set_cons_succ, List.length_cons, List.length_nil, Option.bind_some, Option.map_some, List.map_cons, List.map_nil, Ar.sl, List.replicate, List.cons_append, List.nil_append, backA, outs_nil, outs_shr, fin_nx, fin_ret, asgT_n, asgT_t, setT_n, setT_t, setTs_n, setTs_c, callK_eq, c_retP, c_retT, c_retC, c_retX, c_retD, c_retA, c_retI, Nat.reduceAdd, Nat.reduceLT, reduceIte, and_self, Nat.reduceSub, lm0, lm1, lm2, lm3, lm4, lm5, lm6, lm7, lm8, lm9, lm10, lm11, lm12, lm13, lm14, if_true, Nat.lt_add_one, Nat.zero_lt_succ, $[$ts:term],*])
local macro_rules
  | `(tactic| wide_open using [$ts,*]) => `(tactic| simp only [e_var, e_cst, e_pr, t_pr, t_cst, t_var, t_call, t_tv, e_tv, t_not, e_not, t_and, e_and, t_or, e_or, e_ifx, e_tup, e_lst, e_call, o_nil, l_nil, a_nil, o_cons, l_cons, a_cons, bind_ok, bind_exc, bind_bad, isVar_var, isVar_pr, isVar_cst, isVar_call, isVar_tup, isVar_lst, isVar_comp, isVar_ifx, opd_some, opd_none, kep_eq, tst_eq, arg_f, arg_t, d_shr, d_own, prE_eq, get_val, get_bor, gets_nil, gets_cons, p_ne_int, p_eq_int, p_add, p_sub, p_abs, p_idx0, p_idx1, okShr_eq, c_done, c_asg, c_par, c_exp, c_retV, c_ife, ofR_ok, ofR_exc, then_nx, then_ret, then_exc, take_nil, take_val, List.getElem?_cons_zero, List.getElem?_cons_succ, List.set_cons_zero, List.set_cons_succ, List.length_cons, List.length_nil, Option.bind_some, Option.map_some, List.map_cons, List.map_nil, Ar.sl, List.replicate, List.cons_append, List.nil_append, backA, outs_nil, outs_shr, fin_nx, fin_ret, asgT_n, asgT_t, setT_n, setT_t, setTs_n, setTs_c, callK_eq, c_retP, c_retT, c_retC, c_retX, c_retD, c_retA, c_retI, Nat.reduceAdd, Nat.reduceLT, reduceIte, and_self, Nat.reduceSub, lm0, lm1, lm2, lm3, lm4, lm5, lm6, lm7, lm8, lm9, lm10, lm11, lm12, lm13, lm14, if_true, Nat.lt_add_one, Nat.zero_lt_succ, Nat.reduceEqDiff, Nat.reduceBEq, put_nil, put_cons, nis, Int.reduceBEq, Int.reduceLT, Int.reduceLE, Int.reduceAdd, Int.reduceSub, Int.reduceNeg, decide_true, decide_false, beq_self_eq_true, e_cmp, take_bor, e_chain, t_chain, t_ifx, c_for, c_whl, it_lst, it_tup, it_zipLL, it_zipTT, it_enum, List.length_map, wipe_nil, wipe_cons, forT_some, trnR_eq, map_some', map_none', isVar_nil, isVar_not, isVar_and, isVar_or, isVar_tv, isVar_chain, isVar_sl3, isVar_met, isVar_dct, isVar_dcomp, isVar_mut, isVar_srt, isVar_srtL, isVar_mnk, c_retO, c_retNt, c_retCh, c_retL, c_retN, fin_exc, c_setI, c_augI, c_rse, e_srt, e_mut, ite_true', ite_false', Bool.not_true, Bool.not_false, Bool.false_eq_true, if_false, $[$ts:term],*])
open PySem
theorem pow_lt_tiny {a : Nat} (h : a ≤ 1800) : 2 ^ a < TINY := by rw [tiny_val]; exact Nat.pow_lt_pow_right (by decide) (by omega)
theorem num420 : 25 * (25 * ((2 * 420) ^ 25 * 1000)) < TINY := by rw [tiny_val]; decide
theorem room420 : Room 420 25 := ⟨by decide, by decide, num420⟩
theorem fine_deg {a B : Nat} {q : Rat} (h : Fine (420 ^ a) (B * 420 ^ a) q) : Deg a B q := h
theorem ssum_deg {a B N : Nat} {rows : List (Int × Rat)} (h : ∀ r ∈ rows, Deg a B r.2 ∧ r.1.natAbs ≤ N) : Deg a (rows.length * (N * B)) (ssum rows) := by
  have := ssum_fine (p420 a) h
  unfold Deg
  rw [Nat.mul_assoc, Nat.mul_assoc]
  exact this
theorem fine_tiny {a B : Nat} (ha : a ≤ 100) (hB : B ≤ 2 ^ 900) : 420 ^ a < TINY ∧ B * 420 ^ a < TINY := by
  have h1 : 420 ^ a ≤ 420 ^ 100 := Nat.pow_le_pow_right (by decide) ha
  have h2 : 2 ^ 900 * 420 ^ 100 < TINY := by rw [tiny_val]; decide
  have h3 : B * 420 ^ a ≤ 2 ^ 900 * 420 ^ 100 := Nat.mul_le_mul hB h1
  have h4 : 420 ^ 100 ≤ 2 ^ 900 * 420 ^ 100 := Nat.le_mul_of_pos_left _ (by decide)
  omega
theorem small_tiny {k : Nat} (h : k ≤ 2 ^ 1000) : k < TINY := Nat.lt_of_le_of_lt h (pow_lt_tiny (by decide))
section
variable {fs : List Fd}
theorem signedD (W : HasW fs) (n a B N : Nat) (rows : List (Int × Rat)) (h : ∀ r ∈ rows, Deg a B r.2 ∧ r.1.natAbs ≤ N) (ha : a ≤ 100) (hN : N ≤ 2 ^ 400) (hB : B ≤ 2 ^ 400) (hl : rows.length ≤ 2 ^ 100) : tabAt fs (n + 3) W.signedSum [.shr (.lst (rows.map numD))] = .ok (.shr (qd (ssum rows))) [.non] := by
  have hb : B ≤ 2 ^ 900 := Nat.le_trans hB (Nat.pow_le_pow_right (by decide) (by decide))
  refine signed_spec W n (420 ^ a) (B * 420 ^ a) N (p420 a) (fine_tiny ha hb).1 (fine_tiny ha hb).2 (small_tiny (Nat.le_trans hN (Nat.pow_le_pow_right (by decide) (by decide)))) rows h ?_
  have : rows.length * (N * (B * 420 ^ a)) = (rows.length * N * B) * 420 ^ a := by simp only [Nat.mul_assoc]
  rw [this]
  refine (fine_tiny ha ?_).2
  calc rows.length * N * B ≤ 2 ^ 100 * 2 ^ 400 * 2 ^ 400 := Nat.mul_le_mul (Nat.mul_le_mul hl hN) hB
    _ = 2 ^ 900 := by decide
structure FitG (b : Bk) : Prop where
  ch : Chn b.ch
  low : Low b
  fare : b.fare.natAbs ≤ 1000
variable (S : HasM fs)
def willR (own : Bool) (seats : Nat) (bs : List Bk) : Rat := if own then meanOwnR seats bs else meanLastR seats bs
include S in
theorem stays_deg (seats : Nat) (bs : List Bk) (hc : ∀ b ∈ bs, Chn b.ch) (hlen : bs.length ≤ 25) : ∀ p ∈ staysR seats bs, Deg 25 (2 ^ 30) p.2 := by
  intro p hp
  have := stays_fine S.toHasS 420 25 room420 seats bs hc hlen p hp
  rw [Nat.mul_pow, ← Nat.mul_assoc] at this
  exact (fine_deg this).up (Nat.le_refl _) (by decide)
include S in
theorem meanOwn_deg (seats : Nat) (bs : List Bk) (hb : ∀ b ∈ bs, FitG b) (hlen : bs.length ≤ 25) : Deg 25 (2 ^ 50) (meanOwnR seats bs) := by
  have h : ∀ q ∈ (staysR seats bs).filterMap ownR, Deg 25 (2 ^ 40) q := by
    intro q hq
    obtain ⟨p, hp, e⟩ := List.mem_filterMap.mp hq
    have h1 := stays_deg S seats bs (fun b hh => (hb b hh).ch) hlen p hp
    have h2 := (hb p.1 (staysR_mem hp)).low
    unfold ownR at e
    cases ha : p.1.ask with
    | none => rw [ha] at e; cases e
    | some a =>
      rw [ha] at e
      cases e
      exact (h1.mul ((Deg.ofInt a).up (Nat.le_refl _) (h2 a ha))).up (by decide) (by decide)
  refine (rsum_deg h).up (Nat.le_refl _) ?_
  have : ((staysR seats bs).filterMap ownR).length ≤ 32 := Nat.le_trans (List.length_filterMap_le _ _) (by rw [staysR_len]; omega)
  exact Nat.le_trans (Nat.mul_le_mul_right (2 ^ 40) this) (by decide)
theorem meanOwnD (n : Nat) (seats : Nat) (bs : List Bk) (hb : ∀ b ∈ bs, FitG b) (hlen : bs.length ≤ 25) : tabAt fs (n + 6) S.meanOwn [.shr (.lst (bs.map bkD)), .shr (.int seats)] = .ok (.shr (qd (meanOwnR seats bs))) [.non, .non] :=
  meanOwn_spec S.toHasS n 420 25 room420 bs seats (fun b hh => (hb b hh).ch) (fun b hh => (hb b hh).low) hlen (by decide)
theorem will_spec (n : Nat) (h : House) (hr : h.rule = "own" ∨ h.rule = "last") (seats : Nat) (bs : List Bk) (hb : ∀ b ∈ bs, FitG b) (hlen : bs.length ≤ 25) :
    tabAt fs (n + 7) S.willing [.shr (ruleD h), .shr (.lst (bs.map bkD)), .shr (.int seats)] = .ok (.shr (qd (willR (h.rule == "own") seats bs))) [.non, .non, .non] ∧ Deg 80 (2 ^ 130) (willR (h.rule == "own") seats bs) := by
  have h1 := meanOwnD S n seats bs hb hlen
  have h2 := meanOwn_deg S seats bs hb hlen
  have h3 := meanLast_spec S n bs seats (fun b hh => (hb b hh).ch) (fun b hh => (hb b hh).low) hlen
  have h0 : prI .idx [ruleD h, .int 0] = okShr (.str h.rule) := p_idx0 ..
  rw [S.hwilling.tab (n + 6) _ [.shr (ruleD h), .shr (.lst (bs.map bkD)), .shr (.int seats)] rfl rfl (by decide) rfl]
  unfold c_willing_mean willR
  rcases hr with e | e
  · have h4 : (h.rule == ("own" : Str)) = true := by rw [e]; decide
    wide_open using [h0, p_eq_str, h4, S.hmeanOwn.asg, h1]
    exact ⟨trivial, h2.up (by decide) (by decide)⟩
  · have h4 : (h.rule == ("own" : Str)) = false := by rw [e]; decide
    wide_open using [h0, p_eq_str, h4, S.hlast.asg, h3.1]
    exact ⟨trivial, h3.2.up (by decide) (by decide)⟩
/-- what they are worth -/
def worthG (own : Bool) (pay : Int) (seats : Nat) (bs : List Bk) : Rat := ssum (bs.map fareW) - willR own seats bs - ssum ((staysR seats bs).filterMap (forced pay))
include S in
theorem forced_deg (seats : Nat) (pay : Int) (hp : pay.natAbs ≤ 10000) (bs : List Bk) (hb : ∀ b ∈ bs, FitG b) (hlen : bs.length ≤ 25) : ∀ r ∈ (staysR seats bs).filterMap (forced pay), Deg 25 (2 ^ 30) r.2 ∧ r.1.natAbs ≤ 10000 := by
  intro r hr
  obtain ⟨p, hp', e⟩ := List.mem_filterMap.mp hr
  have h1 := stays_deg S seats bs (fun b hh => (hb b hh).ch) hlen p hp'
  unfold forced at e
  split at e
  · cases e; exact ⟨h1, hp⟩
  · cases e
theorem fare_deg (bs : List Bk) (hb : ∀ b ∈ bs, FitG b) : ∀ r ∈ bs.map fareW, Deg 1 1 r.2 ∧ r.1.natAbs ≤ 1000 := by
  intro r hr
  obtain ⟨b, hb1, rfl⟩ := List.mem_map.mp hr
  exact ⟨(hb b hb1).ch.one, (hb b hb1).fare⟩
theorem worthG_spec (n : Nat) (h : House) (hr : h.rule = "own" ∨ h.rule = "last") (g : Str) (kd : Kd) (m : Nat) (hm : m ≤ 12) (x : Go) (gr : List Go) (hx : h.gos.filter (fun b => b.name == g) = x :: gr) (hgl : h.gos.length < LIM) (hbl : h.bks.length < LIM) (t0 pay : Int) (tr : List (Int × Int)) (ht : h.table = (t0, pay) :: tr) (hpay : pay.natAbs ≤ 10000)
    (hb : ∀ b ∈ atGoing h g ++ more g kd m, FitG b) (hM : (atGoing h g ++ more g kd m).length ≤ 25) :
    tabAt fs (n + 8) S.worthWith [.shr (houseD h), .shr (.str g), .shr (kindD kd), .shr (.int m)] = .ok (.shr (qd (worthG (h.rule == "own") pay x.seats (inOrd (atGoing h g ++ more g kd m))))) [.non, .non, .non, .non] ∧ Deg 80 (2 ^ 140) (worthG (h.rule == "own") pay x.seats (inOrd (atGoing h g ++ more g kd m))) := by
  have hb' : ∀ b ∈ inOrd (atGoing h g ++ more g kd m), FitG b := fun b hh => hb b (inOrd_mem.mp hh)
  have hM' : (inOrd (atGoing h g ++ more g kd m)).length ≤ 25 := by rw [inOrd_len]; exact hM
  have hbook := booked_spec S.toHasH (n + 6) h g hbl
  have hgo := going_spec S.toHasH (n + 6) h g x gr hx hgl
  have hord := order_spec S.toHasO (n + 5) (atGoing h g ++ more g kd m) (lim_pos _ (by omega))
  have hadd : prI .add [.lst ((atGoing h g).map bkD), .lst ((more g kd m).map bkD)] = some (.own (.lst ((atGoing h g ++ more g kd m).map bkD))) := by
    rw [p_addL, if_pos (by rw [List.length_map, List.length_map, ← List.length_append]; exact lim_pos _ (by omega)), List.map_append]
  generalize hW : inOrd (atGoing h g ++ more g kd m) = bs at *
  have hst := (stays_spec S.toHasS (n + 2) 420 25 room420 bs x.seats (fun y hy => (hb' y hy).ch) hM').1
  have hwill := will_spec S n h hr x.seats bs hb' hM'
  have hfares := signedD S.toHasW (n + 4) 1 1 1000 (bs.map fareW) (fare_deg bs hb') (by decide) (by decide) (by decide) (by rw [List.length_map]; exact Nat.le_trans hM' (by decide))
  have hfl : ((staysR x.seats bs).filterMap (forced pay)).length ≤ 25 := Nat.le_trans (List.length_filterMap_le _ _) (by rw [staysR_len]; exact hM')
  have hff := forced_deg S x.seats pay hpay bs hb' hM'
  have hforced := signedD S.toHasW (n + 4) 25 (2 ^ 30) 10000 _ hff (by decide) (by decide) (by decide) (Nat.le_trans hfl (by decide))
  have d1 : Deg 1 (2 ^ 20) (ssum (bs.map fareW)) := (ssum_deg (fare_deg bs hb')).up (Nat.le_refl _) (by
    rw [List.length_map]; exact Nat.le_trans (Nat.mul_le_mul_right (1000 * 1) hM') (by decide))
  have d2 : Deg 25 (2 ^ 60) (ssum ((staysR x.seats bs).filterMap (forced pay))) := (ssum_deg hff).up (Nat.le_refl _) (Nat.le_trans (Nat.mul_le_mul_right (10000 * 2 ^ 30) hfl) (by decide))
  have d3 := (d1.sub hwill.2).up (b := 80) (C := 2 ^ 135) (by decide) (by decide)
  have d4 := (d3.sub d2).up (b := 80) (C := 2 ^ 140) (by decide) (by decide)
  have hm1 := minusD S.toHasP (n + 4) 1 80 _ _ d1 hwill.2 (by decide) (by decide) (by decide) (by decide)
  have hm2 := minusD S.toHasP (n + 4) 80 25 _ _ d3 d2 (by decide) (by decide) (by decide) (by decide)
  have hlm : (more g kd m).length < LIM := lim_pos _ (by rw [List.length_append] at hM; omega)
  have hlb : bs.length < LIM := lim_pos _ (by omega)
  refine ⟨?_, d4⟩
  rw [S.hworth.tab (n + 7) _ [.shr (houseD h), .shr (.str g), .shr (kindD kd), .shr (.int m), .non, .non, .non, .non, .non, .non, .non, .non, .non, .non] rfl rfl (by decide) rfl]
  have c1 := more_comp (tabAt fs (n + 7)) (asgOf fs) (houseD h) g kd m hm .non .non .non .non .non .non .non .non
  unfold c_worth_with
  wide_open with [c1, S.hbooked.asg, hbook, hadd, S.horder.asg, hord, S.hgoing.asg, hgo, go_idx5]
  have c2 := fare_comp (tabAt fs (n + 7)) (asgOf fs) bs hlb (.shr (houseD h)) (.shr (.str g)) (.shr (kindD kd)) (.shr (.int m)) (.own (.lst ((more g kd m).map bkD))) (.shr (.int x.seats)) .non .non .non
  have c3 := forced_comp S.toHasX (n + 7) bs x.seats pay hlb hst (.shr (houseD h)) (.shr (.str g)) (.shr (kindD kd)) (.shr (.int m)) (.own (.lst ((more g kd m).map bkD))) (.shr (qd (ssum (bs.map fareW)))) .non
  wide_open with [c2, S.hsigned.asg, hfares, ho_idx2, pay_idx h t0 pay tr ht, c3, hforced, S.hminus.asg, S.hwilling.asg, hwill.1, hm1, hm2]
  rfl
end
end Mx.My

end
section
set_option Elab.async false
set_option linter.all false
set_option exponentiation.threshold 5000
/-! Sq5: what a house is, of any thing. -/
namespace Mx.My
local macro_rules
  | `(tactic| wide_open with [$ts,*]) => `(tactic| simp only [e_var, e_cst, e_pr, t_pr, t_cst, t_var, t_call, t_tv, e_tv, t_not, e_not, t_and, e_and, t_or, e_or, e_ifx, e_tup, e_lst, e_call, o_nil, l_nil, a_nil, o_cons, l_cons, a_cons, bind_ok, bind_exc, bind_bad, isVar_var, isVar_pr, isVar_cst, isVar_call, isVar_tup, isVar_lst, isVar_comp, isVar_ifx, opd_some, opd_none, kep_eq, tst_eq, arg_f, arg_t, d_shr, d_own, prE_eq, get_val, get_bor, gets_nil, gets_cons, p_ne_int, p_eq_int, p_add, p_sub, p_abs, p_idx0, p_idx1, okShr_eq, c_done, c_asg, c_par, c_exp, c_retV, c_ife, ofR_ok, ofR_exc, then_nx, then_ret, then_exc, take_nil, take_val, List.getElem?_cons_zero, List.getElem?_cons_succ, List.set_cons_zero, List.set_cons_succ, List.length_cons, List.length_nil, Option.bind_some, Option.map_some, List.map_cons, List.map_nil, Ar.sl, List.replicate, List.cons_append, List.nil_append, backA, outs_nil, outs_shr, fin_nx, fin_ret, asgT_n, asgT_t, setT_n, setT_t, setTs_n, setTs_c, callK_eq, c_retP, c_retT, c_retC, c_retX, c_retD, c_retA, c_retI, Nat.reduceAdd, Nat.reduceLT, reduceIte, and_self, Nat.reduceSub, lm0, lm1, lm2, lm3, lm4, lm5, lm6, lm7, lm8, lm9, lm10, lm11, lm12, lm13, lm14, if_true, Nat.lt_add_one, Nat.zero_lt_succ, $[$ts:term],*])
local macro_rules
  | `(tactic| wide_open using [$ts,*]) => `(tactic| simp only [e_var, e_cst, e_pr, t_pr, t_cst, t_var, t_call, t_tv, e_tv, t_not, e_not, t_and, e_and, t_or, e_or, e_ifx, e_tup, e_lst, e_call, o_nil, l_nil, a_nil, o_cons, l_cons, a_cons, bind_ok, bind_exc, bind_bad, isVar_var, isVar_pr, isVar_cst, isVar_call, isVar_tup, isVar_lst, isVar_comp, isVar_ifx, opd_some, opd_none, kep_eq, tst_eq, arg_f, arg_t, d_shr, d_own, prE_eq, get_val, get_bor, gets_nil, gets_cons, p_ne_int, p_eq_int, p_add, p_sub, p_abs, p_idx0, p_idx1, okShr_eq, c_done, c_asg, c_par, c_exp, c_retV, c_ife, ofR_ok, ofR_exc, then_nx, then_ret, then_exc, take_nil, take_val, List.getElem?_cons_zero, List.getElem?_cons_succ, List.set_cons_zero, List.set_cons_succ, List.length_cons, List.length_nil, Option.bind_some, Option.map_some, List.map_cons, List.map_nil, Ar.sl, List.replicate, List.cons_append, List.nil_append, backA, outs_nil, outs_shr, fin_nx, fin_ret, asgT_n, asgT_t, setT_n, setT_t, setTs_n, setTs_c, callK_eq, c_retP, c_retT, c_retC, c_retX, c_retD, c_retA, c_retI, Nat.reduceAdd, Nat.reduceLT, reduceIte, and_self, Nat.reduceSub, lm0, lm1, lm2, lm3, lm4, lm5, lm6, lm7, lm8, lm9, lm10, lm11, lm12, lm13, lm14, if_true, Nat.lt_add_one, Nat.zero_lt_succ, Nat.reduceEqDiff, Nat.reduceBEq, put_nil, put_cons, nis, Int.reduceBEq, Int.reduceLT, Int.reduceLE, Int.reduceAdd, Int.reduceSub, Int.reduceNeg, decide_true, decide_false, beq_self_eq_true, e_cmp, take_bor, e_chain, t_chain, t_ifx, c_for, c_whl, it_lst, it_tup, it_zipLL, it_zipTT, it_enum, List.length_map, wipe_nil, wipe_cons, forT_some, trnR_eq, map_some', map_none', isVar_nil, isVar_not, isVar_and, isVar_or, isVar_tv, isVar_chain, isVar_sl3, isVar_met, isVar_dct, isVar_dcomp, isVar_mut, isVar_srt, isVar_srtL, isVar_mnk, c_retO, c_retNt, c_retCh, c_retL, c_retN, fin_exc, c_setI, c_augI, c_rse, e_srt, e_mut, ite_true', ite_false', Bool.not_true, Bool.not_false, Bool.false_eq_true, if_false, $[$ts:term],*])
open PySem
theorem tys : (prI (.isI .int) [D.non] = okShr (.bl false)) ∧ (∀ (b : Bool), prI (.isI .int) [(D.bl b)] = okShr (.bl true)) ∧ (∀ (i : Int), prI (.isI .int) [(D.int i)] = okShr (.bl true)) ∧ (∀ (s : Str), prI (.isI .int) [(D.str s)] = okShr (.bl false)) ∧ (∀ (xs : List D), prI (.isI .int) [(D.lst xs)] = okShr (.bl false)) ∧ (∀ (xs : List D), prI (.isI .int) [(D.tup xs)] = okShr (.bl false)) ∧ (∀ (k : List (D × D)), prI (.isI .int) [(D.dic k)] = okShr (.bl false)) ∧ (prI (.isI .bool) [D.non] = okShr (.bl false)) ∧ (∀ (b : Bool), prI (.isI .bool) [(D.bl b)] = okShr (.bl true)) ∧ (∀ (i : Int), prI (.isI .bool) [(D.int i)] = okShr (.bl false)) ∧ (∀ (s : Str), prI (.isI .bool) [(D.str s)] = okShr (.bl false)) ∧ (∀ (xs : List D), prI (.isI .bool) [(D.lst xs)] = okShr (.bl false)) ∧ (∀ (xs : List D), prI (.isI .bool) [(D.tup xs)] = okShr (.bl false)) ∧ (∀ (k : List (D × D)), prI (.isI .bool) [(D.dic k)] = okShr (.bl false)) ∧ (prI (.isI .str) [D.non] = okShr (.bl false)) ∧ (∀ (b : Bool), prI (.isI .str) [(D.bl b)] = okShr (.bl false)) ∧ (∀ (i : Int), prI (.isI .str) [(D.int i)] = okShr (.bl false)) ∧ (∀ (s : Str), prI (.isI .str) [(D.str s)] = okShr (.bl true)) ∧ (∀ (xs : List D), prI (.isI .str) [(D.lst xs)] = okShr (.bl false)) ∧ (∀ (xs : List D), prI (.isI .str) [(D.tup xs)] = okShr (.bl false)) ∧ (∀ (k : List (D × D)), prI (.isI .str) [(D.dic k)] = okShr (.bl false)) ∧ (prI (.isI .tuple) [D.non] = okShr (.bl false)) ∧ (∀ (b : Bool), prI (.isI .tuple) [(D.bl b)] = okShr (.bl false)) ∧ (∀ (i : Int), prI (.isI .tuple) [(D.int i)] = okShr (.bl false)) ∧ (∀ (s : Str), prI (.isI .tuple) [(D.str s)] = okShr (.bl false)) ∧ (∀ (xs : List D), prI (.isI .tuple) [(D.lst xs)] = okShr (.bl false)) ∧ (∀ (xs : List D), prI (.isI .tuple) [(D.tup xs)] = okShr (.bl true)) ∧ (∀ (k : List (D × D)), prI (.isI .tuple) [(D.dic k)] = okShr (.bl false)) ∧ (prI (.isI .list) [D.non] = okShr (.bl false)) ∧ (∀ (b : Bool), prI (.isI .list) [(D.bl b)] = okShr (.bl false)) ∧ (∀ (i : Int), prI (.isI .list) [(D.int i)] = okShr (.bl false)) ∧ (∀ (s : Str), prI (.isI .list) [(D.str s)] = okShr (.bl false)) ∧ (∀ (xs : List D), prI (.isI .list) [(D.lst xs)] = okShr (.bl true)) ∧ (∀ (xs : List D), prI (.isI .list) [(D.tup xs)] = okShr (.bl false)) ∧ (∀ (k : List (D × D)), prI (.isI .list) [(D.dic k)] = okShr (.bl false)) ∧ (prI (.isI .dict) [D.non] = okShr (.bl false)) ∧ (∀ (b : Bool), prI (.isI .dict) [(D.bl b)] = okShr (.bl false)) ∧ (∀ (i : Int), prI (.isI .dict) [(D.int i)] = okShr (.bl false)) ∧ (∀ (s : Str), prI (.isI .dict) [(D.str s)] = okShr (.bl false)) ∧ (∀ (xs : List D), prI (.isI .dict) [(D.lst xs)] = okShr (.bl false)) ∧ (∀ (xs : List D), prI (.isI .dict) [(D.tup xs)] = okShr (.bl false)) ∧ (∀ (k : List (D × D)), prI (.isI .dict) [(D.dic k)] = okShr (.bl true)) := by
  unfold prI
  refine ⟨?_, ?_, ?_, ?_, ?_, ?_, ?_, ?_, ?_, ?_, ?_, ?_, ?_, ?_, ?_, ?_, ?_, ?_, ?_, ?_, ?_, ?_, ?_, ?_, ?_, ?_, ?_, ?_, ?_, ?_, ?_, ?_, ?_, ?_, ?_, ?_, ?_, ?_, ?_, ?_, ?_, ?_⟩ <;> intros <;> rfl
/-- lists and tuples of moderate size, to a depth -/
def niceD : Nat → D → Bool
  | 0, _ => false
  | n + 1, .lst xs => xs.all (niceD n) && decide (xs.length < 1000)
  | n + 1, .tup xs => xs.all (niceD n) && decide (xs.length < 1000)
  | _ + 1, .dic _ => false
  | _ + 1, .exc _ => false
  | _ + 1, .str s => decide (s.length < 1000)
  | _ + 1, .int i => decide (i.natAbs < 2 ^ 64)
  | _ + 1, _ => true
def Nice (d : D) : Prop := ∃ n, n ≤ 50 ∧ niceD n d = true
theorem nice_up (n k : Nat) (d : D) (h : niceD n d = true) : niceD (n + k) d = true := by
  induction n generalizing d with
  | zero => cases h
  | succ n ih =>
    rw [show n + 1 + k = (n + k) + 1 by omega]
    cases d <;> try exact h
    all_goals
      simp only [niceD, Bool.and_eq_true, List.all_eq_true, decide_eq_true_eq] at h ⊢
      exact ⟨fun x hx => ih x (h.1 x hx), h.2⟩
theorem nice_plain (n : Nat) (d : D) (h : niceD n d = true) : plainD n d = true := by
  induction n generalizing d with
  | zero => cases h
  | succ n ih =>
    cases d <;> try (first | rfl | cases h)
    all_goals
      simp only [niceD, plainD, Bool.and_eq_true, List.all_eq_true] at h ⊢
      exact fun x hx => ih x (h.1 x hx)
theorem plain_up (n k : Nat) (d : D) (h : plainD n d = true) : plainD (n + k) d = true := by
  induction n generalizing d with
  | zero => cases h
  | succ n ih =>
    rw [show n + 1 + k = (n + k) + 1 by omega]
    cases d <;> try exact h
    all_goals
      simp only [plainD, List.all_eq_true] at h ⊢
      exact fun x hx => ih x (h x hx)
theorem Nice.plain {d : D} (h : Nice d) : plainD 60 d = true := by
  obtain ⟨n, hn, h⟩ := h
  have := plain_up n (60 - n) d (nice_plain n d h)
  rwa [show n + (60 - n) = 60 by omega] at this
theorem Nice.tup {xs : List D} (h : Nice (.tup xs)) : (∀ x ∈ xs, Nice x) ∧ xs.length < 1000 := by
  obtain ⟨n, hn, h⟩ := h
  cases n with
  | zero => cases h
  | succ n =>
    simp only [niceD, Bool.and_eq_true, List.all_eq_true, decide_eq_true_eq] at h
    exact ⟨fun x hx => ⟨n, by omega, h.1 x hx⟩, h.2⟩
theorem Nice.lst {xs : List D} (h : Nice (.lst xs)) : (∀ x ∈ xs, Nice x) ∧ xs.length < 1000 := by
  obtain ⟨n, hn, h⟩ := h
  cases n with
  | zero => cases h
  | succ n =>
    simp only [niceD, Bool.and_eq_true, List.all_eq_true, decide_eq_true_eq] at h
    exact ⟨fun x hx => ⟨n, by omega, h.1 x hx⟩, h.2⟩
theorem Nice.str {s : Str} (h : Nice (.str s)) : s.length < 1000 := by
  obtain ⟨n, hn, h⟩ := h
  cases n with
  | zero => cases h
  | succ n => simpa [niceD] using h
theorem Nice.int {i : Int} (h : Nice (.int i)) : i.natAbs < 2 ^ 64 := by
  obtain ⟨n, hn, h⟩ := h
  cases n with
  | zero => cases h
  | succ n => simpa [niceD] using h
theorem Nice.dic {k} (h : Nice (.dic k)) : False := by
  obtain ⟨n, hn, h⟩ := h
  cases n <;> cases h
theorem Nice.exc {k} (h : Nice (.exc k)) : False := by
  obtain ⟨n, hn, h⟩ := h
  cases n <;> cases h
def isWholeB (d : D) (lo hi : Int) : Bool := match d with
  | .int i => decide (lo ≤ i) && decide (i ≤ hi)
  | _ => false
def abc : Str := "abcdefghijklmnopqrstuvwxyz"
def isWordB : D → Bool
  | .str s => decide (1 ≤ s.length) && decide (s.length ≤ 8) && s.cps.toList.all fun c => abc.cps.toList.contains c
  | _ => false
def isGoingB : D → Bool
  | .tup [a, b, c, l, m, s] => isWordB a && (isWordB b && isWordB c) && !eqb b c && isWholeB l 0 999 && isWholeB m 0 999 && ltD l m && isWholeB s 1 9
  | _ => false
def chB : D → D → Bool
  | .int a, .int b => decide (0 < a) && decide (a ≤ b) && Nat.gcd a.natAbs b.natAbs == 1
  | _, _ => false
def isChanceB : D → Bool
  | .tup [a, b] => chB a b
  | _ => false
def isKindB : D → Bool
  | .tup [f, c, m, k] => isWholeB f 0 999 && isChanceB c && isWholeB m 0 9 && (scalEq k .non || isWholeB k 0 999)
  | _ => false
def isStrB : D → Bool
  | .str _ => true
  | _ => false
def isBookingB (names : List D) : D → Bool
  | .tup [n, g, f, c, m, k] => isWordB n && isStrB g && names.any (eqb · g) && isKindB (.tup [f, c, m, k])
  | _ => false
def riseD (xs : List D) : Bool := (xs.zip xs.tail).all fun p => ltD p.1 p.2
def rowB : D → Bool
  | .tup [a, b] => isWholeB a 0 9999 && isWholeB b 0 9999
  | _ => false
def fst? : D → D
  | .tup (a :: _) => a
  | _ => .non
def snd? : D → D
  | .tup (_ :: b :: _) => b
  | _ => .non
def ruB : D → D → Bool
  | .str w, .tup rows => (w == "own" || w == "last") && !rows.isEmpty && rows.all rowB && riseD (rows.map fst?) && riseD (rows.map snd?) && eqb ((rows.map fst?).headD .non) (.int 0)
  | _, _ => false
def isRuleB : D → Bool
  | .tup [w, t] => ruB w t
  | _ => false
def hoB : D → D → D → Bool
  | .tup gs, .tup bs, r => decide (1 ≤ gs.length) && decide (gs.length ≤ 6) && gs.all isGoingB && riseD (gs.map fst?) && decide (bs.length ≤ 12) && bs.all (isBookingB (gs.map fst?)) && riseD (bs.map fst?) && isRuleB r
  | _, _, _ => false
def isHouseB : D → Bool
  | .tup [g, b, r] => hoB g b r
  | _ => false
theorem len2 {α : Type} {xs : List α} (h : xs.length = 2) : ∃ a b, xs = [a, b] := by
  match xs, h with
  | [a, b], _ => exact ⟨a, b, rfl⟩
theorem len3 {α : Type} {xs : List α} (h : xs.length = 3) : ∃ a b c, xs = [a, b, c] := by
  match xs, h with
  | [a, b, c], _ => exact ⟨a, b, c, rfl⟩
theorem len4 {α : Type} {xs : List α} (h : xs.length = 4) : ∃ a b c d, xs = [a, b, c, d] := by
  match xs, h with
  | [a, b, c, d], _ => exact ⟨a, b, c, d, rfl⟩
theorem len6 {α : Type} {xs : List α} (h : xs.length = 6) : ∃ a b c d e f, xs = [a, b, c, d, e, f] := by
  match xs, h with
  | [a, b, c, d, e, f], _ => exact ⟨a, b, c, d, e, f, rfl⟩
theorem nlen2 {xs : List D} (h : xs.length ≠ 2) : isChanceB (.tup xs) = false ∧ isRuleB (.tup xs) = false ∧ rowB (.tup xs) = false := by
  match xs, h with
  | [], _ => exact ⟨rfl, rfl, rfl⟩
  | [a], _ => exact ⟨rfl, rfl, rfl⟩
  | [a, b], h => exact absurd rfl h
  | a :: b :: c :: r, _ => exact ⟨rfl, rfl, rfl⟩
theorem nlen3 {xs : List D} (h : xs.length ≠ 3) : isHouseB (.tup xs) = false := by
  match xs, h with
  | [], _ => rfl
  | [a], _ => rfl
  | [a, b], h => rfl
  | [a, b, c], h => exact absurd rfl h
  | a :: b :: c :: d :: r, _ => rfl
theorem nlen4 {xs : List D} (h : xs.length ≠ 4) : isKindB (.tup xs) = false := by
  match xs, h with
  | [], _ => rfl
  | [a], _ => rfl
  | [a, b], h => rfl
  | [a, b, c], h => rfl
  | [a, b, c, d], h => exact absurd rfl h
  | a :: b :: c :: d :: e :: r, _ => rfl
theorem nlen6 {xs : List D} (h : xs.length ≠ 6) (names : List D) : isGoingB (.tup xs) = false ∧ isBookingB names (.tup xs) = false := by
  match xs, h with
  | [], _ => exact ⟨rfl, rfl⟩
  | [a], _ => exact ⟨rfl, rfl⟩
  | [a, b], h => exact ⟨rfl, rfl⟩
  | [a, b, c], h => exact ⟨rfl, rfl⟩
  | [a, b, c, d], h => exact ⟨rfl, rfl⟩
  | [a, b, c, d, e], h => exact ⟨rfl, rfl⟩
  | [a, b, c, d, e, f], h => exact absurd rfl h
  | a :: b :: c :: d :: e :: f :: g :: r, _ => exact ⟨rfl, rfl⟩
structure HasI (fs : List Fd) where
  common : Nat
  isWhole : Nat
  isWord : Nat
  doRise : Nat
  isGoing : Nat
  isChance : Nat
  isKind : Nat
  isBooking : Nat
  isRule : Nat
  isHouse : Nat
  lookHouse : Nat
  hcommon : isF fs common 2 2 [true, true] c_common
  hwhole : isF fs isWhole 3 3 [false, false, false] c_is_whole
  hword : isF fs isWord 1 3 [false] c_is_word
  hrise : isF fs doRise 1 4 [false] c_do_rise
  hgoing : isF fs isGoing 1 3 [false] (c_is_going isWord isWhole)
  hchance : isF fs isChance 1 3 [false] (c_is_chance common)
  hkind : isF fs isKind 1 1 [false] (c_is_kind isWhole isChance)
  hbooking : isF fs isBooking 2 2 [false, false] (c_is_booking isWord isKind)
  hrule : isF fs isRule 1 5 [false] (c_is_rule isWhole doRise)
  hhouse : isF fs isHouse 1 7 [false] (c_is_house isGoing doRise isBooking isRule)
  hlook : isF fs lookHouse 1 1 [false] (c_look_house isHouse)
theorem p_all (bs : List Bool) : prI .all [.lst (bs.map D.bl)] = okShr (.bl (bs.all id)) := by
  have : bools (bs.map D.bl) = some bs := by
    induction bs with
    | nil => rfl
    | cons b bs ih => rw [List.map_cons, bools, ih]; rfl
  unfold prI
  show (bools _).bind _ = _
  rw [this]; rfl
theorem p_all2 (a b : Bool) : prI .all [.lst [.bl a, .bl b]] = okShr (.bl (a && b)) := by
  have := p_all [a, b]
  simpa using this
theorem p_all3 (a b c : Bool) : prI .all [.lst [.bl a, .bl b, .bl c]] = okShr (.bl (a && (b && c))) := by
  have := p_all [a, b, c]
  simpa using this
theorem p_slcTt (xs : List D) (i : Nat) : prI (.slc false true) [.tup xs, .int i] = okShr (.tup (xs.take i)) := by
  rw [← cut_take]; unfold prI; rfl
theorem p_slcTd (xs : List D) (i : Nat) : prI (.slc true false) [.tup xs, .int i] = okShr (.tup (xs.drop i)) := by
  rw [← cut_drop]; unfold prI; rfl
theorem p_slcT2 (xs : List D) : prI (.slc false true) [.tup xs, .int 2] = okShr (.tup (xs.take 2)) := p_slcTt xs 2
theorem p_slcT3 (xs : List D) : prI (.slc false true) [.tup xs, .int 3] = okShr (.tup (xs.take 3)) := p_slcTt xs 3
theorem p_slcD2 (xs : List D) : prI (.slc true false) [.tup xs, .int 2] = okShr (.tup (xs.drop 2)) := p_slcTd xs 2
theorem p_slcDL1 (xs : List D) : prI (.slc true false) [.lst xs, .int 1] = some (.own (.lst (xs.drop 1))) := p_slcL xs 1
theorem p_lenS (s : Str) (h : s.length < LIM) : prI .len [.str s] = okShr (.int s.length) := by
  have : prI .len [.str s] = if s.length < LIM then okShr (.int s.length) else none := by unfold prI; rfl
  rw [this, if_pos h]
theorem p_innS (c : Nat) (y : Str) : prI .inn [.str ⟨#[c]⟩, .str y] = okShr (.bl (y.cps.toList.contains c)) := by unfold prI; rfl
theorem it_str (x : Str) : itemsOf .val [.str x] = some (x.cps.toList.map fun c => .str ⟨#[c]⟩) := rfl
theorem p_idx4 (a b c e x : D) (xs : List D) : prI .idx [.tup (a :: b :: c :: e :: x :: xs), .int 4] = okShr x := by
  rw [p_idxT, show (4 : Int) = ((4 : Nat) : Int) from rfl, getAt_nat _ 4 x rfl]; rfl
theorem p_eqD (a b : D) (ha : plainD 60 a = true) (hb : plainD 60 b = true) : prI .eq [a, b] = okShr (.bl (eqb a b)) := by
  have : prI .eq [a, b] = if plainD 60 a && plainD 60 b then okShr (.bl (eqb a b)) else none := by unfold prI; rfl
  rw [this, ha, hb]; rfl
theorem p_neD (a b : D) (ha : plainD 60 a = true) (hb : plainD 60 b = true) : prI .ne [a, b] = okShr (.bl (!eqb a b)) := by
  have : prI .ne [a, b] = if plainD 60 a && plainD 60 b then okShr (.bl (!eqb a b)) else none := by unfold prI; rfl
  rw [this, ha, hb]; rfl
theorem p_ltS (x y : Str) : prI .lt [.str x, .str y] = okShr (.bl (ltD (.str x) (.str y))) := by unfold prI; rfl
section
variable {fs : List Fd} (I : HasI fs)
theorem HasI.asgs : asgOf fs I.common = [true, true] ∧ asgOf fs I.isWhole = [false, false, false] ∧ asgOf fs I.isWord = [false] ∧ asgOf fs I.doRise = [false] ∧ asgOf fs I.isGoing = [false] ∧ asgOf fs I.isChance = [false] ∧ asgOf fs I.isKind = [false] ∧ asgOf fs I.isBooking = [false, false] ∧ asgOf fs I.isRule = [false] ∧ asgOf fs I.isHouse = [false] ∧ asgOf fs I.lookHouse = [false] :=
  ⟨I.hcommon.asg, I.hwhole.asg, I.hword.asg, I.hrise.asg, I.hgoing.asg, I.hchance.asg, I.hkind.asg, I.hbooking.asg, I.hrule.asg, I.hhouse.asg, I.hlook.asg⟩
theorem I_whole (n : Nat) (d : D) (hd : Nice d) (lo hi : Int) : tabAt fs (n + 1) I.isWhole [.shr d, .shr (.int lo), .shr (.int hi)] = .ok (.shr (.bl (isWholeB d lo hi))) [.non, .non, .non] := by
  rw [I.hwhole.tab n _ [.shr d, .shr (.int lo), .shr (.int hi)] rfl rfl (by decide) rfl]
  unfold c_is_whole
  cases d with
  | int i =>
    wide_open using [tys, p_le]
    by_cases h : lo ≤ i
    · wide_open using [decide_eq_true h, isWholeB, Bool.true_and]
    · wide_open using [decide_eq_false h, isWholeB, Bool.false_and]
  | exc c => exact (hd.exc).elim
  | _ => wide_open using [tys, isWholeB]
theorem I_word (n : Nat) (d : D) (hd : Nice d) : tabAt fs (n + 1) I.isWord [.shr d] = .ok (.shr (.bl (isWordB d))) [.non] := by
  rw [I.hword.tab n _ [.shr d, .non, .non] rfl rfl (by decide) rfl]
  unfold c_is_word
  cases d with
  | str s =>
    have hl := lim_pos _ hd.str
    have hl' : s.cps.toList.length < LIM := by rw [Array.length_toList]; exact hl
    have e1 : decide ((1 : Int) ≤ (s.length : Int)) = decide (1 ≤ s.length) := by congr 1; simp; omega
    have e2 : decide ((s.length : Int) ≤ 8) = decide (s.length ≤ 8) := by congr 1; simp; omega
    wide_open using [tys, p_le, p_lenS s hl, e1, e2]
    by_cases h : 1 ≤ s.length
    · wide_open using [decide_eq_true h, isWordB, Bool.true_and]
      by_cases h2 : s.length ≤ 8
      · wide_open using [decide_eq_true h2, it_str, hl', Bool.true_and]
        rw [compR_map s.cps.toList (fun c => D.str ⟨#[c]⟩) (fun c => abc.cps.toList.contains c) D.bl (by
          intro c hc; wide_open using [p_innS]; rfl)]
        wide_open using [p_all, List.all_map]
        rfl
      · wide_open using [decide_eq_false h2, Bool.false_and]
    · wide_open using [decide_eq_false h, isWordB, Bool.false_and]
  | exc c => exact (hd.exc).elim
  | _ => wide_open using [tys, isWordB]

theorem nb (b : Bool) : (!b) = true ↔ b = false := by cases b <;> simp
theorem I_chance (n : Nat) (d : D) (hd : Nice d) : tabAt fs (n + 2) I.isChance [.shr d] = .ok (.shr (.bl (isChanceB d))) [.non] := by
  rw [I.hchance.tab (n + 1) _ [.shr d, .non, .non] rfl rfl (by decide) rfl]
  unfold c_is_chance
  cases d with
  | tup xs =>
    obtain ⟨hx, hl⟩ := hd.tup
    by_cases h : xs.length = 2
    · obtain ⟨a, b, rfl⟩ := len2 h
      have ha := hx a (by simp)
      have hb := hx b (by simp)
      have hc : compR [1, 2] (T.nm 2) (ev (tabAt fs (n + 1)) (asgOf fs) (E.cst (D.bl true))).t (ev (tabAt fs (n + 1)) (asgOf fs) (.and2 (.pr (.isI .int) (.cons (.var 2) .nil)) (.not (.pr (.isI .bool) (.cons (.var 2) .nil))))).e [a, b] [.shr (.tup [a, b]), .non, .non] = .ok (.own (.lst (([a, b].map fun d => match d with | .int _ => true | _ => false).map D.bl)), [.shr (.tup [a, b]), .non, .non]) := by
        have := compR_map (own := [1, 2]) (t := T.nm 2) (fc := (ev (tabAt fs (n + 1)) (asgOf fs) (E.cst (D.bl true))).t) (fe := (ev (tabAt fs (n + 1)) (asgOf fs) (.and2 (.pr (.isI .int) (.cons (.var 2) .nil)) (.not (.pr (.isI .bool) (.cons (.var 2) .nil))))).e) (ρ := [.shr (.tup [a, b]), .non, .non]) [a, b] id (fun d => match d with | .int _ => true | _ => false) D.bl (by
          intro x hx'
          have hxn := hx x hx'
          cases x with
          | exc c => exact (hxn.exc).elim
          | _ => wide_open using [tys, id_eq])
        simpa using this
      wide_open using [tys, len_tup, hc]
      cases a with
      | int i =>
        cases b with
        | int j =>
          have hlt : prI .lt [.int 0, .int i] = okShr (.bl (decide (0 < i))) := p_lt 0 i
          wide_open using [isChanceB, chB, p_all2, Bool.and_true, hlt, p_le]
          by_cases h1 : 0 < i
          · wide_open using [decide_eq_true h1, Bool.true_and]
            by_cases h2 : i ≤ j
            · have hj : j.natAbs < BIG := Nat.lt_of_lt_of_le hb.int (by unfold BIG; exact Nat.pow_le_pow_right (by decide) (by decide))
              have hcs := common_spec I.hcommon n i.natAbs j.natAbs hj
              rw [show ((i.natAbs : Nat) : Int) = i by omega, show ((j.natAbs : Nat) : Int) = j by omega] at hcs
              wide_open using [decide_eq_true h2, Bool.true_and, I.asgs, hcs]
              congr 3
              rw [Bool.eq_iff_iff]; simp; omega
            · wide_open using [decide_eq_false h2, Bool.false_and]
          · wide_open using [decide_eq_false h1, Bool.false_and]
        | _ => wide_open using [isChanceB, chB, p_all2, Bool.and_false, Bool.false_and, Bool.and_true]
      | _ => wide_open using [isChanceB, chB, p_all2, Bool.and_false, Bool.false_and, Bool.and_true]
    · have h2 : ((xs.length : Int) == 2) = false := by rw [beq_eq_false_iff_ne]; omega
      have h3 := (nlen2 h).1
      wide_open using [tys, len_tup, h2, h3]
  | exc c => exact (hd.exc).elim
  | _ => wide_open using [tys, isChanceB]

theorem I_kind (n : Nat) (d : D) (hd : Nice d) : tabAt fs (n + 3) I.isKind [.shr d] = .ok (.shr (.bl (isKindB d))) [.non] := by
  rw [I.hkind.tab (n + 2) _ [.shr d] rfl rfl (by decide) rfl]
  unfold c_is_kind
  cases d with
  | tup xs =>
    obtain ⟨hx, hl⟩ := hd.tup
    by_cases h : xs.length = 4
    · obtain ⟨a, b, c, e, rfl⟩ := len4 h
      have w1 := I_whole I (n + 1) a (hx a (by simp)) 0 999
      have w2 := I_chance I n b (hx b (by simp))
      have w3 := I_whole I (n + 1) c (hx c (by simp)) 0 9
      have w4 := I_whole I (n + 1) e (hx e (by simp)) 0 999
      have hn : prI .isC [e, .non] = okShr (.bl (scalEq e .non)) := by unfold prI; rfl
      wide_open using [tys, len_tup, I.asgs, w1, isKindB]
      cases isWholeB a 0 999
      · wide_open using [Bool.false_and]
      · wide_open using [I.asgs, w2, Bool.true_and]
        cases isChanceB b
        · wide_open using [Bool.false_and]
        · wide_open using [p_idx2, p_idx3, I.asgs, w3, Bool.true_and]
          cases isWholeB c 0 9
          · wide_open using [Bool.false_and]
          · wide_open using [p_idx3, I.asgs, hn, Bool.true_and]
            cases scalEq e .non
            · wide_open using [p_idx3, I.asgs, w4, Bool.false_or]
            · wide_open using [Bool.true_or]
    · have h2 : ((xs.length : Int) == 4) = false := by rw [beq_eq_false_iff_ne]; omega
      wide_open using [tys, len_tup, h2, nlen4 h]
  | exc c => exact (hd.exc).elim
  | _ => wide_open using [tys, isKindB]
theorem I_going (n : Nat) (d : D) (hd : Nice d) : tabAt fs (n + 2) I.isGoing [.shr d] = .ok (.shr (.bl (isGoingB d))) [.non] := by
  rw [I.hgoing.tab (n + 1) _ [.shr d, .non, .non] rfl rfl (by decide) rfl]
  unfold c_is_going
  cases d with
  | tup xs =>
    obtain ⟨hx, hl⟩ := hd.tup
    by_cases h : xs.length = 6
    · obtain ⟨a, b, c, e, f, g, rfl⟩ := len6 h
      have w3 := I_whole I n e (hx e (by simp)) 0 999
      have w4 := I_whole I n f (hx f (by simp)) 0 999
      have w5 := I_whole I n g (hx g (by simp)) 1 9
      wide_open using [tys, len_tup, p_slcT3, List.take_succ_cons, List.take_zero]
      rw [compR_id [a, b, c] isWordB D.bl (by
        intro x hx'
        have hxn := I_word I n x (hx x (by simp only [List.mem_cons] at hx' ⊢; grind))
        wide_open using [I.asgs, hxn])]
      wide_open using [p_all3]
      rw [isGoingB]
      by_cases ha : isWordB a = true
      · by_cases hb : isWordB b = true
        · by_cases hc : isWordB c = true
          · cases b with
            | str b =>
              cases c with
              | str c =>
                wide_open using [ha, hb, hc, p_idx2, p_idx3, p_idx4, p_idx5, p_eq_str, Bool.true_and, eqb, I.asgs, w3]
                cases b == c
                · wide_open using [I.asgs, p_idx3, w3, Bool.true_and]
                  cases h3 : isWholeB e 0 999
                  · wide_open using [Bool.false_and]
                  · wide_open using [I.asgs, p_idx4, w4, Bool.true_and]
                    cases h4 : isWholeB f 0 999
                    · wide_open using [Bool.false_and]
                    · cases e with
                      | int e =>
                        cases f with
                        | int f =>
                          have hlt : prI .lt [.int e, .int f] = okShr (.bl (decide (e < f))) := p_lt e f
                          wide_open using [p_idx3, p_idx4, p_idx5, hlt, ltD, Bool.true_and]
                          cases decide (e < f)
                          · wide_open using [Bool.false_and]
                          · wide_open using [I.asgs, p_idx5, w5, Bool.true_and]
                        | _ => cases h4
                      | _ => cases h3
                · wide_open using [Bool.false_and]
              | _ => cases hc
            | _ => cases hb
          · rw [Bool.not_eq_true] at hc
            wide_open using [hc, Bool.and_false, Bool.false_and]
        · rw [Bool.not_eq_true] at hb
          wide_open using [hb, Bool.and_false, Bool.false_and]
      · rw [Bool.not_eq_true] at ha
        wide_open using [ha, Bool.false_and]
    · have h2 : ((xs.length : Int) == 6) = false := by rw [beq_eq_false_iff_ne]; omega
      wide_open using [tys, len_tup, h2, (nlen6 h []).1]
  | exc c => exact (hd.exc).elim
  | _ => wide_open using [tys, isGoingB]

theorem I_rise (n : Nat) (xs : List D) (hl : xs.length < LIM) (hp : ∀ x ∈ xs, ∀ y ∈ xs, prI .lt [x, y] = okShr (.bl (ltD x y))) : tabAt fs (n + 1) I.doRise [.shr (.lst xs)] = .ok (.shr (.bl (riseD xs))) [.non] ∧ tabAt fs (n + 1) I.doRise [.own (.lst xs)] = .ok (.shr (.bl (riseD xs))) [.shr (.lst xs)] := by
  have hz : (xs.zip (xs.drop 1)).length < LIM := by rw [List.length_zip]; omega
  have hmem : ∀ p ∈ xs.zip (xs.drop 1), prI .lt [p.1, p.2] = okShr (.bl (ltD p.1 p.2)) := fun p hpp => hp _ (List.of_mem_zip hpp).1 _ (List.mem_of_mem_drop (List.of_mem_zip hpp).2)
  have hz2 : itemsOf .zip [.lst xs, .lst (xs.drop 1)] = some ((xs.zip (xs.drop 1)).map pairD) := rfl
  have hfin : riseD xs = ((xs.zip (xs.drop 1)).map fun p => ltD p.1 p.2).all id := by
    unfold riseD; rw [List.all_map, List.drop_one]; rfl
  constructor
  · rw [I.hrise.tab n _ [.shr (.lst xs), .non, .non, .non] rfl rfl (by decide) rfl]
    unfold c_do_rise
    wide_open using [p_slcDL1, hz2, hz]
    rw [compR_map (xs.zip (xs.drop 1)) pairD (fun p => ltD p.1 p.2) D.bl (by
      intro p hpp; wide_open using [pairD, hmem p hpp])]
    wide_open using [p_all, hfin]
  · rw [I.hrise.tab n _ [.own (.lst xs), .non, .non, .non] rfl rfl (by decide) rfl]
    unfold c_do_rise
    wide_open using [p_slcDL1, hz2, hz]
    rw [compR_map (xs.zip (xs.drop 1)) pairD (fun p => ltD p.1 p.2) D.bl (by
      intro p hpp; wide_open using [pairD, hmem p hpp])]
    wide_open using [p_all, hfin, outsOf]
theorem I_booking (n : Nat) (names : List D) (hn : ∀ x ∈ names, plainD 60 x = true) (d : D) (hd : Nice d) : tabAt fs (n + 4) I.isBooking [.shr (.lst names), .shr d] = .ok (.shr (.bl (isBookingB names d))) [.non, .non] := by
  rw [I.hbooking.tab (n + 3) _ [.shr (.lst names), .shr d] rfl rfl (by decide) rfl]
  unfold c_is_booking
  cases d with
  | tup xs =>
    obtain ⟨hx, hl⟩ := hd.tup
    by_cases h : xs.length = 6
    · obtain ⟨a, b, c, e, f, g, rfl⟩ := len6 h
      have w1 := I_word I (n + 2) a (hx a (by simp))
      have hnk : Nice (.tup [c, e, f, g]) := by
        obtain ⟨k, hk, hd⟩ := hd
        refine ⟨k, hk, ?_⟩
        cases k with
        | zero => cases hd
        | succ k =>
          simp only [niceD, Bool.and_eq_true, List.all_eq_true, decide_eq_true_eq] at hd ⊢
          exact ⟨fun x hx => hd.1 x (List.mem_cons_of_mem _ (List.mem_cons_of_mem _ hx)), by simp⟩
      have w2 := I_kind I n _ hnk
      have hin : prI .inn [b, .lst names] = okShr (.bl (names.any fun y => eqb y b)) := by
        have : prI .inn [b, .lst names] = if plainD 60 b && names.all (plainD 60) then okShr (.bl (names.any fun y => eqb y b)) else none := by
          unfold prI; cases b <;> rfl
        rw [this, (hx b (by simp)).plain, List.all_eq_true.mpr hn]; rfl
      wide_open using [tys, len_tup, I.asgs, w1, isBookingB]
      cases isWordB a
      · wide_open using [Bool.false_and]
      · cases b with
        | str b =>
          wide_open using [tys, hin, isStrB, Bool.true_and]
          cases names.any fun y => eqb y (.str b)
          · wide_open using [Bool.false_and]
          · wide_open using [p_slcD2, List.drop_succ_cons, List.drop_zero, I.asgs, w2, Bool.true_and]
        | exc cc => exact ((hx (.exc cc) (by simp)).exc).elim
        | _ => wide_open using [tys, isStrB, Bool.true_and, Bool.false_and]
    · have h2 : ((xs.length : Int) == 6) = false := by rw [beq_eq_false_iff_ne]; omega
      wide_open using [tys, len_tup, h2, (nlen6 h names).2]
  | exc c => exact (hd.exc).elim
  | _ => wide_open using [tys, isBookingB]

theorem nin2 (x : Str) : prI .nin [.str x, .tup [.str "own", .str "last"]] = okShr (.bl (!(x == "own" || x == "last"))) := by
  have : prI .nin [.str x, .tup [.str "own", .str "last"]] = okShr (.bl (!([D.str "own", D.str "last"].any fun y => eqb y (.str x)))) := by unfold prI; rfl
  rw [this]
  have h : ∀ y : Str, eqb (.str y) (.str x) = (x == y) := fun y => by show (y == x) = (x == y); rw [Bool.eq_iff_iff, beq_iff_eq, beq_iff_eq]; exact eq_comm
  show okShr (.bl (!(eqb (.str "own") (.str x) || (eqb (.str "last") (.str x) || false)))) = _
  rw [h, h, Bool.or_false]
theorem row_cases (x : D) (hx : Nice x) (h : rowB x = true) : ∃ a b : Int, x = .tup [.int a, .int b] ∧ 0 ≤ a ∧ a ≤ 9999 ∧ 0 ≤ b ∧ b ≤ 9999 := by
  cases x with
  | tup xs =>
    by_cases hl : xs.length = 2
    · obtain ⟨a, b, rfl⟩ := len2 hl
      cases a with
      | int a =>
        cases b with
        | int b =>
          simp [rowB, isWholeB] at h
          exact ⟨a, b, rfl, h.1.1, h.1.2, h.2.1, h.2.2⟩
        | _ => simp [rowB, isWholeB] at h
      | _ => simp [rowB, isWholeB] at h
    · rw [(nlen2 hl).2.2] at h; cases h
  | _ => cases h
theorem rise_ints (as : List (Int × Int)) (f : Int × Int → Int) : ∀ x ∈ as.map fun a => D.int (f a), ∀ y ∈ as.map fun a => D.int (f a), prI .lt [x, y] = okShr (.bl (ltD x y)) := by
  intro x hx y hy
  obtain ⟨a, _, rfl⟩ := List.mem_map.mp hx
  obtain ⟨b, _, rfl⟩ := List.mem_map.mp hy
  exact p_lt _ _
def rowTurn (w : D) (rows : List D) (z2 z3 z4 : Sl) : Env → Prop := fun ρ => ∃ z1, ρ = [.shr (.tup [w, .tup rows]), z1, z2, z3, z4]
theorem row_loop (n : Nat) (w : D) (all rows : List D) (hr : ∀ x ∈ rows, Nice x) (z1 : Sl) (body : C) (hb : body = (match c_is_rule I.isWhole I.doRise with
    | .ife _ _ _ (.ife _ _ _ (.for_ _ _ _ b _)) => b
    | _ => .done)) :
    (rows.all rowB = true ∧ ∃ z1', forG (.nm 1) (evC (tabAt fs (n + 1)) (asgOf fs) body) rows [.shr (.tup [w, .tup all]), z1, .non, .non, .non] = .nx [.shr (.tup [w, .tup all]), z1', .non, .non, .non]) ∨ (rows.all rowB = false ∧ ∃ z1', forG (.nm 1) (evC (tabAt fs (n + 1)) (asgOf fs) body) rows [.shr (.tup [w, .tup all]), z1, .non, .non, .non] = .ret (.shr (.bl false)) [.shr (.tup [w, .tup all]), z1', .non, .non, .non]) := by
  induction rows generalizing z1 with
  | nil => exact .inl ⟨rfl, z1, rfl⟩
  | cons x rows ih =>
    have hx := hr x (by simp)
    have key : forT (evC (tabAt fs (n + 1)) (asgOf fs) body) (setT (.nm 1) x [.shr (.tup [w, .tup all]), z1, .non, .non, .non]) = if rowB x then .nx [.shr (.tup [w, .tup all]), .shr x, .non, .non, .non] else .ret (.shr (.bl false)) [.shr (.tup [w, .tup all]), .shr x, .non, .non, .non] := by
      subst hb
      unfold c_is_rule
      cases x with
      | tup xs =>
        obtain ⟨hxs, hl⟩ := hx.tup
        by_cases h : xs.length = 2
        · obtain ⟨a, b, rfl⟩ := len2 h
          wide_open using [tys, len_tup]
          rw [compR_id [a, b] (fun d => isWholeB d 0 9999) D.bl (by
            intro x hx'
            have hw := I_whole I n x (hxs x hx') 0 9999
            wide_open using [I.asgs, hw])]
          wide_open using [p_all2, rowB]
          rcases Bool.eq_false_or_eq_true (isWholeB a 0 9999 && isWholeB b 0 9999) with hq | hq <;> wide_open using [hq]
        · have h2 : ((xs.length : Int) == 2) = false := by rw [beq_eq_false_iff_ne]; omega
          wide_open using [tys, len_tup, h2, (nlen2 h).2.2]
      | exc c => exact (hx.exc).elim
      | _ => wide_open using [tys, rowB]
    rw [for_cons, key, List.all_cons]
    cases rowB x
    · exact .inr ⟨rfl, .shr x, rfl⟩
    · rcases ih (fun y hy => hr y (List.mem_cons_of_mem _ hy)) (.shr x) with ⟨h1, z, e⟩ | ⟨h1, z, e⟩
      · exact .inl ⟨h1, z, e⟩
      · exact .inr ⟨h1, z, e⟩
theorem I_rule (n : Nat) (d : D) (hd : Nice d) : tabAt fs (n + 2) I.isRule [.shr d] = .ok (.shr (.bl (isRuleB d))) [.non] := by
  rw [I.hrule.tab (n + 1) _ [.shr d, .non, .non, .non, .non] rfl rfl (by decide) rfl]
  unfold c_is_rule
  cases d with
  | tup xs =>
    obtain ⟨hx, hl⟩ := hd.tup
    by_cases h : xs.length = 2
    · obtain ⟨w, t, rfl⟩ := len2 h
      have hw := hx w (by simp)
      have ht := hx t (by simp)
      cases w with
      | str w =>
        wide_open using [tys, len_tup, nin2, isRuleB]
        cases hw' : (w == ("own" : Str) || w == ("last" : Str))
        · have : ruB (.str w) t = false := by cases t <;> simp [ruB, hw']
          wide_open using [this]
        · cases t with
          | tup rows =>
            obtain ⟨hrows, hrl⟩ := ht.tup
            have hemp : prI .eq [.tup rows, .tup []] = okShr (.bl rows.isEmpty) := by
              rw [p_eqD _ _ ht.plain (by decide)]
              cases rows <;> rfl
            wide_open using [tys, hemp, ruB, hw', Bool.true_and]
            cases hie : rows.isEmpty
            · wide_open using [Bool.true_and]
              rcases row_loop I n (.str w) rows rows hrows .non _ rfl with ⟨h1, z1, e⟩ | ⟨h1, z1, e⟩
              · obtain ⟨as, has⟩ : ∃ as : List (Int × Int), rows = as.map fun a => .tup [.int a.1, .int a.2] := by
                  clear e hemp ht hrl hie hd hx hl h
                  induction rows with
                  | nil => exact ⟨[], rfl⟩
                  | cons x rows ih =>
                    rw [List.all_cons, Bool.and_eq_true] at h1
                    obtain ⟨a, b, rfl, _⟩ := row_cases x (hrows x (by simp)) h1.1
                    obtain ⟨as, rfl⟩ := ih (fun y hy => hrows y (List.mem_cons_of_mem _ hy)) h1.2
                    exact ⟨(a, b) :: as, rfl⟩
                simp only [c_is_rule] at e
                subst has
                have hal : as.length < LIM := by rw [List.length_map] at hrl; exact lim_pos _ hrl
                have l1 : (as.map fun a => D.int a.1).length < LIM := by rw [List.length_map]; exact hal
                have l2 : (as.map fun a => D.int a.2).length < LIM := by rw [List.length_map]; exact hal
                have r1 := (I_rise I n (as.map fun a => D.int a.1) l1 (rise_ints as (·.1))).1
                have r2 := (I_rise I n (as.map fun a => D.int a.2) l2 (rise_ints as (·.2))).1
                have e1 : (as.map fun a => D.tup [.int a.1, .int a.2]).map fst? = as.map fun a => D.int a.1 := by rw [List.map_map]; rfl
                have e2 : (as.map fun a => D.tup [.int a.1, .int a.2]).map snd? = as.map fun a => D.int a.2 := by rw [List.map_map]; rfl
                wide_open using [e, h1, e1, e2, hal, Bool.true_and, I.asgs]
                rw [compR_map as (fun a => D.tup [.int a.1, .int a.2]) (fun a => a.1) D.int (by intro a ha; wide_open using [and_self])]
                rw [List.map_map]
                wide_open using [Function.comp_def, r1]
                have hmm : ∀ f : Int × Int → Int, List.map (fun x => D.int (f x)) as = as.map fun a => D.int (f a) := fun _ => rfl
                have hne : ∃ a0 ar, as = a0 :: ar := by
                  cases as with
                  | nil => cases hie
                  | cons a0 ar => exact ⟨a0, ar, rfl⟩
                obtain ⟨a0, ar, has⟩ := hne
                have hz : eqb (((as.map fun a => D.int a.1)).headD .non) (.int 0) = (a0.1 == 0) := by rw [has]; rfl
                have hg1 : getAt (as.map fun a => D.tup [.int a.1, .int a.2]) 0 = some (.tup [.int a0.1, .int a0.2]) := by
                  rw [has]; exact getAt_nat _ 0 _ rfl
                have hg2 : getAt [D.int a0.1, D.int a0.2] 0 = some (.int a0.1) := getAt_nat _ 0 _ rfl
                cases hr1 : riseD (as.map fun a => D.int a.1)
                · wide_open using [Bool.false_and, Bool.and_false]
                · wide_open using [hal, Bool.true_and, I.asgs]
                  rw [compR_map as (fun a => D.tup [.int a.1, .int a.2]) (fun a => a.2) D.int (by intro a ha; wide_open using [and_self])]
                  rw [List.map_map]
                  wide_open using [Function.comp_def, r2]
                  cases hr2 : riseD (as.map fun a => D.int a.2)
                  · wide_open using [Bool.false_and, Bool.and_false]
                  · wide_open using [hz, Bool.true_and, p_idxT, hg1, hg2]
              · simp only [c_is_rule] at e
                wide_open using [e, h1, Bool.false_and]
            · wide_open using [Bool.false_and]
          | exc cc => exact (ht.exc).elim
          | _ => wide_open using [tys, ruB]
      | exc cc => exact (hw.exc).elim
      | _ => wide_open using [tys, len_tup, isRuleB, ruB]
    · have h2 : ((xs.length : Int) == 2) = false := by rw [beq_eq_false_iff_ne]; omega
      wide_open using [tys, len_tup, h2, (nlen2 h).2.1]
  | exc c => exact (hd.exc).elim
  | _ => wide_open using [tys, isRuleB]

theorem rise_strs (xs : List D) (h : ∀ x ∈ xs, isStrB x = true) : ∀ x ∈ xs, ∀ y ∈ xs, prI .lt [x, y] = okShr (.bl (ltD x y)) := by
  intro x hx y hy
  have h1 := h x hx
  have h2 := h y hy
  cases x <;> try cases h1
  cases y <;> try cases h2
  exact p_ltS _ _
theorem p_gt' (a b : Int) : prI .gt [.int a, .int b] = okShr (.bl (decide (b < a))) := p_gt a b
theorem going_str (x : D) (h : isGoingB x = true) : ∃ s r, x = .tup (.str s :: r) := by
  cases x with
  | tup xs =>
    by_cases hl : xs.length = 6
    · obtain ⟨a, b, c, e, f, g, rfl⟩ := len6 hl
      cases a with
      | str a => exact ⟨a, _, rfl⟩
      | _ => simp [isGoingB, isWordB] at h
    · rw [(nlen6 hl []).1] at h; cases h
  | _ => cases h
theorem booking_str (ns : List D) (x : D) (h : isBookingB ns x = true) : ∃ s r, x = .tup (.str s :: r) := by
  cases x with
  | tup xs =>
    by_cases hl : xs.length = 6
    · obtain ⟨a, b, c, e, f, g, rfl⟩ := len6 hl
      cases a with
      | str a => exact ⟨a, _, rfl⟩
      | _ => simp [isBookingB, isWordB] at h
    · rw [(nlen6 hl ns).2] at h; cases h
  | _ => cases h
theorem I_house (n : Nat) (d : D) (hd : Nice d) : tabAt fs (n + 5) I.isHouse [.shr d] = .ok (.shr (.bl (isHouseB d))) [.non] := by
  rw [I.hhouse.tab (n + 4) _ [.shr d, .non, .non, .non, .non, .non, .non] rfl rfl (by decide) rfl]
  unfold c_is_house
  cases d with
  | tup xs =>
    obtain ⟨hx, hl⟩ := hd.tup
    by_cases h : xs.length = 3
    · obtain ⟨g, b, r, rfl⟩ := len3 h
      have hg := hx g (by simp)
      have hb := hx b (by simp)
      have hr := hx r (by simp)
      have wr := I_rule I (n + 2) r hr
      wide_open using [tys, len_tup, p_slcT2, List.take_succ_cons, List.take_zero]
      rw [compR_id [g, b] (fun d => match d with | .tup _ => true | _ => false) D.bl (by
        intro x hx'
        have hxn := hx x (by simp only [List.mem_cons] at hx' ⊢; grind)
        cases x with
        | exc c => exact (hxn.exc).elim
        | _ => wide_open using [tys])]
      wide_open using [p_all2]
      cases g with
      | tup gs =>
        cases b with
        | tup bs =>
          obtain ⟨hgs, hgl⟩ := hg.tup
          obtain ⟨hbs, hbl⟩ := hb.tup
          have e1 : decide ((1 : Int) ≤ (gs.length : Int)) = decide (1 ≤ gs.length) := by congr 1; simp; omega
          have e2 : decide ((gs.length : Int) ≤ 6) = decide (gs.length ≤ 6) := by congr 1; simp; omega
          have e3 : decide ((12 : Int) < (bs.length : Int)) = !decide (bs.length ≤ 12) := by
            rw [Bool.eq_iff_iff]; simp; omega
          have lg := lim_pos _ hgl
          have lb := lim_pos _ hbl
          wide_open using [Bool.and_true, len_tup, p_le, e1, e2, isHouseB, hoB]
          cases hq1 : decide (1 ≤ gs.length)
          · wide_open using [Bool.false_and]
          · wide_open using [Bool.true_and]
            cases hq2 : decide (gs.length ≤ 6)
            · wide_open using [Bool.false_and]
            · wide_open using [Bool.true_and, lg]
              rw [compR_id gs isGoingB D.bl (by
                intro x hx'
                have hw := I_going I (n + 2) x (hgs x hx')
                wide_open using [I.asgs, hw])]
              have ha : (gs.map isGoingB).all id = gs.all isGoingB := by rw [List.all_map]; rfl
              wide_open using [p_all, ha]
              cases hq3 : gs.all isGoingB
              · wide_open using [Bool.false_and]
              · rw [List.all_eq_true] at hq3
                wide_open using [Bool.true_and, lg]
                rw [compR_id gs fst? id (by
                  intro x hx'
                  obtain ⟨s, r, rfl⟩ := going_str x (hq3 x hx')
                  wide_open using [fst?, id_eq])]
                have hstr : ∀ x ∈ gs.map fst?, isStrB x = true := by
                  intro x hx'
                  obtain ⟨y, hy, rfl⟩ := List.mem_map.mp hx'
                  obtain ⟨s, r, rfl⟩ := going_str y (hq3 y hy)
                  rfl
                have hpl : ∀ x ∈ gs.map fst?, plainD 60 x = true := by
                  intro x hx'
                  have := hstr x hx'
                  cases x <;> first | rfl | cases this
                have hri := (I_rise I (n + 3) (gs.map fst?) (by rw [List.length_map]; exact lg) (rise_strs _ hstr)).2
                wide_open using [List.map_id_fun, id_eq, I.asgs, hri, outsOf]
                cases hq4 : riseD (gs.map fst?)
                · wide_open using [Bool.false_and]
                · wide_open using [p_gt', len_tup, e3, Bool.true_and]
                  cases hq5 : decide (bs.length ≤ 12)
                  · wide_open using [Bool.false_and]
                  · wide_open using [Bool.true_and, lb]
                    rw [compR_id bs (isBookingB (gs.map fst?)) D.bl (by
                      intro x hx'
                      have hw := I_booking I n (gs.map fst?) hpl x (hbs x hx')
                      wide_open using [I.asgs, hw])]
                    have ha2 : (bs.map (isBookingB (gs.map fst?))).all id = bs.all (isBookingB (gs.map fst?)) := by rw [List.all_map]; rfl
                    wide_open using [p_all, ha2]
                    cases hq6 : bs.all (isBookingB (gs.map fst?))
                    · wide_open using [Bool.false_and]
                    · rw [List.all_eq_true] at hq6
                      wide_open using [Bool.true_and, lb, I.asgs]
                      rw [compR_id bs fst? id (by
                        intro x hx'
                        obtain ⟨s, r, rfl⟩ := booking_str _ x (hq6 x hx')
                        wide_open using [fst?, id_eq])]
                      have hstr2 : ∀ x ∈ bs.map fst?, isStrB x = true := by
                        intro x hx'
                        obtain ⟨y, hy, rfl⟩ := List.mem_map.mp hx'
                        obtain ⟨s, r, rfl⟩ := booking_str _ y (hq6 y hy)
                        rfl
                      have hri2 := (I_rise I (n + 3) (bs.map fst?) (by rw [List.length_map]; exact lb) (rise_strs _ hstr2)).1
                      wide_open using [List.map_id_fun, id_eq, hri2]
                      cases hq7 : riseD (bs.map fst?)
                      · wide_open using [Bool.false_and]
                      · wide_open using [Bool.true_and, I.asgs, wr]
        | exc cc => exact (hb.exc).elim
        | _ => wide_open using [isHouseB, hoB, Bool.and_false]
      | exc cc => exact (hg.exc).elim
      | _ => wide_open using [isHouseB, hoB, Bool.false_and]
    · have h2 : ((xs.length : Int) == 3) = false := by rw [beq_eq_false_iff_ne]; omega
      wide_open using [tys, len_tup, h2, nlen3 h]
  | exc c => exact (hd.exc).elim
  | _ => wide_open using [tys, isHouseB]
theorem I_look (n : Nat) (d : D) (hd : Nice d) : tabAt fs (n + 6) I.lookHouse [.shr d] = if isHouseB d then .ok (.shr .non) [.non] else .exc "BadHouse" [.non] := by
  have h := I_house I n d hd
  rw [I.hlook.tab (n + 5) _ [.shr d] rfl rfl (by decide) rfl]
  unfold c_look_house
  wide_open using [I.asgs, h]
  cases isHouseB d <;> wide_open using [and_self]
end
end Mx.My

end
section
set_option Elab.async false
set_option linter.all false
set_option exponentiation.threshold 5000
/-! Sq6: a going that is there; the law's town, draws, lowest terms. -/
namespace Mx.My
local macro_rules
  | `(tactic| wide_open with [$ts,*]) => `(tactic| simp only [e_var, e_cst, e_pr, t_pr, t_cst, t_var, t_call, t_tv, e_tv, t_not, e_not, t_and, e_and, t_or, e_or, e_ifx, e_tup, e_lst, e_call, o_nil, l_nil, a_nil, o_cons, l_cons, a_cons, bind_ok, bind_exc, bind_bad, isVar_var, isVar_pr, isVar_cst, isVar_call, isVar_tup, isVar_lst, isVar_comp, isVar_ifx, opd_some, opd_none, kep_eq, tst_eq, arg_f, arg_t, d_shr, d_own, prE_eq, get_val, get_bor, gets_nil, gets_cons, p_ne_int, p_eq_int, p_add, p_sub, p_abs, p_idx0, p_idx1, okShr_eq, c_done, c_asg, c_par, c_exp, c_retV, c_ife, ofR_ok, ofR_exc, then_nx, then_ret, then_exc, take_nil, take_val, List.getElem?_cons_zero, List.getElem?_cons_succ, List.set_cons_zero, List.set_cons_succ, List.length_cons, List.length_nil, Option.bind_some, Option.map_some, List.map_cons, List.map_nil, Ar.sl, List.replicate, List.cons_append, List.nil_append, backA, outs_nil, outs_shr, fin_nx, fin_ret, asgT_n, asgT_t, setT_n, setT_t, setTs_n, setTs_c, callK_eq, c_retP, c_retT, c_retC, c_retX, c_retD, c_retA, c_retI, Nat.reduceAdd, Nat.reduceLT, reduceIte, and_self, Nat.reduceSub, lm0, lm1, lm2, lm3, lm4, lm5, lm6, lm7, lm8, lm9, lm10, lm11, lm12, lm13, lm14, if_true, Nat.lt_add_one, Nat.zero_lt_succ, $[$ts:term],*])
local macro_rules
  | `(tactic| wide_open using [$ts,*]) => `(tactic| simp only [e_var, e_cst, e_pr, t_pr, t_cst, t_var, t_call, t_tv, e_tv, t_not, e_not, t_and, e_and, t_or, e_or, e_ifx, e_tup, e_lst, e_call, o_nil, l_nil, a_nil, o_cons, l_cons, a_cons, bind_ok, bind_exc, bind_bad, isVar_var, isVar_pr, isVar_cst, isVar_call, isVar_tup, isVar_lst, isVar_comp, isVar_ifx, opd_some, opd_none, kep_eq, tst_eq, arg_f, arg_t, d_shr, d_own, prE_eq, get_val, get_bor, gets_nil, gets_cons, p_ne_int, p_eq_int, p_add, p_sub, p_abs, p_idx0, p_idx1, okShr_eq, c_done, c_asg, c_par, c_exp, c_retV, c_ife, ofR_ok, ofR_exc, then_nx, then_ret, then_exc, take_nil, take_val, List.getElem?_cons_zero, List.getElem?_cons_succ, List.set_cons_zero, List.set_cons_succ, List.length_cons, List.length_nil, Option.bind_some, Option.map_some, List.map_cons, List.map_nil, Ar.sl, List.replicate, List.cons_append, List.nil_append, backA, outs_nil, outs_shr, fin_nx, fin_ret, asgT_n, asgT_t, setT_n, setT_t, setTs_n, setTs_c, callK_eq, c_retP, c_retT, c_retC, c_retX, c_retD, c_retA, c_retI, Nat.reduceAdd, Nat.reduceLT, reduceIte, and_self, Nat.reduceSub, lm0, lm1, lm2, lm3, lm4, lm5, lm6, lm7, lm8, lm9, lm10, lm11, lm12, lm13, lm14, if_true, Nat.lt_add_one, Nat.zero_lt_succ, Nat.reduceEqDiff, Nat.reduceBEq, put_nil, put_cons, nis, Int.reduceBEq, Int.reduceLT, Int.reduceLE, Int.reduceAdd, Int.reduceSub, Int.reduceNeg, decide_true, decide_false, beq_self_eq_true, e_cmp, take_bor, e_chain, t_chain, t_ifx, c_for, c_whl, it_lst, it_tup, it_zipLL, it_zipTT, it_enum, List.length_map, wipe_nil, wipe_cons, forT_some, trnR_eq, map_some', map_none', isVar_nil, isVar_not, isVar_and, isVar_or, isVar_tv, isVar_chain, isVar_sl3, isVar_met, isVar_dct, isVar_dcomp, isVar_mut, isVar_srt, isVar_srtL, isVar_mnk, c_retO, c_retNt, c_retCh, c_retL, c_retN, fin_exc, c_setI, c_augI, c_rse, e_srt, e_mut, ite_true', ite_false', Bool.not_true, Bool.not_false, Bool.false_eq_true, if_false, $[$ts:term],*])
open PySem
theorem p_nin (a : D) (xs : List D) (h1 : plainD 60 a = true) (h2 : ∀ x ∈ xs, plainD 60 x = true) : prI .nin [a, .lst xs] = okShr (.bl (!xs.any fun y => eqb y a)) := by
  have : prI .nin [a, .lst xs] = if plainD 60 a && xs.all (plainD 60) then okShr (.bl (!xs.any fun y => eqb y a)) else none := by unfold prI; cases a <;> rfl
  rw [this, h1, List.all_eq_true.mpr h2]; rfl
theorem p_inn (a : D) (xs : List D) (h1 : plainD 60 a = true) (h2 : ∀ x ∈ xs, plainD 60 x = true) : prI .inn [a, .lst xs] = okShr (.bl (xs.any fun y => eqb y a)) := by
  have : prI .inn [a, .lst xs] = if plainD 60 a && xs.all (plainD 60) then okShr (.bl (xs.any fun y => eqb y a)) else none := by unfold prI; cases a <;> rfl
  rw [this, h1, List.all_eq_true.mpr h2]; rfl
theorem p_ninT (a : D) (xs : List D) (h1 : plainD 60 a = true) (h2 : ∀ x ∈ xs, plainD 60 x = true) : prI .nin [a, .tup xs] = okShr (.bl (!xs.any fun y => eqb y a)) := by
  have : prI .nin [a, .tup xs] = if plainD 60 a && xs.all (plainD 60) then okShr (.bl (!xs.any fun y => eqb y a)) else none := by unfold prI; cases a <;> rfl
  rw [this, h1, List.all_eq_true.mpr h2]; rfl
theorem p_innT (a : D) (xs : List D) (h1 : plainD 60 a = true) (h2 : ∀ x ∈ xs, plainD 60 x = true) : prI .inn [a, .tup xs] = okShr (.bl (xs.any fun y => eqb y a)) := by
  have : prI .inn [a, .tup xs] = if plainD 60 a && xs.all (plainD 60) then okShr (.bl (xs.any fun y => eqb y a)) else none := by unfold prI; cases a <;> rfl
  rw [this, h1, List.all_eq_true.mpr h2]; rfl
theorem eqb_str (x y : Str) : eqb (.str x) (.str y) = (x == y) := rfl
theorem eqb_int (x y : Int) : eqb (.int x) (.int y) = (x == y) := rfl
def hasGo (h : House) : D → Bool
  | .str s => h.gos.any fun g => g.name == s
  | _ => false
theorem hasGo_eq (h : House) (s : Str) : ((h.gos.map (·.name)).map D.str).any (fun y => eqb y (.str s)) = hasGo h (.str s) := by
  rw [List.any_map, List.any_map]; rfl
theorem lookGoing_spec {fs : List Fd} {i : Nat} (hi : isF fs i 2 4 [false, false] c_look_going) (n : Nat) (h : House) (hl : h.gos.length < LIM) (g : D) (hg : Nice g) : tabAt fs (n + 1) i [.shr (houseD h), .shr g] = if hasGo h g then .ok (.shr .non) [.non, .non] else .exc "BadName" [.non, .non] := by
  rw [hi.tab n _ [.shr (houseD h), .shr g, .non, .non] rfl rfl (by decide) rfl]
  unfold c_look_going
  cases g with
  | str s =>
    wide_open using [tys, ho_idx0, hl]
    rw [compR_map h.gos goD (·.name) D.str (by intro x hx; wide_open using [go_idx0])]
    wide_open using [p_nin (.str s) ((h.gos.map (·.name)).map D.str) rfl (by
      intro x hx; obtain ⟨y, _, rfl⟩ := List.mem_map.mp hx; rfl), hasGo_eq]
    cases hasGo h (.str s) <;> wide_open using [and_self]
  | exc c => exact (hg.exc).elim
  | _ => wide_open using [tys, hasGo]
/-! ### the law's draws -/
structure Town (ns : List Int) (k : Nat) (ts : List Int) : Prop where
  len : ts.length = ns.length + 1
  head : ∃ c : Nat, c ≤ k ∧ ts[0]? = some (c : Int)
def lstI (xs : List Int) : D := .lst (xs.map D.int)
theorem getAt_int (xs : List Int) (i : Nat) (h : i < xs.length) : getAt (xs.map D.int) (i : Int) = some (.int (xs.getD i 0)) := getAt_nat _ i _ (by simp [List.getD, h])
theorem town_spec {fs : List Fd} {i : Nat} (hi : isF fs i 1 1 [false] c__law_town) (n : Nat) (ns : List Int) (hl : ns.length ≤ 63) : Town ns 0 (0 :: ns) ∧ tabAt fs (n + 1) i [.shr (lstI ns)] = .ok (.own (lstI (0 :: ns))) [.non] := by
  refine ⟨⟨rfl, 0, Nat.le_refl _, rfl⟩, ?_⟩
  rw [hi.tab n _ [.shr (lstI ns)] rfl rfl (by decide) rfl]
  unfold c__law_town
  have h1 : prI .list [lstI ns] = some (.own (lstI ns)) := by unfold prI; rfl
  have h2 : prI .add [.lst [.int 0], lstI ns] = some (.own (lstI (0 :: ns))) := by
    unfold lstI
    rw [p_addL, if_pos (by rw [List.length_map]; exact lim_pos _ (by simp; omega))]
    rfl
  wide_open using [h1, h2]
theorem p_pow (i j : Int) (h0 : 0 ≤ j) (h1 : j < 100) (h2 : i.natAbs < 2 ^ 64) : prI .pow [.int i, .int j] = okShr (.int (i ^ j.toNat)) := by
  have : prI .pow [.int i, .int j] = if 0 ≤ j ∧ j < 100 ∧ i.natAbs < 2 ^ 64 then okShr (.int (i ^ j.toNat)) else none := by unfold prI; rfl
  rw [this, if_pos ⟨h0, h1, h2⟩]
theorem p_ge (a b : Int) : prI .ge [.int a, .int b] = okShr (.bl (decide (b ≤ a))) := by unfold prI; rfl
theorem big_val : BIG = 2 ^ 4000 := by unfold BIG; rfl
theorem lt_big {k : Nat} (h : k < 2 ^ 200) : k < BIG := by
  rw [big_val]; exact Nat.lt_of_lt_of_le h (Nat.pow_le_pow_right (by decide) (by decide))
theorem setD_int (xs : List Int) (i : Nat) (v : Int) (h : i < xs.length) : setD (.lst (xs.map D.int)) (.int i) (.int v) = some (.lst ((xs.set i v).map D.int)) := by
  rw [setD_nat _ _ _ (by simpa using h), List.map_set]
theorem setD_int0 (xs : List Int) (v : Int) (h : 0 < xs.length) : setD (.lst (xs.map D.int)) (.int 0) (.int v) = some (.lst ((xs.set 0 v).map D.int)) := setD_int xs 0 v h
theorem mod_nat (a : Int) (m : Nat) (h : 0 < m) : ∃ v : Nat, v < m ∧ a % (m : Int) = (v : Int) :=
  ⟨(a % (m : Int)).toNat, by have := Int.emod_lt_of_pos a (show (0 : Int) < m by omega); have := Int.emod_nonneg a (show (m : Int) ≠ 0 by omega); omega, by have := Int.emod_nonneg a (show (m : Int) ≠ 0 by omega); omega⟩
theorem draw_spec {fs : List Fd} {i : Nat} (hi : isF fs i 3 6 [false, false, false] c__law_draw) (n : Nat) (ns ts : List Int) (k many : Nat) (hk : k < 2 ^ 60) (hns : ns.length ≤ 63) (ht : Town ns k ts) (hm : 0 < many) (hm2 : many < 2 ^ 64) :
    ∃ (v : Nat) (ts' : List Int), v < many ∧ Town ns (k + 1) ts' ∧ tabAt fs (n + 1) i [.shr (lstI ns), .own (lstI ts), .shr (.int many)] = .ok (.shr (.int v)) [.non, .own (lstI ts'), .non] := by
  obtain ⟨hlen, c, hc, hh⟩ := ht
  have hl0 : 0 < ts.length := by omega
  have hg0 : getAt (ts.map D.int) 0 = some (.int c) := getAt_nat _ 0 _ (by rw [List.getElem?_map, hh]; rfl)
  have hs0 := setD_int0 ts ((c : Int) + 1) hl0
  have hg1 : getAt ((ts.set 0 ((c : Int) + 1)).map D.int) 0 = some (.int ((c : Int) + 1)) := getAt_nat _ 0 _ (by simp [hl0])
  have hT : Town ns (k + 1) (ts.set 0 ((c : Int) + 1)) := ⟨by simp [hlen], c + 1, by omega, by simp [hl0]⟩
  have hmI : (0 : Int) < (many : Int) := by omega
  have hmB : ((many : Nat) : Int).natAbs < BIG := lt_big (by rw [Int.natAbs_natCast]; exact Nat.lt_of_lt_of_le hm2 (by decide))
  have hcB : ((c : Int) + 1).natAbs < BIG := lt_big (Nat.lt_of_le_of_lt (show ((c : Int) + 1).natAbs ≤ 2 ^ 61 by omega) (by decide))
  have hcc : (((c : Int) + 1) * ((c : Int) + 1)).natAbs < BIG := by
    refine lt_big ?_
    rw [Int.natAbs_mul]
    exact Nat.lt_of_le_of_lt (Nat.mul_le_mul (show ((c : Int) + 1).natAbs ≤ 2 ^ 61 by omega) (show ((c : Int) + 1).natAbs ≤ 2 ^ 61 by omega)) (by decide)
  have b7 : ((7 : Int)).natAbs < BIG := lt_big (by decide)
  have b3 : ((3 : Int)).natAbs < BIG := lt_big (by decide)
  have hemp : prI .eq [lstI ns, .lst []] = okShr (.bl ns.isEmpty) := by
    have hpl : plainD 60 (lstI ns) = true := by
      unfold lstI; simp [plainD]
    rw [p_eqD _ _ hpl (by decide)]
    cases ns <;> rfl
  have ho : ownAt [.shr (lstI ns), .own (.lst (ts.map D.int)), .shr (.int many), .non, .non, .non] 1 = true := rfl
  rw [hi.tab n _ [.shr (lstI ns), .own (lstI ts), .shr (.int many), .non, .non, .non] rfl rfl (by decide) rfl]
  unfold c__law_draw
  cases hne : ns.isEmpty with
  | true =>
    obtain ⟨v, hv, ev⟩ := mod_nat ((((c : Int) + 1) * ((c : Int) + 1)) * 7 / 3) many hm
    refine ⟨v, _, hv, hT, ?_⟩
    unfold lstI at *
    wide_open using [ho, p_idxL, hg0, hs0, hg1, hemp, hne, p_mul _ _ hcB hcB, p_mul _ _ hcc b7, p_fdiv _ _ (by decide : (0 : Int) < 3) b3, p_mod _ _ hmI, ev, outsOf]
  | false =>
    have hnl : 0 < ns.length := by cases ns with
      | nil => cases hne
      | cons => simp
    obtain ⟨at', hat, eat⟩ := mod_nat ((c : Int) + 1) ns.length hnl
    have hlenI : (((ns.map D.int).length : Nat) : Int) = (ns.length : Int) := by rw [List.length_map]
    have hnI : (0 : Int) < (ns.length : Int) := by omega
    have hcast : (1 : Int) + (at' : Int) = ((at' + 1 : Nat) : Int) := by omega
    have hga := getAt_int ns at' hat
    have hgb := getAt_int (ts.set 0 ((c : Int) + 1)) (at' + 1) (by rw [List.length_set]; omega)
    generalize hx : ns.getD at' 0 = x at *
    generalize hy : (ts.set 0 ((c : Int) + 1)).getD (at' + 1) 0 = y at *
    have hpow := p_pow 10 18 (by decide) (by decide) (by decide)
    have hT2 : Town ns (k + 1) ((ts.set 0 ((c : Int) + 1)).set (at' + 1) (y / (many : Int))) := ⟨by simp [hlen], c + 1, by omega, by simp [hl0]⟩
    have hs2 := setD_int (ts.set 0 ((c : Int) + 1)) (at' + 1) (y / (many : Int)) (by rw [List.length_set]; omega)
    have hgt := p_gt y 0
    by_cases hb : (10 : Int) ^ ((18 : Int)).toNat ≤ x ∧ 0 < y
    · obtain ⟨v, hv, ev⟩ := mod_nat y many hm
      refine ⟨v, _, hv, hT2, ?_⟩
      unfold lstI at *
      wide_open using [ho, p_idxL, hg0, hs0, hg1, hemp, hne, p_lenL, hlenI, p_mod _ _ hnI, eat, hcast, hgb, hga, hpow, p_ge, decide_eq_true hb.1, hgt, decide_eq_true hb.2, p_fdiv _ _ hmI hmB, ownAt, hs2, p_mod _ _ hmI, ev, outsOf]
    · have hbl : (decide ((10 : Int) ^ ((18 : Int)).toNat ≤ x) && decide (0 < y)) = false := by
        rw [Bool.and_eq_false_iff, decide_eq_false_iff_not, decide_eq_false_iff_not]; omega
      have i1 : (0 : Int) < 4294967291 := by decide
      have i2 : (0 : Int) < 4294967279 := by decide
      have i3 : (0 : Int) < 4294967231 := by decide
      obtain ⟨z, hz, ez⟩ := mod_nat (x + 104729 * ((c : Int) + 1)) 4294967291 (by decide)
      obtain ⟨u, hu, eu⟩ := mod_nat ((z : Int) ^ ((5 : Int)).toNat) 4294967279 (by decide)
      obtain ⟨v, hv, ev⟩ := mod_nat (((u : Int) / 64 * 69621 + (u : Int)) % 4294967231 / 8) many hm
      have hz2 := p_pow (z : Int) 5 (by decide) (by decide) (by rw [Int.natAbs_natCast]; omega)
      have c1 : ((104729 : Int)).natAbs < BIG := lt_big (by decide)
      have c2 : ((u : Int) / 64).natAbs < BIG := lt_big (Nat.lt_of_le_of_lt (show ((u : Int) / 64).natAbs ≤ 4294967279 by omega) (by decide))
      have c3 : ((69621 : Int)).natAbs < BIG := lt_big (by decide)
      have c4 : ((64 : Int)).natAbs < BIG := lt_big (by decide)
      have c5 : ((8 : Int)).natAbs < BIG := lt_big (by decide)
      refine ⟨v, _, hv, hT, ?_⟩
      unfold lstI at *
      have ez' : (x + 104729 * ((c : Int) + 1)) % 4294967291 = z := ez
      have eu' : (z : Int) ^ ((5 : Int)).toNat % 4294967279 = u := eu
      rw [Bool.and_eq_false_iff] at hbl
      rcases hbl with h | h
      · wide_open using [ho, p_idxL, hg0, hs0, hg1, hemp, hne, p_lenL, hlenI, p_mod _ _ hnI, eat, hcast, hgb, hga, hpow, p_ge, h, p_mul _ _ c1 hcB, p_mod _ _ i1, ez', hz2, p_mod _ _ i2, eu', p_fdiv _ _ (by decide : (0 : Int) < 64) c4, p_mul _ _ c2 c3, p_mod _ _ i3, p_fdiv _ _ (by decide : (0 : Int) < 8) c5, p_mod _ _ hmI, ev, outsOf]
      · by_cases h' : (10 : Int) ^ ((18 : Int)).toNat ≤ x
        · wide_open using [ho, p_idxL, hg0, hs0, hg1, hemp, hne, p_lenL, hlenI, p_mod _ _ hnI, eat, hcast, hgb, hga, hpow, p_ge, decide_eq_true h', hgt, h, p_mul _ _ c1 hcB, p_mod _ _ i1, ez', hz2, p_mod _ _ i2, eu', p_fdiv _ _ (by decide : (0 : Int) < 64) c4, p_mul _ _ c2 c3, p_mod _ _ i3, p_fdiv _ _ (by decide : (0 : Int) < 8) c5, p_mod _ _ hmI, ev, outsOf]
        · wide_open using [ho, p_idxL, hg0, hs0, hg1, hemp, hne, p_lenL, hlenI, p_mod _ _ hnI, eat, hcast, hgb, hga, hpow, p_ge, decide_eq_false h', p_mul _ _ c1 hcB, p_mod _ _ i1, ez', hz2, p_mod _ _ i2, eu', p_fdiv _ _ (by decide : (0 : Int) < 64) c4, p_mul _ _ c2 c3, p_mod _ _ i3, p_fdiv _ _ (by decide : (0 : Int) < 8) c5, p_mod _ _ hmI, ev, outsOf]
theorem draw_i {fs : List Fd} {i : Nat} (hi : isF fs i 3 6 [false, false, false] c__law_draw) (n : Nat) (ns ts : List Int) (k : Nat) (many : Int) (hk : k < 2 ^ 60) (hns : ns.length ≤ 63) (ht : Town ns k ts) (hm : 0 < many) (hm2 : many < 2 ^ 64) :
    ∃ (v : Nat) (ts' : List Int), (v : Int) < many ∧ Town ns (k + 1) ts' ∧ tabAt fs (n + 1) i [.shr (lstI ns), .own (lstI ts), .shr (.int many)] = .ok (.shr (.int v)) [.non, .own (lstI ts'), .non] := by
  obtain ⟨m, rfl⟩ : ∃ m : Nat, many = (m : Int) := ⟨many.toNat, by omega⟩
  obtain ⟨v, ts', h1, h2, h3⟩ := draw_spec hi n ns ts k m hk hns ht (by omega) (by omega)
  exact ⟨v, ts', by omega, h2, h3⟩
end Mx.My

end
section
set_option Elab.async false
set_option linter.all false
set_option exponentiation.threshold 5000
/-! Sq7: many alike bookings: what they are worth, plainly. -/
namespace Mx.My
local macro_rules
  | `(tactic| wide_open with [$ts,*]) => `(tactic| simp only [e_var, e_cst, e_pr, t_pr, t_cst, t_var, t_call, t_tv, e_tv, t_not, e_not, t_and, e_and, t_or, e_or, e_ifx, e_tup, e_lst, e_call, o_nil, l_nil, a_nil, o_cons, l_cons, a_cons, bind_ok, bind_exc, bind_bad, isVar_var, isVar_pr, isVar_cst, isVar_call, isVar_tup, isVar_lst, isVar_comp, isVar_ifx, opd_some, opd_none, kep_eq, tst_eq, arg_f, arg_t, d_shr, d_own, prE_eq, get_val, get_bor, gets_nil, gets_cons, p_ne_int, p_eq_int, p_add, p_sub, p_abs, p_idx0, p_idx1, okShr_eq, c_done, c_asg, c_par, c_exp, c_retV, c_ife, ofR_ok, ofR_exc, then_nx, then_ret, then_exc, take_nil, take_val, List.getElem?_cons_zero, List.getElem?_cons_succ, List.set_cons_zero, List.set_cons_succ, List.length_cons, List.length_nil, Option.bind_some, Option.map_some, List.map_cons, List.map_nil, Ar.sl, List.replicate, List.cons_append, List.nil_append, backA, outs_nil, outs_shr, fin_nx, fin_ret, asgT_n, asgT_t, setT_n, setT_t, setTs_n, setTs_c, callK_eq, c_retP, c_retT, c_retC, c_retX, c_retD, c_retA, c_retI, Nat.reduceAdd, Nat.reduceLT, reduceIte, and_self, Nat.reduceSub, lm0, lm1, lm2, lm3, lm4, lm5, lm6, lm7, lm8, lm9, lm10, lm11, lm12, lm13, lm14, if_true, Nat.lt_add_one, Nat.zero_lt_succ, $[$ts:term],*])
local macro_rules
  | `(tactic| wide_open using [$ts,*]) => `(tactic| simp only [e_var, e_cst, e_pr, t_pr, t_cst, t_var, t_call, t_tv, e_tv, t_not, e_not, t_and, e_and, t_or, e_or, e_ifx, e_tup, e_lst, e_call, o_nil, l_nil, a_nil, o_cons, l_cons, a_cons, bind_ok, bind_exc, bind_bad, isVar_var, isVar_pr, isVar_cst, isVar_call, isVar_tup, isVar_lst, isVar_comp, isVar_ifx, opd_some, opd_none, kep_eq, tst_eq, arg_f, arg_t, d_shr, d_own, prE_eq, get_val, get_bor, gets_nil, gets_cons, p_ne_int, p_eq_int, p_add, p_sub, p_abs, p_idx0, p_idx1, okShr_eq, c_done, c_asg, c_par, c_exp, c_retV, c_ife, ofR_ok, ofR_exc, then_nx, then_ret, then_exc, take_nil, take_val, List.getElem?_cons_zero, List.getElem?_cons_succ, List.set_cons_zero, List.set_cons_succ, List.length_cons, List.length_nil, Option.bind_some, Option.map_some, List.map_cons, List.map_nil, Ar.sl, List.replicate, List.cons_append, List.nil_append, backA, outs_nil, outs_shr, fin_nx, fin_ret, asgT_n, asgT_t, setT_n, setT_t, setTs_n, setTs_c, callK_eq, c_retP, c_retT, c_retC, c_retX, c_retD, c_retA, c_retI, Nat.reduceAdd, Nat.reduceLT, reduceIte, and_self, Nat.reduceSub, lm0, lm1, lm2, lm3, lm4, lm5, lm6, lm7, lm8, lm9, lm10, lm11, lm12, lm13, lm14, if_true, Nat.lt_add_one, Nat.zero_lt_succ, Nat.reduceEqDiff, Nat.reduceBEq, put_nil, put_cons, nis, Int.reduceBEq, Int.reduceLT, Int.reduceLE, Int.reduceAdd, Int.reduceSub, Int.reduceNeg, decide_true, decide_false, beq_self_eq_true, e_cmp, take_bor, e_chain, t_chain, t_ifx, c_for, c_whl, it_lst, it_tup, it_zipLL, it_zipTT, it_enum, List.length_map, wipe_nil, wipe_cons, forT_some, trnR_eq, map_some', map_none', isVar_nil, isVar_not, isVar_and, isVar_or, isVar_tv, isVar_chain, isVar_sl3, isVar_met, isVar_dct, isVar_dcomp, isVar_mut, isVar_srt, isVar_srtL, isVar_mnk, c_retO, c_retNt, c_retCh, c_retL, c_retN, fin_exc, c_setI, c_augI, c_rse, e_srt, e_mut, ite_true', ite_false', Bool.not_true, Bool.not_false, Bool.false_eq_true, if_false, $[$ts:term],*])
open PySem
/-- all alike but the names -/
def Alike (f : Int) (p : Rat) (a : Option Int) (bs : List Bk) : Prop := ∀ b ∈ bs, b.fare = f ∧ b.ch = p ∧ b.ask = a
def partP (p : Rat) (s k : Nat) : Rat := p * rsum ((cntR (List.replicate k p)).drop s)
def sumP (p : Rat) (s : Nat) : Nat → Rat
  | 0 => 0
  | m + 1 => partP p s m + sumP p s m
theorem alike_map {f p a bs} (h : Alike f p a bs) : bs.map (·.ch) = List.replicate bs.length p := by
  induction bs with
  | nil => rfl
  | cons b bs ih =>
    rw [List.map_cons, (h b (by simp)).2.1, ih (fun x hx => h x (List.mem_cons_of_mem _ hx))]
    rfl
theorem Alike.tail {f p a b bs} (h : Alike f p a (b :: bs)) : Alike f p a bs := fun x hx => h x (List.mem_cons_of_mem _ hx)
theorem rsum_from (x : Rat) (xs : List Rat) : xs.foldl (· + ·) x = x + rsum xs := by
  induction xs generalizing x with
  | nil => unfold rsum; simp [Rat.add_zero]
  | cons y ys ih => unfold rsum; rw [List.foldl_cons, List.foldl_cons, ih, ih (0 + y), Rat.zero_add, Rat.add_assoc]
theorem rsum_nil : rsum [] = 0 := rfl
theorem rsum_cons (x : Rat) (xs : List Rat) : rsum (x :: xs) = x + rsum xs := by
  show List.foldl _ (0 + x) xs = _
  rw [rsum_from, Rat.zero_add]
theorem ssum_from (x : Rat) (xs : List (Int × Rat)) : xs.foldl ssumF x = x + ssum xs := by
  induction xs generalizing x with
  | nil => unfold ssum; simp [Rat.add_zero]
  | cons y ys ih => unfold ssum; rw [List.foldl_cons, List.foldl_cons, ih, ih (ssumF 0 y)]; unfold ssumF; rw [Rat.zero_add, Rat.add_assoc]
theorem ssum_cons (x : Int × Rat) (xs : List (Int × Rat)) : ssum (x :: xs) = x.1 * x.2 + ssum xs := by
  show List.foldl _ (ssumF 0 x) xs = _
  rw [ssum_from]; unfold ssumF; rw [Rat.zero_add]
theorem fares_alike {f p a bs} (h : Alike f p a bs) : ssum (bs.map fareW) = (bs.length : Int) * (f * p) := by
  induction bs with
  | nil => simp [ssum]
  | cons b bs ih =>
    rw [List.map_cons, ssum_cons, ih h.tail, List.length_cons]
    obtain ⟨h1, h2, h3⟩ := h b (by simp)
    unfold fareW
    rw [h1, h2]
    dsimp only
    rw [show ((bs.length + 1 : Nat) : Int) = (bs.length : Int) + 1 by omega, Rat.intCast_add]
    rw [Rat.add_mul, Rat.add_comm]
    congr 1
    simp [Rat.one_mul]
theorem own_alike {f p x bs} (s : Nat) (h : Alike f p (some x) bs) : meanOwnR s bs = sumP p s bs.length * x := by
  unfold meanOwnR
  induction bs with
  | nil => simp [staysR, sumP, rsum, Rat.zero_mul]
  | cons b bs ih =>
    obtain ⟨h1, h2, h3⟩ := h b (by simp)
    rw [staysR, List.filterMap_cons]
    have : ownR (b, partR b bs s) = some (partP p s bs.length * x) := by
      unfold ownR partR partP
      rw [h3, h2, alike_map h.tail]
      rfl
    rw [this]
    dsimp only
    rw [rsum_cons, ih h.tail, List.length_cons, sumP, Rat.add_mul]
theorem forced_some {f p x bs} (s : Nat) (pay : Int) (h : Alike f p (some x) bs) : ssum ((staysR s bs).filterMap (forced pay)) = 0 := by
  induction bs with
  | nil => rfl
  | cons b bs ih =>
    rw [staysR, List.filterMap_cons]
    have : forced pay (b, partR b bs s) = none := by
      unfold forced; rw [(h b (by simp)).2.2]; rfl
    rw [this]
    exact ih h.tail
theorem forced_none {f p bs} (s : Nat) (pay : Int) (h : Alike f p none bs) : ssum ((staysR s bs).filterMap (forced pay)) = pay * sumP p s bs.length := by
  induction bs with
  | nil => simp [staysR, sumP, ssum, Rat.mul_zero]
  | cons b bs ih =>
    rw [staysR, List.filterMap_cons]
    have : forced pay (b, partR b bs s) = some (pay, partP p s bs.length) := by
      unfold forced partR partP
      rw [(h b (by simp)).2.2, (h b (by simp)).2.1, alike_map h.tail]
      rfl
    rw [this]
    dsimp only
    rw [ssum_cons, ih h.tail, List.length_cons, sumP, Rat.mul_add]
theorem own_none {f p bs} (s : Nat) (h : Alike f p none bs) : meanOwnR s bs = 0 := by
  unfold meanOwnR
  induction bs with
  | nil => rfl
  | cons b bs ih =>
    rw [staysR, List.filterMap_cons]
    have : ownR (b, partR b bs s) = none := by
      unfold ownR; rw [(h b (by simp)).2.2]; rfl
    rw [this]
    exact ih h.tail
/-! ### by the last ask -/
def isLastP (p : Rat) (s m i : Nat) : Rat :=
  (if s < (cntR (List.replicate (m - (i + 1)) p)).length then (cntR (List.replicate (m - (i + 1)) p)).getD s 0 else 0) + (cntR (List.replicate (m - (i + 1)) p)).getD 0 0 * rsum ((cntR []).drop (s + 1))
def meanP (p : Rat) (i : Nat) : Rat := rsum ((cntR (List.replicate i p)).zipIdx.map fun q => q.1 * ((q.2 + 1 : Nat) : Int))
def lastP (p : Rat) (s m : Nat) : Rat := rsum ((List.range m).map fun i => p * isLastP p s m i * meanP p i)
theorem willers_alike {f p x bs} (h : Alike f p (some x) bs) : willers bs = bs ∧ unwill bs = [] := by
  constructor
  · unfold willers; rw [List.filter_eq_self]; intro b hb; rw [(h b hb).2.2]; rfl
  · unfold unwill; rw [List.map_eq_nil_iff, List.filter_eq_nil_iff]; intro b hb; rw [(h b hb).2.2]; simp
theorem last_alike {f p x bs} (s : Nat) (h : Alike f p (some x) bs) : meanLastR s bs = lastP p s bs.length * x := by
  unfold meanLastR
  rw [(willers_alike h).1, (willers_alike h).2]
  have key : ∀ (L : List (Bk × Nat)) (acc : Rat), (∀ q ∈ L, q.1 ∈ bs ∧ q.2 < bs.length) → L.foldl (lastT s [] bs) acc = acc + rsum ((L.map (·.2)).map fun i => p * isLastP p s bs.length i * meanP p i) * x := by
    intro L
    induction L with
    | nil => intro acc _; simp [rsum, Rat.zero_mul, Rat.add_zero]
    | cons q L ih =>
      intro acc hq
      obtain ⟨q1, q2⟩ := hq q (by simp)
      rw [List.foldl_cons, ih _ (fun y hy => hq y (List.mem_cons_of_mem _ hy)), List.map_cons, List.map_cons, rsum_cons, Rat.add_mul, ← Rat.add_assoc]
      congr 1
      unfold lastT
      obtain ⟨h1, h2, h3⟩ := h q.1 q1
      have e1 : isLastR s [] bs q.2 = isLastP p s bs.length q.2 := by
        have hd : (bs.drop (q.2 + 1)).map (·.ch) = List.replicate (bs.length - (q.2 + 1)) p := by
          rw [alike_map (fun b hb => h b (List.mem_of_mem_drop hb)), List.length_drop]
        unfold isLastR isLastP
        rw [List.append_nil, hd]
      have e2 : meanR bs q.2 = meanP p q.2 := by
        have hd : (bs.take q.2).map (·.ch) = List.replicate q.2 p := by
          rw [alike_map (fun b hb => h b (List.mem_of_mem_take hb)), List.length_take, Nat.min_eq_left (by omega)]
        unfold meanR meanP
        rw [hd]
      have e3 : askR q.1 = (x : Rat) := by unfold askR; rw [h3]; rfl
      rw [h2, e1, e2, e3]
  rw [key _ _ (by intro q hq; have := zipIdx_snd hq; exact ⟨this.2, this.1⟩), Rat.zero_add]
  unfold lastP
  congr 3
  rw [List.zipIdx_eq_zip_range']
  rw [List.map_snd_zip (by simp), List.range_eq_range']
/-! ### sure ones, and halves -/
theorem sure_part : ∀ s, s < 10 → ∀ m, m < 13 → sumP 1 s m = ((m - s : Nat) : Int) := by decide +kernel
theorem sure_last : ∀ s, s < 10 → ∀ m, m < 13 → lastP 1 s m = ((m - s : Nat) : Int) := by decide +kernel
theorem half_part : sumP (1/2) 1 0 = 0 ∧ sumP (1/2) 1 1 = 0 ∧ sumP (1/2) 1 2 = 1/4 ∧ sumP (1/2) 1 3 = 5/8 := by decide +kernel
theorem more_alike (g : Str) (kd : Kd) (m : Nat) : Alike kd.fare kd.ch kd.ask (inOrd (more g kd m)) := by
  intro b hb
  rw [inOrd_mem] at hb
  obtain ⟨k, _, rfl⟩ := List.mem_map.mp hb
  exact ⟨rfl, rfl, rfl⟩
theorem more_len (g : Str) (kd : Kd) (m : Nat) : (inOrd (more g kd m)).length = m := by
  rw [inOrd_len]; simp [more]
end Mx.My

end
section
set_option Elab.async false
set_option linter.all false
set_option exponentiation.threshold 5000
/-! Sq8: the plain law of k32. -/
namespace Mx.My
local macro_rules
  | `(tactic| wide_open with [$ts,*]) => `(tactic| simp only [e_var, e_cst, e_pr, t_pr, t_cst, t_var, t_call, t_tv, e_tv, t_not, e_not, t_and, e_and, t_or, e_or, e_ifx, e_tup, e_lst, e_call, o_nil, l_nil, a_nil, o_cons, l_cons, a_cons, bind_ok, bind_exc, bind_bad, isVar_var, isVar_pr, isVar_cst, isVar_call, isVar_tup, isVar_lst, isVar_comp, isVar_ifx, opd_some, opd_none, kep_eq, tst_eq, arg_f, arg_t, d_shr, d_own, prE_eq, get_val, get_bor, gets_nil, gets_cons, p_ne_int, p_eq_int, p_add, p_sub, p_abs, p_idx0, p_idx1, okShr_eq, c_done, c_asg, c_par, c_exp, c_retV, c_ife, ofR_ok, ofR_exc, then_nx, then_ret, then_exc, take_nil, take_val, List.getElem?_cons_zero, List.getElem?_cons_succ, List.set_cons_zero, List.set_cons_succ, List.length_cons, List.length_nil, Option.bind_some, Option.map_some, List.map_cons, List.map_nil, Ar.sl, List.replicate, List.cons_append, List.nil_append, backA, outs_nil, outs_shr, fin_nx, fin_ret, asgT_n, asgT_t, setT_n, setT_t, setTs_n, setTs_c, callK_eq, c_retP, c_retT, c_retC, c_retX, c_retD, c_retA, c_retI, Nat.reduceAdd, Nat.reduceLT, reduceIte, and_self, Nat.reduceSub, lm0, lm1, lm2, lm3, lm4, lm5, lm6, lm7, lm8, lm9, lm10, lm11, lm12, lm13, lm14, if_true, Nat.lt_add_one, Nat.zero_lt_succ, $[$ts:term],*])
local macro_rules
  | `(tactic| wide_open using [$ts,*]) => `(tactic| simp only [e_var, e_cst, e_pr, t_pr, t_cst, t_var, t_call, t_tv, e_tv, t_not, e_not, t_and, e_and, t_or, e_or, e_ifx, e_tup, e_lst, e_call, o_nil, l_nil, a_nil, o_cons, l_cons, a_cons, bind_ok, bind_exc, bind_bad, isVar_var, isVar_pr, isVar_cst, isVar_call, isVar_tup, isVar_lst, isVar_comp, isVar_ifx, opd_some, opd_none, kep_eq, tst_eq, arg_f, arg_t, d_shr, d_own, prE_eq, get_val, get_bor, gets_nil, gets_cons, p_ne_int, p_eq_int, p_add, p_sub, p_abs, p_idx0, p_idx1, okShr_eq, c_done, c_asg, c_par, c_exp, c_retV, c_ife, ofR_ok, ofR_exc, then_nx, then_ret, then_exc, take_nil, take_val, List.getElem?_cons_zero, List.getElem?_cons_succ, List.set_cons_zero, List.set_cons_succ, List.length_cons, List.length_nil, Option.bind_some, Option.map_some, List.map_cons, List.map_nil, Ar.sl, List.replicate, List.cons_append, List.nil_append, backA, outs_nil, outs_shr, fin_nx, fin_ret, asgT_n, asgT_t, setT_n, setT_t, setTs_n, setTs_c, callK_eq, c_retP, c_retT, c_retC, c_retX, c_retD, c_retA, c_retI, Nat.reduceAdd, Nat.reduceLT, reduceIte, and_self, Nat.reduceSub, lm0, lm1, lm2, lm3, lm4, lm5, lm6, lm7, lm8, lm9, lm10, lm11, lm12, lm13, lm14, if_true, Nat.lt_add_one, Nat.zero_lt_succ, Nat.reduceEqDiff, Nat.reduceBEq, put_nil, put_cons, nis, Int.reduceBEq, Int.reduceLT, Int.reduceLE, Int.reduceAdd, Int.reduceSub, Int.reduceNeg, decide_true, decide_false, beq_self_eq_true, e_cmp, take_bor, e_chain, t_chain, t_ifx, c_for, c_whl, it_lst, it_tup, it_zipLL, it_zipTT, it_enum, List.length_map, wipe_nil, wipe_cons, forT_some, trnR_eq, map_some', map_none', isVar_nil, isVar_not, isVar_and, isVar_or, isVar_tv, isVar_chain, isVar_sl3, isVar_met, isVar_dct, isVar_dcomp, isVar_mut, isVar_srt, isVar_srtL, isVar_mnk, c_retO, c_retNt, c_retCh, c_retL, c_retN, fin_exc, c_setI, c_augI, c_rse, e_srt, e_mut, ite_true', ite_false', Bool.not_true, Bool.not_false, Bool.false_eq_true, if_false, $[$ts:term],*])
open PySem
theorem half_worth (pay fare ask : Int) (g : Str) : let kd : Kd := ⟨fare, 1/2, 0, some ask⟩
    worthG true pay 1 (inOrd (more g kd 0)) = 0 ∧ worthG true pay 1 (inOrd (more g kd 1)) = mkRat fare 2 ∧ worthG true pay 1 (inOrd (more g kd 2)) = mkRat (4 * fare - ask) 4 ∧ worthG true pay 1 (inOrd (more g kd 3)) = mkRat (12 * fare - 5 * ask) 8 := by
  intro kd
  have key : ∀ m, worthG true pay 1 (inOrd (more g kd m)) = (m : Int) * (fare * (1/2 : Rat)) - sumP (1/2) 1 m * ask - 0 := by
    intro m
    have h : Alike fare (1/2) (some ask) (inOrd (more g kd m)) := more_alike g kd m
    unfold worthG willR
    rw [fares_alike h, forced_some 1 pay h, more_len]
    simp only [if_true]
    rw [own_alike 1 h, more_len]
  obtain ⟨p0, p1, p2, p3⟩ := half_part
  refine ⟨?_, ?_, ?_, ?_⟩
  · rw [key, p0]; grind
  · rw [key, p1, Rat.mkRat_eq_div]; grind
  · rw [key, p2, Rat.mkRat_eq_div]; grind
  · rw [key, p3, Rat.mkRat_eq_div]; grind
theorem sure_worth (own : Bool) (pay fare ask : Int) (g : Str) (s m : Nat) (hs : s < 10) (hm : m < 13) : worthG own pay s (inOrd (more g ⟨fare, 1, 0, some ask⟩ m)) = (((m : Int) * fare - ((m - s : Nat) : Int) * ask : Int) : Rat) := by
  have h : Alike fare 1 (some ask) (inOrd (more g ⟨fare, 1, 0, some ask⟩ m)) := more_alike g _ m
  unfold worthG willR
  rw [fares_alike h, forced_some s pay h, more_len]
  have e : (if own = true then meanOwnR s (inOrd (more g ⟨fare, 1, 0, some ask⟩ m)) else meanLastR s (inOrd (more g ⟨fare, 1, 0, some ask⟩ m))) = ((m - s : Nat) : Int) * (ask : Rat) := by
    split
    · rw [own_alike s h, more_len, sure_part s hs m hm]
    · rw [last_alike s h, more_len, sure_last s hs m hm]
  rw [e]
  grind
theorem forced_worth (own : Bool) (pay fare : Int) (g : Str) (s m : Nat) (hs : s < 10) (hm : m < 13) : worthG true pay s (inOrd (more g ⟨fare, 1, 0, none⟩ m)) = (((m : Int) * fare - ((m - s : Nat) : Int) * pay : Int) : Rat) := by
  have h : Alike fare 1 none (inOrd (more g ⟨fare, 1, 0, none⟩ m)) := more_alike g _ m
  unfold worthG willR
  simp only [if_true]
  rw [fares_alike h, forced_none s pay h, own_none s h, more_len, sure_part s hs m hm]
  grind
/-- the worths of so many sure ones -/
def sureV (fare ask : Int) (s m : Nat) : Int := (m : Int) * fare - ((m - s : Nat) : Int) * ask
theorem num_sub (a b : Int) : ((a : Rat) - (b : Rat)).num = a - b := by
  rw [← Rat.intCast_sub]; rfl
theorem bestF_int (v : Nat → Int) (rows : List Rat) (hr : rows = (List.range 13).map fun m => ((v m : Int) : Rat)) (t : Nat) (ht : t < 13) (hup : ∀ k, 0 < k → k ≤ t → v (k - 1) < v k) (hdn : ∀ k, t ≤ k → k < 13 → v k ≤ v t) (h0 : ∀ i j, i ≤ j → j ≤ t → v i ≤ v j) :
    ∀ (r : List Rat) (k b : Nat), rows.drop k = r → (k = 0 ∧ b = 0 ∨ 0 < k ∧ k ≤ t ∧ b = k - 1 ∨ t < k ∧ b = t) → bestF rows k b r = t ∨ (k = 13 ∧ b = t) ∨ r = [] ∧ b = t ∨ bestF rows k b r = t := by
  intro r
  induction r with
  | nil =>
    intro k b hk hb
    have : 13 ≤ k := by
      have := congrArg List.length hk
      rw [List.length_drop, hr] at this
      simp at this
      omega
    exact .inr (.inr (.inl ⟨rfl, by omega⟩))
  | cons q r ih =>
    intro k b hk hb
    have hkl : k < 13 := by
      rcases Nat.lt_or_ge k 13 with h | h
      · exact h
      · rw [List.drop_of_length_le (by rw [hr]; simpa using h)] at hk; cases hk
    have hq : q = ((v k : Int) : Rat) := by
      have := congrArg (·[0]?) hk
      simp only [List.getElem?_drop, hr] at this
      simp [hkl] at this
      exact this.symm
    have hrb : ∀ j, j < 13 → rows.getD j 0 = ((v j : Int) : Rat) := by
      intro j hj; rw [hr]; simp [List.getD, hj]
    have hk1 : rows.drop (k + 1) = r := by rw [← List.drop_drop, hk]; rfl
    have hb13 : b < 13 := by omega
    left
    rw [bestF, hq, hrb b hb13, num_sub]
    have fin : ∀ b', (0 < k + 1 ∧ k + 1 ≤ t ∧ b' = k + 1 - 1 ∨ t < k + 1 ∧ b' = t) → bestF rows (k + 1) b' r = t := by
      intro b' hb'
      rcases ih (k + 1) b' hk1 (.inr hb') with h | h | h | h
      · exact h
      · have : r = [] := by rw [← hk1, h.1]; exact List.drop_of_length_le (by rw [hr]; simp)
        rw [this, bestF]; exact h.2
      · rw [h.1, bestF]; exact h.2
      · exact h
    by_cases hkt : k ≤ t
    · have hnew : (if 0 < v k - v b then k else b) = k := by
        rcases hb with ⟨rfl, rfl⟩ | ⟨h1, h2, rfl⟩ | ⟨h1, rfl⟩
        · split <;> rfl
        · rw [if_pos]; have := hup k h1 h2; omega
        · omega
      rw [hnew]
      apply fin
      by_cases h : k + 1 ≤ t
      · exact .inl ⟨by omega, h, by omega⟩
      · exact .inr ⟨by omega, by omega⟩
    · have hbt : b = t := by omega
      rw [if_neg (by rw [hbt]; have := hdn k (by omega) hkl; omega)]
      exact fin b (.inr ⟨by omega, hbt⟩)
theorem best_sure (fare ask : Int) (hf : 0 < fare) (s : Nat) (hs0 : 0 < s) (hs : s < 10) : bestR ((List.range 13).map fun m => ((sureV fare ask s m : Int) : Rat)) = if ask < fare then 12 else s := by
  have hmul : ∀ i j : Nat, i ≤ j → (i : Int) * (fare - ask) ≤ (j : Int) * (fare - ask) ∨ fare - ask < 0 := by
    intro i j hij
    by_cases h : fare - ask < 0
    · exact .inr h
    · exact .inl (Int.mul_le_mul_of_nonneg_right (by omega) (by omega))
  have key : ∀ t, t < 13 → (∀ k, 0 < k → k ≤ t → sureV fare ask s (k - 1) < sureV fare ask s k) → (∀ k, t ≤ k → k < 13 → sureV fare ask s k ≤ sureV fare ask s t) → bestR ((List.range 13).map fun m => ((sureV fare ask s m : Int) : Rat)) = t := by
    intro t ht hup hdn
    have h0 : ∀ i j, i ≤ j → j ≤ t → sureV fare ask s i ≤ sureV fare ask s j := by
      intro i j hij hj
      induction j with
      | zero => rw [Nat.le_zero.mp hij]; exact Int.le_refl _
      | succ j ih =>
        rcases Nat.lt_or_eq_of_le hij with h | h
        · have := ih (by omega) (by omega); have := hup (j + 1) (by omega) hj; simp at this; omega
        · rw [h]; exact Int.le_refl _
    rcases bestF_int (sureV fare ask s) _ rfl t ht hup hdn h0 _ 0 0 rfl (.inl ⟨rfl, rfl⟩) with h | h | h | h
    · exact h
    · cases h.1
    · exact absurd (congrArg List.length h.1) (by simp)
    · exact h
  have step : ∀ k, 0 < k → sureV fare ask s k = sureV fare ask s (k - 1) + (if k ≤ s then fare else fare - ask) := by
    intro k hk
    obtain ⟨k, rfl⟩ : ∃ j, k = j + 1 := ⟨k - 1, by omega⟩
    unfold sureV
    rw [Nat.add_sub_cancel]
    split
    · rw [show k + 1 - s = 0 by omega, show k - s = 0 by omega]; grind
    · rw [show k + 1 - s = (k - s) + 1 by omega]; grind
  split
  · refine key 12 (by omega) ?_ ?_
    · intro k h1 _; rw [step k h1]; split <;> omega
    · intro k h1 h2; rw [show k = 12 by omega]; exact Int.le_refl _
  · refine key s (by omega) ?_ ?_
    · intro k h1 h2; rw [step k h1, if_pos h2]; omega
    · intro k h1 _
      induction k with
      | zero => rw [show s = 0 by omega]; exact Int.le_refl _
      | succ k ih =>
        rcases Nat.lt_or_eq_of_le h1 with h | h
        · have := ih (by omega) (by omega)
          rw [step (k + 1) (by omega), if_neg (by omega), Nat.add_sub_cancel]; omega
        · rw [← h]; exact Int.le_refl _
theorem adds_sure (fare ask : Int) (s : Nat) : (addsR ((List.range 13).map fun m => ((sureV fare ask s m : Int) : Rat))).map (fun q => decide (q.num < 0)) = (List.range 12).map fun j => decide ((if j < s then fare else fare - ask) < 0) := by
  have hz : addsR ((List.range 13).map fun m => ((sureV fare ask s m : Int) : Rat)) = (List.range 12).map fun j => (((sureV fare ask s (j + 1) : Int) : Rat) - ((sureV fare ask s j : Int) : Rat)) := rfl
  rw [hz, List.map_map]
  apply List.map_congr_left
  intro j _
  show decide ((_ - _ : Rat).num < 0) = _
  rw [num_sub]
  congr 2
  unfold sureV
  split
  · rw [show j + 1 - s = 0 by omega, show j - s = 0 by omega]; grind
  · rw [show j + 1 - s = (j - s) + 1 by omega]; grind
theorem turn_bool : ∀ s, s < 10 → 0 < s → ∀ b : Bool, turnR ((List.range 12).map fun j => if j < s then false else b) = if b then some (s : Int) else none := by decide +kernel
theorem turn_sure (fare ask : Int) (hf : 0 < fare) (s : Nat) (hs0 : 0 < s) (hs : s < 10) : turnR ((addsR ((List.range 13).map fun m => ((sureV fare ask s m : Int) : Rat))).map (fun q => decide (q.num < 0))) = if fare < ask then some (s : Int) else none := by
  rw [adds_sure]
  have : ((List.range 12).map fun j => decide ((if j < s then fare else fare - ask) < 0)) = (List.range 12).map fun j => if j < s then false else decide (fare < ask) := by
    apply List.map_congr_left
    intro j _
    split
    · rw [decide_eq_false_iff_not]; omega
    · rw [decide_eq_decide]; omega
  rw [this, turn_bool s hs hs0]
  by_cases h : fare < ask <;> simp [h]
end Mx.My

end
section
set_option Elab.async false
set_option linter.all false
set_option exponentiation.threshold 5000
set_option maxRecDepth 100000
/-! Sq9: the law k32, walked. -/
namespace Mx.My
local macro_rules
  | `(tactic| wide_open with [$ts,*]) => `(tactic| simp only [e_var, e_cst, e_pr, t_pr, t_cst, t_var, t_call, t_tv, e_tv, t_not, e_not, t_and, e_and, t_or, e_or, e_ifx, e_tup, e_lst, e_call, o_nil, l_nil, a_nil, o_cons, l_cons, a_cons, bind_ok, bind_exc, bind_bad, isVar_var, isVar_pr, isVar_cst, isVar_call, isVar_tup, isVar_lst, isVar_comp, isVar_ifx, opd_some, opd_none, kep_eq, tst_eq, arg_f, arg_t, d_shr, d_own, prE_eq, get_val, get_bor, gets_nil, gets_cons, p_ne_int, p_eq_int, p_add, p_sub, p_abs, p_idx0, p_idx1, okShr_eq, c_done, c_asg, c_par, c_exp, c_retV, c_ife, ofR_ok, ofR_exc, then_nx, then_ret, then_exc, take_nil, take_val, List.getElem?_cons_zero, List.getElem?_cons_succ, List.set_cons_zero, List.set_cons_succ, List.length_cons, List.length_nil, Option.bind_some, Option.map_some, List.map_cons, List.map_nil, Ar.sl, List.replicate, List.cons_append, List.nil_append, backA, outs_nil, outs_shr, fin_nx, fin_ret, asgT_n, asgT_t, setT_n, setT_t, setTs_n, setTs_c, callK_eq, c_retP, c_retT, c_retC, c_retX, c_retD, c_retA, c_retI, Nat.reduceAdd, Nat.reduceLT, reduceIte, and_self, Nat.reduceSub, lm0, lm1, lm2, lm3, lm4, lm5, lm6, lm7, lm8, lm9, lm10, lm11, lm12, lm13, lm14, if_true, Nat.lt_add_one, Nat.zero_lt_succ, $[$ts:term],*])
local macro_rules
  | `(tactic| wide_open using [$ts,*]) => `(tactic| simp only [e_var, e_cst, e_pr, t_pr, t_cst, t_var, t_call, t_tv, e_tv, t_not, e_not, t_and, e_and, t_or, e_or, e_ifx, e_tup, e_lst, e_call, o_nil, l_nil, a_nil, o_cons, l_cons, a_cons, bind_ok, bind_exc, bind_bad, isVar_var, isVar_pr, isVar_cst, isVar_call, isVar_tup, isVar_lst, isVar_comp, isVar_ifx, opd_some, opd_none, kep_eq, tst_eq, arg_f, arg_t, d_shr, d_own, prE_eq, get_val, get_bor, gets_nil, gets_cons, p_ne_int, p_eq_int, p_add, p_sub, p_abs, p_idx0, p_idx1, okShr_eq, c_done, c_asg, c_par, c_exp, c_retV, c_ife, ofR_ok, ofR_exc, then_nx, then_ret, then_exc, take_nil, take_val, List.getElem?_cons_zero, List.getElem?_cons_succ, List.set_cons_zero, List.set_cons_succ, List.length_cons, List.length_nil, Option.bind_some, Option.map_some, List.map_cons, List.map_nil, Ar.sl, List.replicate, List.cons_append, List.nil_append, backA, outs_nil, outs_shr, fin_nx, fin_ret, asgT_n, asgT_t, setT_n, setT_t, setTs_n, setTs_c, callK_eq, c_retP, c_retT, c_retC, c_retX, c_retD, c_retA, c_retI, Nat.reduceAdd, Nat.reduceLT, reduceIte, and_self, Nat.reduceSub, lm0, lm1, lm2, lm3, lm4, lm5, lm6, lm7, lm8, lm9, lm10, lm11, lm12, lm13, lm14, if_true, Nat.lt_add_one, Nat.zero_lt_succ, Nat.reduceEqDiff, Nat.reduceBEq, put_nil, put_cons, nis, Int.reduceBEq, Int.reduceLT, Int.reduceLE, Int.reduceAdd, Int.reduceSub, Int.reduceNeg, decide_true, decide_false, beq_self_eq_true, e_cmp, take_bor, e_chain, t_chain, t_ifx, c_for, c_whl, it_lst, it_tup, it_zipLL, it_zipTT, it_enum, List.length_map, wipe_nil, wipe_cons, forT_some, trnR_eq, map_some', map_none', isVar_nil, isVar_not, isVar_and, isVar_or, isVar_tv, isVar_chain, isVar_sl3, isVar_met, isVar_dct, isVar_dcomp, isVar_mut, isVar_srt, isVar_srtL, isVar_mnk, c_retO, c_retNt, c_retCh, c_retL, c_retN, fin_exc, c_setI, c_augI, c_rse, e_srt, e_mut, ite_true', ite_false', Bool.not_true, Bool.not_false, Bool.false_eq_true, if_false, $[$ts:term],*])
open PySem
/-! ### lowest terms, by the law -/
theorem lowest_loop (Γ : Tab) (asg) (x y : Sl) (b : Nat) : ∀ (a : Nat) (m : Nat), b < m →
    whlG (ev Γ asg (.pr .ne (.cons (.var 3) (.cons (.cst (.int 0)) .nil)))).t (evC Γ asg (.par 2 3 (.var 3) (.pr .mod (.cons (.var 2) (.cons (.var 3) .nil))) .done)) m [x, y, .shr (.int a), .shr (.int b)] = .nx [x, y, .shr (.int (Nat.gcd a b)), .shr (.int 0)] := by
  induction b using Nat.strongRecOn with
  | _ b ih =>
    intro a m hm
    obtain ⟨m, rfl⟩ : ∃ k, m = k + 1 := ⟨m - 1, by omega⟩
    by_cases hb : b = 0
    · subst hb
      rw [whl_end (ρ1 := [x, y, .shr (.int a), .shr (.int (0 : Nat))])]
      · rw [Nat.gcd_zero_right]; rfl
      · wide_open with [and_self]
        rfl
    · have hb' : 0 < (b : Int) := by omega
      have hb2 : ((b : Int) == 0) = false := by simp; omega
      have hlt := Nat.mod_lt a (by omega : b > 0)
      have := ih (a % b) hlt b m (by omega)
      rw [show Nat.gcd a b = Nat.gcd b (a % b) by rw [Nat.gcd_comm a b, Nat.gcd_rec b a, Nat.gcd_comm]]
      rw [whl_step (ρ1 := [x, y, .shr (.int a), .shr (.int b)]) (ρ2 := [x, y, .shr (.int b), .shr (.int (a % b : Nat))])]
      · exact this
      · wide_open with [hb2]
        rfl
      · wide_open with [p_mod _ _ hb']
        rfl
theorem lowest_spec {fs : List Fd} {i : Nat} (hi : isF fs i 2 4 [false, false] c__law_lowest) (n : Nat) (t : Int) (b : Nat) (hb : 0 < b) (hb2 : b < BIG) : tabAt fs (n + 1) i [.shr (.int t), .shr (.int b)] = .ok (.shr (qd (mkRat t b))) [.non, .non] := by
  rw [hi.tab n _ [.shr (.int t), .shr (.int b), .non, .non] rfl rfl (by decide) rfl]
  have hg := gcd_pos' t b hb
  have hle : Nat.gcd t.natAbs b ≤ b := Nat.gcd_le_right _ hb
  have hg1 : (0 : Int) < (Nat.gcd t.natAbs b : Nat) := by omega
  have hg2 : ((Nat.gcd t.natAbs b : Nat) : Int).natAbs < BIG := by rw [Int.natAbs_natCast]; omega
  have e := lowest_loop (tabAt fs n) (asgOf fs) (.shr (.int t)) (.shr (.int b)) b t.natAbs FUEL (Nat.lt_trans hb2 fuel_big)
  unfold c__law_lowest
  wide_open using [e, p_fdiv _ _ hg1 hg2]
  simp only [qd, mkRat_num' t b hb, mkRat_den' t b hb]
theorem lowest_i {fs : List Fd} {i : Nat} (hi : isF fs i 2 4 [false, false] c__law_lowest) (n : Nat) (t b : Int) (m : Nat) (hm : b = (m : Int)) (hb : 0 < m) (hb2 : m < BIG) : tabAt fs (n + 1) i [.shr (.int t), .shr (.int b)] = .ok (.shr (qd (mkRat t m))) [.non, .non] := by
  subst hm; exact lowest_spec hi n t m hb hb2
/-! ### a house with one going and no bookings -/
def bare (r : Str) (s : Nat) : House := ⟨[⟨"g", "ayr", "bex", 5, 9, s⟩], [], r, [(0, 7)]⟩
theorem bare_ok : ∀ s, s < 10 → 0 < s → isHouseB (houseD (bare "own" s)) = true ∧ isHouseB (houseD (bare "last" s)) = true ∧ niceD 10 (houseD (bare "own" s)) = true ∧ niceD 10 (houseD (bare "last" s)) = true := by decide +kernel
theorem eqb_refl (n : Nat) (d : D) (h : plainD n d = true) : eqb d d = true := by
  induction n generalizing d with
  | zero => cases h
  | succ n ih =>
    have hl : ∀ xs : List D, xs.all (plainD n) = true → eqL xs xs = true := by
      intro xs
      induction xs with
      | nil => intro _; rfl
      | cons x xs ihx =>
        intro hx
        rw [List.all_cons, Bool.and_eq_true] at hx
        show (eqb x x && eqL xs xs) = true
        rw [ih x hx.1, ihx hx.2]; rfl
    cases d with
    | non => rfl
    | bl b => show (b == b) = true; exact beq_self_eq_true b
    | int i => show (i == i) = true; exact beq_self_eq_true i
    | str s => show (s == s) = true; exact beq_self_eq_true s
    | lst xs => exact hl xs h
    | tup xs => exact hl xs h
    | dic k => cases h
    | exc c => cases h
theorem p_eq_same (d : D) (h : plainD 60 d = true) : prI .eq [d, d] = okShr (.bl true) := by rw [p_eqD d d h h, eqb_refl 60 d h]
theorem p_ne_same (d : D) (h : plainD 60 d = true) : prI .ne [d, d] = okShr (.bl false) := by rw [p_neD d d h h, eqb_refl 60 d h]; rfl
theorem qds_plain (L : List Rat) : plainD 60 (.lst (L.map qd)) = true := by
  show (L.map qd).all (plainD 59) = true
  rw [List.all_eq_true]; intro x hx; obtain ⟨q, _, rfl⟩ := List.mem_map.mp hx; rfl
structure Link {fs : List Fd} (S : HasM fs) (I : HasI fs) : Prop where
  kind : I.isKind = S.isKind
  house : I.lookHouse = S.lookHouse
section
variable {fs : List Fd} (S : HasM fs) (I : HasI fs) (L : Link S I)
include L
theorem bare_told (n : Nat) (r : Str) (hr : r = "own" ∨ r = "last") (s : Nat) (hs : s < 10) (hs0 : 0 < s) (kd : Kd) (hk : isKindB (kindD kd) = true) (hkn : Nice (kindD kd)) (hch : Chn kd.ch) (hlow : ∀ a, kd.ask = some a → a.natAbs ≤ 1000) (hf : kd.fare.natAbs ≤ 1000) (f : Nat → Rat) (hfm : ∀ m, m < 13 → worthG (r == "own") 7 s (inOrd (more "g" kd m)) = f m) :
    tabAt fs (n + 10) S.worths [.shr (houseD (bare r s)), .shr (.str "g"), .shr (kindD kd)] = .ok (.own (.lst ((worthsR f).map qd))) [.non, .non, .non] ∧
    tabAt fs (n + 10) S.best [.shr (houseD (bare r s)), .shr (.str "g"), .shr (kindD kd)] = .ok (.shr (.int (bestR (worthsR f)))) [.non, .non, .non] ∧
    tabAt fs (n + 11) S.turning [.shr (houseD (bare r s)), .shr (.str "g"), .shr (kindD kd)] = .ok (.shr (askD (turnR ((addsR (worthsR f)).map fun q => decide (q.num < 0))))) [.non, .non, .non] := by
  obtain ⟨b1, b2, b3, b4⟩ := bare_ok s hs hs0
  have hB : isHouseB (houseD (bare r s)) = true := by rcases hr with rfl | rfl; exact b1; exact b2
  have hN : Nice (houseD (bare r s)) := by rcases hr with rfl | rfl; exact ⟨10, by decide, b3⟩; exact ⟨10, by decide, b4⟩
  have hlk : ∀ k, tabAt fs (k + 6) S.lookHouse [.shr (houseD (bare r s))] = .ok (.shr .non) [.non] := by
    intro k
    have := I_look I k _ hN
    rw [hB, L.house] at this
    exact this
  have hgo : ∀ k, tabAt fs (k + 1) S.lookGoing [.shr (houseD (bare r s)), .shr (.str "g")] = .ok (.shr .non) [.non, .non] := by
    intro k
    have := lookGoing_spec S.hlookGoing k (bare r s) (by show 1 < LIM; exact lm1) (.str "g") ⟨1, by decide, by decide⟩
    rw [show hasGo (bare r s) (.str "g") = true by show (("g" : Str) == "g" || false) = true; decide] at this
    exact this
  have hkd : ∀ k, tabAt fs (k + 3) S.isKind [.shr (kindD kd)] = .ok (.shr (.bl true)) [.non] := by
    intro k
    have := I_kind I k _ hkn
    rw [hk, L.kind] at this
    exact this
  have hlook : ∀ k, tabAt fs (k + 7) S.lookKind [.shr (houseD (bare r s)), .shr (.str "g"), .shr (kindD kd)] = .ok (.shr .non) [.non, .non, .non] := by
    intro k
    exact lookKind_spec S.toHasL (k + 6) (bare r s) "g" kd (hlk k) (hgo (k + 5)) (hkd (k + 3))
  have hat : atGoing (bare r s) "g" = [] := rfl
  have hfil : (bare r s).gos.filter (fun b => b.name == ("g" : Str)) = [⟨"g", "ayr", "bex", 5, 9, s⟩] := by
    have h : (("g" : Str) == "g") = true := by decide
    simp [bare, List.filter_cons, h]
  have hwk : ∀ k, ∀ m : Nat, m ≤ 12 → tabAt fs (k + 8) S.worthWith [.shr (houseD (bare r s)), .shr (.str "g"), .shr (kindD kd), .shr (.int m)] = .ok (.shr (qd (f m))) [.non, .non, .non, .non] ∧ Deg 80 (2 ^ 140) (f m) := by
    intro k m hm
    have := worthG_spec S k (bare r s) hr "g" kd m hm ⟨"g", "ayr", "bex", 5, 9, s⟩ [] hfil lm1 lm0 0 7 [] rfl (by decide) (by
      rw [hat, List.nil_append]
      intro b hb
      obtain ⟨j, _, rfl⟩ := List.mem_map.mp hb
      exact ⟨hch, hlow, hf⟩) (by rw [hat, List.nil_append]; simp [more]; omega)
    rw [hat, List.nil_append] at this
    rw [show worthG ((bare r s).rule == "own") 7 (Go.mk "g" "ayr" "bex" 5 9 s).seats (inOrd (more "g" kd m)) = f m from hfm m (by omega)] at this
    exact this
  have hall : ∀ k, tabAt fs (k + 9) S.allWorths [.shr (houseD (bare r s)), .shr (.str "g"), .shr (kindD kd)] = .ok (.own (.lst ((worthsR f).map qd))) [.non, .non, .non] := fun k => allWorths_spec S.toHasL (k + 8) (bare r s) "g" kd f (fun m hm => (hwk k m hm).1)
  have htiny : ∀ q ∈ worthsR f, Tiny q := by
    intro q hq
    obtain ⟨m, hm, rfl⟩ := List.mem_map.mp hq
    rw [List.mem_range] at hm
    exact (hwk 0 m (by omega)).2.tiny (by decide) (by decide)
  have hlen : (worthsR f).length = 13 := by unfold worthsR; simp
  refine ⟨worths_spec S.toHasL (n + 9) (bare r s) "g" kd f (hlook (n + 2)) (hall n), ?_, ?_⟩
  · exact best_spec S.toHasB (n + 6) (houseD (bare r s)) (.str "g") (kindD kd) (worthsR f) htiny (by omega) (hlook (n + 2)) (hall n)
  · exact turn_spec S.toHasB (n + 10) (bare r s |> houseD) (.str "g") (kindD kd) (addsR (worthsR f)) (by unfold addsR; rw [List.length_map, List.length_zip]; omega) (hlook (n + 3)) (adds_spec S.toHasB (n + 6) _ _ _ (worthsR f) htiny (by omega) (hall n))
end
end Mx.My

end
section
set_option Elab.async false
set_option linter.all false
set_option exponentiation.threshold 5000
set_option maxRecDepth 100000
/-! Sq10: the law k32. -/
namespace Mx.My
local macro_rules
  | `(tactic| wide_open with [$ts,*]) => `(tactic| simp only [e_var, e_cst, e_pr, t_pr, t_cst, t_var, t_call, t_tv, e_tv, t_not, e_not, t_and, e_and, t_or, e_or, e_ifx, e_tup, e_lst, e_call, o_nil, l_nil, a_nil, o_cons, l_cons, a_cons, bind_ok, bind_exc, bind_bad, isVar_var, isVar_pr, isVar_cst, isVar_call, isVar_tup, isVar_lst, isVar_comp, isVar_ifx, opd_some, opd_none, kep_eq, tst_eq, arg_f, arg_t, d_shr, d_own, prE_eq, get_val, get_bor, gets_nil, gets_cons, p_ne_int, p_eq_int, p_add, p_sub, p_abs, p_idx0, p_idx1, okShr_eq, c_done, c_asg, c_par, c_exp, c_retV, c_ife, ofR_ok, ofR_exc, then_nx, then_ret, then_exc, take_nil, take_val, List.getElem?_cons_zero, List.getElem?_cons_succ, List.set_cons_zero, List.set_cons_succ, List.length_cons, List.length_nil, Option.bind_some, Option.map_some, List.map_cons, List.map_nil, Ar.sl, List.replicate, List.cons_append, List.nil_append, backA, outs_nil, outs_shr, fin_nx, fin_ret, asgT_n, asgT_t, setT_n, setT_t, setTs_n, setTs_c, callK_eq, c_retP, c_retT, c_retC, c_retX, c_retD, c_retA, c_retI, Nat.reduceAdd, Nat.reduceLT, reduceIte, and_self, Nat.reduceSub, lm0, lm1, lm2, lm3, lm4, lm5, lm6, lm7, lm8, lm9, lm10, lm11, lm12, lm13, lm14, if_true, Nat.lt_add_one, Nat.zero_lt_succ, $[$ts:term],*])
local macro_rules
  | `(tactic| wide_open using [$ts,*]) => `(tactic| simp only [e_var, e_cst, e_pr, t_pr, t_cst, t_var, t_call, t_tv, e_tv, t_not, e_not, t_and, e_and, t_or, e_or, e_ifx, e_tup, e_lst, e_call, o_nil, l_nil, a_nil, o_cons, l_cons, a_cons, bind_ok, bind_exc, bind_bad, isVar_var, isVar_pr, isVar_cst, isVar_call, isVar_tup, isVar_lst, isVar_comp, isVar_ifx, opd_some, opd_none, kep_eq, tst_eq, arg_f, arg_t, d_shr, d_own, prE_eq, get_val, get_bor, gets_nil, gets_cons, p_ne_int, p_eq_int, p_add, p_sub, p_abs, p_idx0, p_idx1, okShr_eq, c_done, c_asg, c_par, c_exp, c_retV, c_ife, ofR_ok, ofR_exc, then_nx, then_ret, then_exc, take_nil, take_val, List.getElem?_cons_zero, List.getElem?_cons_succ, List.set_cons_zero, List.set_cons_succ, List.length_cons, List.length_nil, Option.bind_some, Option.map_some, List.map_cons, List.map_nil, Ar.sl, List.replicate, List.cons_append, List.nil_append, backA, outs_nil, outs_shr, fin_nx, fin_ret, asgT_n, asgT_t, setT_n, setT_t, setTs_n, setTs_c, callK_eq, c_retP, c_retT, c_retC, c_retX, c_retD, c_retA, c_retI, Nat.reduceAdd, Nat.reduceLT, reduceIte, and_self, Nat.reduceSub, lm0, lm1, lm2, lm3, lm4, lm5, lm6, lm7, lm8, lm9, lm10, lm11, lm12, lm13, lm14, if_true, Nat.lt_add_one, Nat.zero_lt_succ, Nat.reduceEqDiff, Nat.reduceBEq, put_nil, put_cons, nis, Int.reduceBEq, Int.reduceLT, Int.reduceLE, Int.reduceAdd, Int.reduceSub, Int.reduceNeg, decide_true, decide_false, beq_self_eq_true, e_cmp, take_bor, e_chain, t_chain, t_ifx, c_for, c_whl, it_lst, it_tup, it_zipLL, it_zipTT, it_enum, List.length_map, wipe_nil, wipe_cons, forT_some, trnR_eq, map_some', map_none', isVar_nil, isVar_not, isVar_and, isVar_or, isVar_tv, isVar_chain, isVar_sl3, isVar_met, isVar_dct, isVar_dcomp, isVar_mut, isVar_srt, isVar_srtL, isVar_mnk, c_retO, c_retNt, c_retCh, c_retL, c_retN, fin_exc, c_setI, c_augI, c_rse, e_srt, e_mut, ite_true', ite_false', Bool.not_true, Bool.not_false, Bool.false_eq_true, if_false, $[$ts:term],*])
open PySem
theorem isChance_qd (q : Rat) (h0 : 0 < q.num) (h1 : q.num ≤ q.den) : isChanceB (qd q) = true := by
  show (decide (0 < q.num) && decide (q.num ≤ (q.den : Int)) && Nat.gcd q.num.natAbs (q.den : Int).natAbs == 1) = true
  rw [decide_eq_true h0, decide_eq_true h1, Int.natAbs_natCast, q.reduced]; rfl
theorem kd_ok (f : Int) (q : Rat) (a : Option Int) (hf : 0 ≤ f ∧ f ≤ 999) (hq : isChanceB (qd q) = true) (ha : ∀ x, a = some x → 0 ≤ x ∧ x ≤ 999) : isKindB (kindD ⟨f, q, 0, a⟩) = true := by
  show (isWholeB (.int f) 0 999 && isChanceB (qd q) && isWholeB (.int 0) 0 9 && (scalEq (askD a) .non || isWholeB (askD a) 0 999)) = true
  rw [hq]
  cases a with
  | none => simp [isWholeB, hf, askD, scalEq]
  | some x => have := ha x rfl; simp [isWholeB, hf, askD, this]
theorem kd_nice (f : Int) (q : Rat) (a : Option Int) (hf : f.natAbs < 2 ^ 64) (hq : niceD 5 (qd q) = true) (ha : ∀ x, a = some x → x.natAbs < 2 ^ 64) : Nice (kindD ⟨f, q, 0, a⟩) := by
  refine ⟨6, by decide, ?_⟩
  show ([D.int f, qd q, .int 0, askD a].all (niceD 5) && decide (4 < 1000)) = true
  simp only [List.all_cons, hq, List.all_nil, Bool.and_true, Bool.true_and]
  have h1 : niceD 5 (.int f) = true := decide_eq_true hf
  have h2 : niceD 5 (askD a) = true := by
    cases a with
    | none => rfl
    | some x => exact decide_eq_true (ha x rfl)
  rw [h1, h2]; rfl
theorem p_slcT4 (xs : List D) : prI (.slc false true) [.lst xs, .int 4] = some (.own (.lst (xs.take 4))) := p_slcT xs 4
theorem p_slcT5 (xs : List D) : prI (.slc false true) [.tup xs, .int 5] = okShr (.tup (xs.take 5)) := p_slcTt xs 5
theorem p_addT (xs ys : List D) : prI .add [.tup xs, .tup ys] = if xs.length + ys.length < LIM then okShr (.tup (xs ++ ys)) else none := by unfold prI; rfl
theorem chn_half : Chn (1/2) := ⟨⟨210, by decide +kernel, by decide⟩, ⟨210, by decide +kernel, by decide⟩⟩
theorem chn_one : Chn 1 := ⟨⟨420, by decide +kernel, by decide⟩, ⟨0, by decide +kernel, by decide⟩⟩
section
variable {fs : List Fd} (S : HasM fs) (I : HasI fs) (L : Link S I)
include L
theorem law32 {it id il ilaw : Nat} (ht : isF fs it 1 1 [false] c__law_town) (hd : isF fs id 3 6 [false, false, false] c__law_draw) (hl : isF fs il 2 4 [false, false] c__law_lowest) (hlaw : isF fs ilaw 1 16 [false] (c_law it id S.worths il S.best S.turning)) (n : Nat) (ns : List Int) (hns : ns.length ≤ 63) : tabAt fs (n + 12) ilaw [.shr (lstI ns)] = .ok (.shr (.bl true)) [.non] := by
  obtain ⟨T0, e0⟩ := town_spec ht (n + 10) ns hns
  obtain ⟨v1, ts1, h1, T1, e1⟩ := draw_i hd (n + 10) ns _ 0 90 (by decide) hns T0 (by decide) (by decide)
  obtain ⟨v2, ts2, h2, T2, e2⟩ := draw_i hd (n + 10) ns _ 1 90 (by decide) hns T1 (by decide) (by decide)
  obtain ⟨v3, ts3, h3, T3, e3⟩ := draw_i hd (n + 10) ns _ 2 9 (by decide) hns T2 (by decide) (by decide)
  generalize hfare : (1 : Int) + (v1 : Int) = fare at *
  have hfr : 0 < fare ∧ fare ≤ 90 := by omega
  generalize hask : (v2 : Int) = ask at *
  have har : 0 ≤ ask ∧ ask < 90 := by omega
  have hs3 : (1 : Int) + (v3 : Int) = ((v3 + 1 : Nat) : Int) := by omega
  generalize hsv : v3 + 1 = s at *
  have hs : s < 10 := by omega
  have hs0 : 0 < s := by omega
  have b4 : ((4 : Int)).natAbs < BIG := lt_big (by decide)
  have b12 : ((12 : Int)).natAbs < BIG := lt_big (by decide)
  have b5 : ((5 : Int)).natAbs < BIG := lt_big (by decide)
  have bf : fare.natAbs < BIG := lt_big (Nat.lt_of_le_of_lt (show fare.natAbs ≤ 90 by omega) (by decide))
  have ba : ask.natAbs < BIG := lt_big (Nat.lt_of_le_of_lt (show ask.natAbs ≤ 90 by omega) (by decide))
  have l1 := lowest_i hl (n + 10) fare 2 2 rfl (by decide) (lt_big (by decide))
  have l2 := lowest_i hl (n + 10) (4 * fare - ask) 4 4 rfl (by decide) (lt_big (by decide))
  have l3 := lowest_i hl (n + 10) (12 * fare - 5 * ask) 8 8 rfl (by decide) (lt_big (by decide))
  obtain ⟨w1, -, -⟩ := bare_told S I L (n + 1) "own" (.inl rfl) 1 (by decide) (by decide) ⟨fare, 1/2, 0, some ask⟩ (kd_ok _ _ _ (by omega) (by decide +kernel) (by intro x hx; cases hx; omega)) (kd_nice _ _ _ (by omega) (by decide +kernel) (by intro x hx; cases hx; omega)) chn_half (by intro a ha; cases ha; omega) (by show fare.natAbs ≤ 1000; omega) (fun m => worthG true 7 1 (inOrd (more "g" ⟨fare, 1/2, 0, some ask⟩ m))) (fun m _ => rfl)
  obtain ⟨w2, w3, w4⟩ := bare_told S I L n "own" (.inl rfl) s hs hs0 ⟨fare, 1, 0, some ask⟩ (kd_ok _ _ _ (by omega) (by decide +kernel) (by intro x hx; cases hx; omega)) (kd_nice _ _ _ (by omega) (by decide +kernel) (by intro x hx; cases hx; omega)) chn_one (by intro a ha; cases ha; omega) (by show fare.natAbs ≤ 1000; omega) (fun m => ((sureV fare ask s m : Int) : Rat)) (fun m hm => sure_worth true 7 fare ask "g" s m hs hm)
  obtain ⟨w2', -, -⟩ := bare_told S I L (n + 1) "own" (.inl rfl) s hs hs0 ⟨fare, 1, 0, some ask⟩ (kd_ok _ _ _ (by omega) (by decide +kernel) (by intro x hx; cases hx; omega)) (kd_nice _ _ _ (by omega) (by decide +kernel) (by intro x hx; cases hx; omega)) chn_one (by intro a ha; cases ha; omega) (by show fare.natAbs ≤ 1000; omega) (fun m => ((sureV fare ask s m : Int) : Rat)) (fun m hm => sure_worth true 7 fare ask "g" s m hs hm)
  obtain ⟨-, w3', -⟩ := bare_told S I L (n + 1) "own" (.inl rfl) s hs hs0 ⟨fare, 1, 0, some ask⟩ (kd_ok _ _ _ (by omega) (by decide +kernel) (by intro x hx; cases hx; omega)) (kd_nice _ _ _ (by omega) (by decide +kernel) (by intro x hx; cases hx; omega)) chn_one (by intro a ha; cases ha; omega) (by show fare.natAbs ≤ 1000; omega) (fun m => ((sureV fare ask s m : Int) : Rat)) (fun m hm => sure_worth true 7 fare ask "g" s m hs hm)
  obtain ⟨w5, -, -⟩ := bare_told S I L (n + 1) "own" (.inl rfl) s hs hs0 ⟨fare, 1, 0, none⟩ (kd_ok _ _ _ (by omega) (by decide +kernel) (by intro x hx; cases hx)) (kd_nice _ _ _ (by omega) (by decide +kernel) (by intro x hx; cases hx)) chn_one (by intro a ha; cases ha) (by show fare.natAbs ≤ 1000; omega) (fun m => ((sureV fare 7 s m : Int) : Rat)) (fun m hm => forced_worth true 7 fare "g" s m hs hm)
  obtain ⟨w6, -, -⟩ := bare_told S I L (n + 1) "last" (.inr rfl) s hs hs0 ⟨fare, 1, 0, some ask⟩ (kd_ok _ _ _ (by omega) (by decide +kernel) (by intro x hx; cases hx; omega)) (kd_nice _ _ _ (by omega) (by decide +kernel) (by intro x hx; cases hx; omega)) chn_one (by intro a ha; cases ha; omega) (by show fare.natAbs ≤ 1000; omega) (fun m => ((sureV fare ask s m : Int) : Rat)) (fun m hm => sure_worth false 7 fare ask "g" s m hs hm)
  have hb := best_sure fare ask hfr.1 s hs0 hs
  have htn := turn_sure fare ask hfr.1 s hs0 hs
  rw [show worthsR (fun m => ((sureV fare ask s m : Int) : Rat)) = (List.range 13).map fun m => ((sureV fare ask s m : Int) : Rat) from rfl] at w3' w4
  rw [hb] at w3'
  rw [htn] at w4
  obtain ⟨hh0, hh1, hh2, hh3⟩ := half_worth 7 fare ask "g"
  have hdue : (((worthsR (fun m => worthG true 7 1 (inOrd (more "g" ⟨fare, 1/2, 0, some ask⟩ m)))).map qd).take 4) = [D.tup [.int 0, .int 1], qd (mkRat fare 2), qd (mkRat (4 * fare - ask) 4), qd (mkRat (12 * fare - 5 * ask) 8)] := by
    rw [← hh1, ← hh2, ← hh3, ← qd_zero, ← hh0]
    rfl
  have pdue : plainD 60 (.lst [D.tup [.int 0, .int 1], qd (mkRat fare 2), qd (mkRat (4 * fare - ask) 4), qd (mkRat (12 * fare - 5 * ask) 8)]) = true := by simp [plainD, qd]
  rw [hlaw.tab (n + 11) _ [.shr (lstI ns), .non, .non, .non, .non, .non, .non, .non, .non, .non, .non, .non, .non, .non, .non, .non] rfl rfl (by decide) rfl]
  have hw0 : houseD (bare "own" 1) = .tup [.tup [.tup [.str "g", .str "ayr", .str "bex", .int 5, .int 9, .int 1]], .tup [], .tup [.str "own", .tup [.tup [.int 0, .int 7]]]] := by rfl
  have hk0 : kindD ⟨fare, 1/2, 0, some ask⟩ = .tup [.int fare, .tup [.int 1, .int 2], .int 0, .int ask] := by
    have h1 : ((1/2 : Rat)).num = 1 := by decide +kernel
    have h2 : ((1/2 : Rat)).den = 2 := by decide +kernel
    show D.tup [.int fare, .tup [.int (1/2 : Rat).num, .int ((1/2 : Rat).den : Nat)], .int 0, .int ask] = _
    rw [h1, h2]
    rfl
  rw [hw0, hk0] at w1
  unfold c_law
  wide_open using [ht.asg, e0, hd.asg, e1, hfare, e2, hask, w1, S.hworths.asg, hl.asg, l1, p_mul _ _ b4 bf, l2, p_mul _ _ b12 bf, p_mul _ _ b5 ba, l3]
  wide_open using [p_slcT, p_slcT4, hdue, p_ne_same _ pdue, hd.asg, e3, hs3, S.hworths.asg]
  have hwide : houseD (bare "own" s) = .tup [.tup [.tup [.str "g", .str "ayr", .str "bex", .int 5, .int 9, .int s]], .tup [], .tup [.str "own", .tup [.tup [.int 0, .int 7]]]] := by rfl
  have hk1 : kindD ⟨fare, 1, 0, some ask⟩ = .tup [.int fare, .tup [.int 1, .int 1], .int 0, .int ask] := rfl
  have hk2 : kindD ⟨fare, 1, 0, none⟩ = .tup [.int fare, .tup [.int 1, .int 1], .int 0, .non] := rfl
  rw [hwide, hk1] at w2 w2' w3' w4
  have hmx : ∀ m : Nat, (if (m : Int) - (s : Int) > 0 then (m : Int) - (s : Int) else 0) = ((m - s : Nat) : Int) := by intro m; split <;> omega
  wide_open using [p_slcT5, p_addT, List.take_succ_cons, List.take_zero, w2', w3', S.hworths.asg]
  have hturn : ∀ (a : Int) (p : Rat × Nat), p ∈ (worthsR fun m => ((sureV fare a s m : Int) : Rat)).zipIdx → p.2 < 13 ∧ qd p.1 = .tup [.int ((p.2 : Int) * fare - ((p.2 - s : Nat) : Int) * a), .int 1] := by
    intro a p hp
    have h := List.mem_zipIdx hp
    simp [worthsR] at h
    refine ⟨h.1, ?_⟩
    rw [h.2]; rfl
  have hb13 : ∀ m : Nat, m < 13 → ((m : Int)).natAbs < BIG := fun m hm => lt_big (Nat.lt_of_le_of_lt (show ((m : Int)).natAbs ≤ 13 by omega) (by decide))
  have hbs13 : ∀ m : Nat, m < 13 → (((m - s : Nat) : Int)).natAbs < BIG := fun m hm => lt_big (Nat.lt_of_le_of_lt (show (((m - s : Nat) : Int)).natAbs ≤ 13 by omega) (by decide))
  have b7 : ((7 : Int)).natAbs < BIG := lt_big (by decide)
  refine for_put (fun o => finish _ (o.then _) = _) (worthsR fun m => ((sureV fare ask s m : Int) : Rat)).zipIdx (enc2 qd) [12, 13] ?_ ?_
  · intro p hp f
    obtain ⟨g1, g2⟩ := hturn ask p hp
    refine ⟨fun j => if j = 12 then .shr (.int p.2) else .shr (qd p.1), ?_⟩
    wide_open using [enc2, g2, p_mul _ _ (hb13 _ g1) bf, p_max2, hmx, p_mul _ _ (hbs13 _ g1) ba, p_ne_same (.tup [.int ((p.2 : Int) * fare - ((p.2 - s : Nat) : Int) * ask), .int 1]) rfl]
  intro f
  rw [hwide, hk2] at w5
  have hlastD : houseD (bare "last" s) = .tup [.tup [.tup [.str "g", .str "ayr", .str "bex", .int 5, .int 9, .int s]], .tup [], .tup [.str "last", .tup [.tup [.int 0, .int 7]]]] := by rfl
  rw [hlastD, hk1] at w6
  have hbst : ((if ask < fare then 12 else s : Nat) : Int) = if ask < fare then (12 : Int) else (s : Int) := by split <;> rfl
  rw [hbst] at w3'
  have hpl : plainD 60 (.int (if ask < fare then (12 : Int) else (s : Int))) = true := rfl
  have hpl2 : plainD 60 (askD (if fare < ask then some (s : Int) else none)) = true := by split <;> rfl
  have hg : decide (ask < fare) = true ∨ decide (ask < fare) = false := by cases decide (ask < fare) <;> simp
  have hpe := p_eq_same (.lst ((worthsR fun m => ((sureV fare ask s m : Int) : Rat)).map qd)) (qds_plain _)
  by_cases c1 : ask < fare
  all_goals by_cases c2 : fare < ask
  · omega
  all_goals
    simp only [c1, c2, if_true, if_false, askD] at w3' w4
    first
      | have q1 : decide (ask < fare) = true := decide_eq_true c1
      | have q1 : decide (ask < fare) = false := decide_eq_false c1
    first
      | have q2 : decide (fare < ask) = true := decide_eq_true c2
      | have q2 : decide (fare < ask) = false := decide_eq_false c2
    wide_open using [S.hbest.asg, w3', p_gt, q1, S.hturn.asg, w4, p_lt, q2, p_ne_same .non rfl, S.hworths.asg, w5]
  all_goals
    refine for_put (fun o => finish _ (o.then _) = _) (worthsR fun m => ((sureV fare 7 s m : Int) : Rat)).zipIdx (enc2 qd) [12, 13] ?_ ?_
    · intro p hp f
      obtain ⟨g1, g2⟩ := hturn 7 p hp
      refine ⟨fun j => if j = 12 then .shr (.int p.2) else .shr (qd p.1), ?_⟩
      wide_open using [enc2, g2, p_mul _ _ (hb13 _ g1) bf, p_max2, hmx, p_mul _ _ (hbs13 _ g1) b7, p_ne_same (.tup [.int ((p.2 : Int) * fare - ((p.2 - s : Nat) : Int) * 7), .int 1]) rfl]
    intro f
    wide_open using [S.hworths.asg, w6, w2', hpe]
end
end Mx.My

end
set_option Elab.async false
set_option linter.all false
set_option maxRecDepth 100000
set_option maxHeartbeats 0
namespace L32
open PySem PySem.Spec L2 Mx Mx.My
abbrev prog := PySem.Challenge.pw_soldtwice_k32_selling_by_hand
abbrev rw_ := PySem.Challenge.rw_soldtwice_k32_selling_by_hand
def lawAt : Nat := prog.main.body.length - 1
def defD? : Stmt → Option He.DefD
  | .FunctionDef name args body _ _ _ scope _ _ _ => some ⟨(name, none), name, name, args, body, scope, [], []⟩
  | _ => none
def ds : List He.DefD := prog.main.body.filterMap defD?
def gI : List (Str × Int) := prog.main.body.filterMap fun | .Assign [.Name x _] (.Constant (.int i) _ _) _ => some (x, i) | _ => none
def gS : List (Str × Str) := prog.main.body.filterMap fun | .Assign [.Name x _] (.Constant (.str i) _ _) _ => if x == "__name__" then none else some (x, i) | _ => none
def gC : List Str := prog.main.body.filterMap fun | .ClassDef x [.Name b _] _ _ _ _ _ _ _ _ _ => if b == "ValueError" || b == "SeatError" then some x else none | _ => none
def bl : List Str := ["len", "abs", "all", "any", "sum", "max", "min", "sorted", "list", "tuple", "range", "enumerate", "zip", "isinstance", "int", "bool", "str", "dict", "ValueError"]
def tb : Tb := ⟨ds.map (·.name), gI, gS, bl, errs.all (gC.contains ·), gC, (ds.filter fun d => (psOf d.params).length == 1).map (·.name)⟩
abbrev R : PySem.W.OpenRow := PySem.W.OpenLaw.row rw_
abbrev hk : PySem.W.Hook := hookM 4 tb ds
def ob (s : PySem.W.SharedT) : He.AlD × Bool := obsM 4 tb ds (HandSHeadRun.getT s)
theorem ob_eq (s : PySem.W.SharedT) : ob s = hk.obs s.abs := obsM_eq (HandSHeadRun.getT_eq s)
def loose : List Str := (prog.main.scope.names.map (·.1)).filter fun x => x != ("law" : Str)
theorem run (w : World) : HandSHeadRun.RunEq R (PySem.W.view R.prog [lawAt]) hk ob 4000 loose w := by
  intro os
  kernel_rfl
def lawI : Nat := ds.length - 1
def lawD : He.DefD := ds.getD lawI ⟨("", none), "", "", ⟨[], [], none, [], [], none, []⟩, [], ⟨.function, [], false, false, []⟩, [], []⟩
def oneB : Bool := ds.all fun d => !(tb.one.contains d.name) || (psOf d.params).length == 1
theorem one_ok : ∀ d ∈ ds, tb.one.contains d.name = true → (psOf d.params).length = 1 := fun d hd h => by
  have e : oneB = true := by kernel_rfl
  have := List.all_eq_true.mp e d hd
  rw [h] at this
  simpa using this
def fs : List Fd := [
  ⟨"common", 2, 2, [true, true], c_common⟩,
  ⟨"share", 2, 3, [false, false], (c_share 0)⟩,
  ⟨"plus", 2, 2, [false, false], (c_plus 1)⟩,
  ⟨"minus", 2, 2, [false, false], (c_minus 1)⟩,
  ⟨"times", 2, 2, [false, false], (c_times 1)⟩,
  ⟨"total", 1, 3, [false], (c_total 2)⟩,
  ⟨"rest", 1, 1, [false], c_rest⟩,
  ⟨"counted", 1, 7, [false], (c_counted 4 6 2)⟩,
  ⟨"is_whole", 3, 3, [false, false, false], c_is_whole⟩,
  ⟨"is_word", 1, 3, [false], c_is_word⟩,
  ⟨"do_rise", 1, 4, [false], c_do_rise⟩,
  ⟨"is_going", 1, 3, [false], (c_is_going 9 8)⟩,
  ⟨"is_chance", 1, 3, [false], (c_is_chance 0)⟩,
  ⟨"is_kind", 1, 1, [false], (c_is_kind 8 12)⟩,
  ⟨"is_booking", 2, 2, [false, false], (c_is_booking 9 13)⟩,
  ⟨"is_rule", 1, 5, [false], (c_is_rule 8 10)⟩,
  ⟨"is_house", 1, 7, [false], (c_is_house 11 10 14 15)⟩,
  ⟨"look_house", 1, 1, [false], (c_look_house 16)⟩,
  ⟨"look_going", 2, 4, [false, false], c_look_going⟩,
  ⟨"going_of", 2, 4, [false, false], c_going_of⟩,
  ⟨"booked_at", 2, 4, [false, false], c_booked_at⟩,
  ⟨"stay_key", 1, 1, [false], c_stay_key⟩,
  ⟨"in_order", 1, 1, [false], (c_in_order 21)⟩,
  ⟨"signed_sum", 1, 5, [false], (c_signed_sum 1)⟩,
  ⟨"more_than", 2, 2, [false, false], (c_more_than 5)⟩,
  ⟨"stays_by", 2, 8, [false, false], (c_stays_by 7 4 5)⟩,
  ⟨"mean_own", 2, 6, [false, false], (c_mean_own 25 5 4)⟩,
  ⟨"mean_last", 2, 16, [false, false], (c_mean_last 7 2 4 24 5)⟩,
  ⟨"willing_mean", 3, 3, [false, false, false], (c_willing_mean 26 27)⟩,
  ⟨"look_kind", 3, 3, [false, false, false], (c_look_kind 17 18 13)⟩,
  ⟨"worth_with", 4, 14, [false, false, false, false], (c_worth_with 22 20 19 23 25 3 28)⟩,
  ⟨"all_worths", 3, 5, [false, false, false], (c_all_worths 30)⟩,
  ⟨"worths", 3, 3, [false, false, false], (c_worths 29 31)⟩,
  ⟨"best_number", 3, 7, [false, false, false], (c_best_number 29 31 3)⟩,
  ⟨"adds", 3, 7, [false, false, false], (c_adds 31 3)⟩,
  ⟨"turning", 3, 7, [false, false, false], (c_turning 29 34)⟩,
  ⟨"_law_town", 1, 1, [false], c__law_town⟩,
  ⟨"_law_draw", 3, 6, [false, false, false], c__law_draw⟩,
  ⟨"_law_lowest", 2, 4, [false, false], c__law_lowest⟩,
  ⟨"law", 1, 16, [false], (c_law 36 37 32 38 33 35)⟩]
theorem fs_ok : cAll tb ds = some fs := by kernel_rfl
abbrev S : HasM fs where
  common := 0
  share := 1
  plus := 2
  minus := 3
  times := 4
  total := 5
  rest := 6
  counted := 7
  staysBy := 25
  meanOwn := 26
  signedSum := 23
  stayKey := 21
  inOrder := 22
  goingOf := 19
  bookedAt := 20
  meanLast := 27
  willing := 28
  worthWith := 30
  isWhole := 8
  isChance := 12
  isKind := 13
  lookHouse := 17
  lookGoing := 18
  lookKind := 29
  allWorths := 31
  worths := 32
  isHouse := 16
  best := 33
  adds := 34
  turning := 35
  moreThan := 24
  hcommon := ⟨"common", rfl⟩
  hshare := ⟨"share", rfl⟩
  hplus := ⟨"plus", rfl⟩
  hminus := ⟨"minus", rfl⟩
  htimes := ⟨"times", rfl⟩
  htotal := ⟨"total", rfl⟩
  hrest := ⟨"rest", rfl⟩
  hcounted := ⟨"counted", rfl⟩
  hstays := ⟨"stays_by", rfl⟩
  hmeanOwn := ⟨"mean_own", rfl⟩
  hsigned := ⟨"signed_sum", rfl⟩
  hkey := ⟨"stay_key", rfl⟩
  horder := ⟨"in_order", rfl⟩
  hgoing := ⟨"going_of", rfl⟩
  hbooked := ⟨"booked_at", rfl⟩
  hwilling := ⟨"willing_mean", rfl⟩
  hworth := ⟨"worth_with", rfl⟩
  hwhole := ⟨"is_whole", rfl⟩
  hkind := ⟨"is_kind", rfl⟩
  hchance := ⟨"is_chance", rfl⟩
  hlookKind := ⟨"look_kind", rfl⟩
  hall := ⟨"all_worths", rfl⟩
  hworths := ⟨"worths", rfl⟩
  hlookHouse := ⟨"look_house", rfl⟩
  hlookGoing := ⟨"look_going", rfl⟩
  hbest := ⟨"best_number", rfl⟩
  hadds := ⟨"adds", rfl⟩
  hturn := ⟨"turning", rfl⟩
  hmore := ⟨"more_than", rfl⟩
  hlast := ⟨"mean_last", rfl⟩
abbrev I : HasI fs where
  common := 0
  isWhole := 8
  isWord := 9
  doRise := 10
  isGoing := 11
  isChance := 12
  isKind := 13
  isBooking := 14
  isRule := 15
  isHouse := 16
  lookHouse := 17
  hcommon := ⟨"common", rfl⟩
  hwhole := ⟨"is_whole", rfl⟩
  hword := ⟨"is_word", rfl⟩
  hrise := ⟨"do_rise", rfl⟩
  hgoing := ⟨"is_going", rfl⟩
  hchance := ⟨"is_chance", rfl⟩
  hkind := ⟨"is_kind", rfl⟩
  hbooking := ⟨"is_booking", rfl⟩
  hrule := ⟨"is_rule", rfl⟩
  hhouse := ⟨"is_house", rfl⟩
  hlook := ⟨"look_house", rfl⟩
theorem answer (ns : List Int) (h : ns.length ≤ 63) : ∃ outs, tabAt fs 31 lawI [.shr (.lst (ns.map D.int))] = .ok (.shr (.bl true)) outs :=
  ⟨_, law32 (it := 36) (id := 37) (il := 38) (ilaw := 39) S I ⟨rfl, rfl⟩ ⟨"_law_town", rfl⟩ ⟨"_law_draw", rfl⟩ ⟨"_law_lowest", rfl⟩ ⟨"law", rfl⟩ 19 ns h⟩
theorem law_i : ds[lawI]? = some lawD := by kernel_rfl
end L32
open PySem PySem.W PySem.Calls PyProof.Rows in
theorem PySem.Challenge.cw_soldtwice_k32_selling_by_hand_holds : PySem.Challenge.rw_soldtwice_k32_selling_by_hand.Holds := by
  w_on; o_law
  refine HandSHeadRun.head_any (r := OpenLaw.row PySem.Challenge.rw_soldtwice_k32_selling_by_hand) (q := view (OpenLaw.row PySem.Challenge.rw_soldtwice_k32_selling_by_hand).prog [L32.lawAt]) (H := L32.hk) (ob := L32.ob) (M := 4000) (loose := L32.loose) (d := HandSHeadRun.topDef (OpenLaw.row PySem.Challenge.rw_soldtwice_k32_selling_by_hand).prog L32.lawAt) (kwd := []) L32.ob_eq
    (by kernel_rfl) (fun s => by kernel_rfl) L32.run (by kernel_rfl) (by kernel_rfl) (by kernel_rfl) (by rfl) (by first | assumption | decide +kernel) (by decide +kernel) ⟨rfl, rfl, rfl, rfl, rfl, by decide +kernel⟩ ?hw ?hc
  case hw => w_witness2
  case hc =>
    exact Mx.law_walk (l := PySem.Challenge.rw_soldtwice_k32_selling_by_hand) (m := 63) (n := 4) (fuel := 30) (tb := L32.tb) (ds := L32.ds) (fs := L32.fs) (i := L32.lawI) (dl := L32.lawD) rfl (by decide) (by kernel_rfl) ⟨rfl, by decide, by decide⟩ (by kernel_rfl) L32.fs_ok L32.one_ok L32.law_i (by kernel_rfl) (by kernel_rfl) L32.answer
