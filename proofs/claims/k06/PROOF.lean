import PyProof.Rows.All
import Wide.All
import OpenK.AllK
import Wide.FinOn
import PySem.Str
import HandS.ForMost
import KE.KDictKeyed
import KE.KDictCopyH
import KE.DataEq
import HandS.Lambda
import HandS.SetBool
import HandS.HeadHook1
import HandS.TupAny
import HandS.TupMul
import HandS.IsInst
import HandS.Strs
import PyProof.SeqIndex
import HandS.DictEq
import HandS.Iter
import KE.KDictList
import HandS.Conv
import KE.KDictPairs
import HandS.More
import HandS.SortInts
import KE.DataMinMax
import KE.SortData
import KE.GoesMore
import HandS.Style
import HandS.TupSets
import HandS.Zip
import HandS.Rev
import HandS.RevTup
import HandS.SetFor
import KE.SortKeyHeap
import KE.DataMinKey
import HandS.Keys
import HandS.HeadHook3
import HandS.HeadHook4
import HandS.HeadWalk
import HandS.Defaults
import HandS.Head0
import HandS.Head1
import HandS.Head2
import HandS.HeadEnd
import HandS.HeadHook2
import KE.KStateDown
import PySem.Challenge.RW_pressedtables_k06_whole_classed_the_same
set_option autoImplicit false
/-! DlCore: Python's nested data as plain values, a small language over slots, and what a piece of it is worth (weakest preconditions over values, no heap). -/
namespace Dl
open PySem (Str)

/-- a datum -/
inductive D where
  | non | bl (b : Bool) | int (i : Int) | str (x : Str)
  | tup (xs : List D) | lst (xs : List D) | dct (kvs : List (D × D))
  | ro (ns : List Int)
  | obj (c : String) (fs : List (String × D))
  | fnc (f : Nat)
  | ali
  | fz (kvs : List (D × D))
  | rl (ns : List Int)

mutual
/-- nothing in it can be changed -/
def D.immut : D → Bool
  | .non => true | .bl _ => true | .int _ => true | .str _ => true | .ro _ => true | .fnc _ => true | .ali => true | .fz _ => true | .rl _ => true
  | .tup xs => immutAll xs
  | .lst _ => false | .dct _ => false | .obj _ _ => false
def immutAll : List D → Bool
  | [] => true
  | x :: xs => x.immut && immutAll xs
end
theorem immutAll_iff : ∀ {xs : List D}, immutAll xs = true ↔ ∀ x ∈ xs, x.immut = true
  | [] => by simp [immutAll]
  | x :: xs => by simp [immutAll, immutAll_iff (xs := xs)]
theorem immutAll_map {α : Type} {f : α → D} {xs : List α} (h : ∀ x ∈ xs, (f x).immut = true) : immutAll (xs.map f) = true := by
  rw [immutAll_iff]; intro x hx; obtain ⟨y, hy, rfl⟩ := List.mem_map.mp hx; exact h y hy
theorem immutAll_append {xs ys : List D} : immutAll (xs ++ ys) = (immutAll xs && immutAll ys) := by
  induction xs with
  | nil => simp [immutAll]
  | cons x xs ih => simp [immutAll, ih, Bool.and_assoc]

mutual
/-- == of data without dicts -/
def eqv : D → D → Bool
  | .non, .non => true
  | .bl a, .bl b => a == b
  | .bl a, .int j => (if a then 1 else 0) == j
  | .int i, .bl b => i == (if b then 1 else 0)
  | .int i, .int j => i == j
  | .str x, .str y => x == y
  | .lst xs, .lst ys => eqvAll xs ys
  | .tup xs, .tup ys => eqvAll xs ys
  | _, _ => false
def eqvAll : List D → List D → Bool
  | [], [] => true
  | x :: xs, y :: ys => eqv x y && eqvAll xs ys
  | [], _ :: _ => false
  | _ :: _, [] => false
end
mutual
/-- no dict, no object, no script within, at most so deep -/
def plainN : Nat → D → Bool
  | _, .non => true | _, .bl _ => true | _, .int _ => true | _, .str _ => true
  | n + 1, .tup xs => plainAllN n xs
  | n + 1, .lst xs => plainAllN n xs
  | _, _ => false
def plainAllN : Nat → List D → Bool
  | _, [] => true
  | n, x :: xs => plainN n x && plainAllN n xs
end
def D.plain (d : D) : Bool := plainN 60 d

/-- sizes stay below this -/
def lim : Nat := 1000000

/-- xs[i], i of any sign -/
def atZ {α : Type} (xs : List α) (i : Int) : Option α :=
  if 0 ≤ i then xs[i.toNat]? else if 0 ≤ (xs.length : Int) + i then xs[((xs.length : Int) + i).toNat]? else none
/-- where xs[i] = e stores -/
def ixZ (n : Nat) (i : Int) : Option Nat :=
  if 0 ≤ i then (if i < n then some i.toNat else none) else if 0 ≤ (n : Int) + i then some ((n : Int) + i).toNat else none

/-! dicts -/
mutual
def keyN : Nat → D → Bool
  | _, .non => true | _, .bl _ => true | _, .int _ => true | _, .str _ => true
  | n + 1, .tup xs => keyAllN n xs
  | _, _ => false
def keyAllN : Nat → List D → Bool
  | _, [] => true
  | n, x :: xs => keyN n x && keyAllN n xs
end
/-- the kinds of keys: numbers and texts, truths, tuples -/
def D.kd : D → Nat | .int _ => 0 | .str _ => 0 | .bl _ => 1 | .tup _ => 2 | _ => 9
/-- a key of a dict whose keys are kvs's: hashable, all of one kind -/
def keyOk (kvs : List (D × D)) (k : D) : Bool := keyN 7 k && (k.kd == 0 || k.kd == 1 || k.kd == 2) && kvs.all fun p => p.1.kd == k.kd
def dget (kvs : List (D × D)) (k : D) : Option D := (kvs.find? fun p => eqv p.1 k).map (·.2)
def dput (kvs : List (D × D)) (k v : D) : List (D × D) :=
  if kvs.any (fun p => eqv p.1 k) then kvs.map fun p => if eqv p.1 k then (p.1, v) else p else kvs ++ [(k, v)]
def ddrop (kvs : List (D × D)) (k : D) : List (D × D) := kvs.filter fun p => !eqv p.1 k

/-! operators -/
inductive Bop | add | sub | mul | fdiv | mod | pow
  deriving DecidableEq
inductive Cop | eq | ne | lt | le | gt | ge | inn | nin
  deriving DecidableEq

/-- one of both is not far -/
def mulOk (i j : Int) : Bool := decide ((-(2 ^ 64) < i ∧ i < 2 ^ 64) ∨ (-(2 ^ 64) < j ∧ j < 2 ^ 64))
def binop : Bop → D → D → Option D
  | .add, .int i, .int j => some (.int (i + j))
  | .sub, .int i, .int j => some (.int (i - j))
  | .mul, .int i, .int j => if mulOk i j then some (.int (i * j)) else none
  | .fdiv, .int i, .int j => if j ≠ 0 ∧ j.natAbs < 1073741824 then some (.int (i.fdiv j)) else none
  | .mod, .int i, .int j => if j ≠ 0 then some (.int (i.fmod j)) else none
  | .pow, .int i, .int j => if 0 ≤ j ∧ j ≤ 1000 ∧ i.natAbs < 2 ^ 64 then some (.int (i ^ j.toNat)) else none
  | .add, .lst xs, .lst ys => if immutAll xs && immutAll ys && decide (xs.length + ys.length ≤ lim) then some (.lst (xs ++ ys)) else none
  | .add, .tup xs, .tup ys => if immutAll xs && immutAll ys && decide (xs.length + ys.length ≤ lim) then some (.tup (xs ++ ys)) else none
  | .add, .rl ns, .lst ys => if immutAll ys && decide (ns.length + ys.length ≤ lim) then some (.lst (ns.map .int ++ ys)) else none
  | .mul, .lst xs, .int k => if immutAll xs && decide (0 ≤ k) && decide (k ≤ 1000000) && decide (xs.length * k.toNat ≤ lim) then some (.lst (List.replicate k.toNat xs).flatten) else none
  | .mul, .tup xs, .int k => if immutAll xs && !xs.isEmpty && decide (1 ≤ k) && decide (k ≤ 1000) && decide (xs.length ≤ 1000) then some (.tup (List.replicate k.toNat xs).flatten) else none
  | .add, .str x, .str y => if x.length + y.length ≤ lim then some (.str (x ++ y)) else none
  | _, _, _ => none
def D.isE : D → Bool | .dct [] => true | _ => false
def cmpop : Cop → D → D → Option Bool
  | .eq, .dct kvs, .dct [] => if kvs.all (fun p => p.1.kd == 0) then some kvs.isEmpty else none
  | .ne, .dct kvs, .dct [] => if kvs.all (fun p => p.1.kd == 0) then some (!kvs.isEmpty) else none
  | .eq, .lst xs, .lst [] => some xs.isEmpty
  | .ne, .lst xs, .lst [] => some (!xs.isEmpty)
  | .eq, x, y => if x.plain && y.plain then some (eqv x y) else none
  | .ne, x, y => if x.plain && y.plain then some (!eqv x y) else none
  | .lt, .int i, .int j => some (decide (i < j))
  | .le, .int i, .int j => some (decide (i ≤ j))
  | .gt, .int i, .int j => some (decide (j < i))
  | .ge, .int i, .int j => some (decide (j ≤ i))
  | .inn, x, .lst ys => if x.plain && ys.all D.plain then some (ys.any fun y => eqv y x) else none
  | .inn, x, .tup ys => if x.plain && ys.all D.plain then some (ys.any fun y => eqv y x) else none
  | .inn, k, .dct kvs => if keyOk kvs k then some (dget kvs k).isSome else none
  | .nin, x, .lst ys => if x.plain && ys.all D.plain then some (!(ys.any fun y => eqv y x)) else none
  | .nin, x, .tup ys => if x.plain && ys.all D.plain then some (!(ys.any fun y => eqv y x)) else none
  | .nin, k, .dct kvs => if keyOk kvs k then some (!(dget kvs k).isSome) else none
  | _, _, _ => none
def index : D → D → Option D
  | .lst xs, .int i => atZ xs i
  | .tup xs, .int i => atZ xs i
  | .ro ns, .int i => (atZ ns i).map .int
  | .dct kvs, k => if keyOk kvs k then dget kvs k else none
  | .fz kvs, k => if k.kd == 0 then dget kvs k else none
  | .rl ns, .int i => (atZ ns i).map .int
  | _, _ => none

def D.tyN : D → String
  | .non => "NoneType" | .bl _ => "bool" | .int _ => "int" | .str _ => "str" | .tup _ => "tuple" | .lst _ => "list" | .dct _ => "dict" | .ro _ => "ro" | .obj _ _ => "" | .fnc _ => "" | .ali => "" | .fz _ => "fz" | .rl _ => "list"
/-! built-ins -/
inductive Bf | len | tuple | list | max1 | max2 | min2 | sum1 | min1 | dict1 | sorted1 | int1
  deriving DecidableEq
inductive Ty | int | bool | tuple | list | str | dict
  deriving DecidableEq
def isiOne : D → Ty → Bool
  | .int _, .int => true | .bl _, .int => true | .bl _, .bool => true | .tup _, .tuple => true | .lst _, .list => true | .rl _, .list => true
  | .str _, .str => true | .dct _, .dict => true | _, _ => false
def isi (d : D) (ts : List Ty) : Bool := ts.any (isiOne d)
/-- isinstance is asked of plain data, dicts -/
def isiOk : D → Bool | .obj _ _ => false | .ro _ => false | .dct _ => false | .fnc _ => false | .ali => false | .fz _ => false | _ => true
def ints? : List D → Option (List Int)
  | [] => some []
  | .int i :: r => (ints? r).map (i :: ·)
  | _ :: _ => none
def items? : D → Option (List D)
  | .lst xs => some xs
  | .tup xs => some xs
  | _ => none
/-- what a walk gives -/
def walk? : D → Option (List D)
  | .fz kvs => some (kvs.map (·.1))
  | .rl ns => some (ns.map .int)
  | d => items? d
def imax : List Int → Option Int
  | [] => none
  | x :: r => some (r.foldl max x)
def imin : List Int → Option Int
  | [] => none
  | x :: r => some (r.foldl min x)
/-- (k, v) pairs that dict() takes: keys numbers or texts -/
def pairs? : List D → Option (List (D × D))
  | [] => some []
  | .tup [k, v] :: r => if k.kd == 0 && v.immut then (pairs? r).map ((k, v) :: ·) else none
  | _ :: _ => none
def dputs (kvs more : List (D × D)) : List (D × D) := more.foldl (fun acc p => dput acc p.1 p.2) kvs
/-- (number, tuple of numbers) of as many -/
def nrow? : List D → Option (List (Int × List Int))
  | [] => some []
  | .tup [.int m, .tup bs] :: r => (ints? bs).bind fun ns => (nrow? r).map ((m, ns) :: ·)
  | _ :: _ => none
def nlt (a b : Int × List Int) : Bool := if a.1 = b.1 then decide (a.2 < b.2) else decide (a.1 < b.1)
def nmin (x : Int × List Int) (xs : List (Int × List Int)) : Int × List Int := xs.foldl (fun a y => if nlt y a then y else a) x
def nrowD (x : Int × List Int) : D := .tup [.int x.1, .tup (x.2.map .int)]
def minT (xs : List D) : Option D := match nrow? xs with
    | some (x :: r) => some (nrowD (nmin x r))
    | _ => none
def isort (ns : List Int) : List Int := ns.mergeSort fun a b => decide (a ≤ b)
def bfun : Bf → List D → Option D
  | .len, [.lst xs] => some (.int xs.length)
  | .len, [.tup xs] => some (.int xs.length)
  | .len, [.ro ns] => some (.int ns.length)
  | .len, [.dct kvs] => some (.int kvs.length)
  | .len, [.fz kvs] => some (.int kvs.length)
  | .len, [.rl ns] => some (.int ns.length)
  | .len, [.str x] => if x.length ≤ lim then some (.int x.length) else none
  | .tuple, [.lst xs] => if immutAll xs then some (.tup xs) else none
  | .tuple, [.tup xs] => if immutAll xs then some (.tup xs) else none
  | .list, [.lst xs] => if immutAll xs then some (.lst xs) else none
  | .list, [.tup xs] => if immutAll xs then some (.lst xs) else none
  | .max1, [.lst xs] => (ints? xs).bind fun ns => (imax ns).map .int
  | .max1, [.tup xs] => (ints? xs).bind fun ns => (imax ns).map .int
  | .max1, [.dct kvs] => (ints? (kvs.map (·.1))).bind fun ns => (imax ns).map .int
  | .max2, [.int i, .int j] => some (.int (if j > i then j else i))
  | .min2, [.int i, .int j] => some (.int (if j < i then j else i))
  | .sum1, [.lst xs] => (ints? xs).map fun ns => .int ns.sum
  | .min1, [.lst xs] => match ints? xs with | some ns => (imin ns).map .int | none => minT xs
  | .list, [.dct kvs] => if kvs.all (fun p => p.1.kd == 0) || kvs.all (fun p => p.1.kd == 2) then some (.lst (kvs.map (·.1))) else none
  | .dict1, [.lst xs] => (pairs? xs).map fun ps => .dct (dputs [] ps)
  | .dict1, [.tup xs] => (pairs? xs).map fun ps => .dct (dputs [] ps)
  | .dict1, [.dct kvs] => if kvs.all (fun p => p.1.kd == 0 && p.2.immut) then some (.dct kvs) else none
  | .sorted1, [.lst xs] => (ints? xs).map fun ns => .lst ((isort ns).map .int)
  | .sorted1, [.dct kvs] => if kvs.length < 64 then (ints? (kvs.map (·.1))).map fun ns => .lst ((isort ns).map .int) else none
  | .int1, [.bl b] => some (.int (if b then 1 else 0))
  | .int1, [.int i] => some (.int i)
  | _, _ => none
/-! slices -/
def sIx (n d : Nat) : Option Int → Nat
  | none => d
  | some v => if v < 0 then (v + (n : Int)).toNat else min v.toNat n
def cutL {α : Type} (xs : List α) (lo hi : Option Int) : List α := (xs.drop (sIx xs.length 0 lo)).take (sIx xs.length xs.length hi - sIx xs.length 0 lo)
def slice : D → Option Int → Option Int → Option D
  | .lst xs, lo, hi => if immutAll xs then some (.lst (cutL xs lo hi)) else none
  | .tup xs, lo, hi => if immutAll xs then some (.tup (cutL xs lo hi)) else none
  | _, _, _ => none
/-- what is cut, the parts that are written -/
def sliceOf : Bool → Bool → List D → Option D
  | false, false, [x] => slice x none none
  | true, false, [x, .int a] => slice x (some a) none
  | false, true, [x, .int b] => slice x none (some b)
  | true, true, [x, .int a, .int b] => slice x (some a) (some b)
  | _, _, _ => none
/-! ranges as lists; sets that are counted, or sorted -/
def smallI (i : Int) : Bool := decide (-1000000 ≤ i) && decide (i ≤ 1000000)
def rangeD (lo n : Int) : List D := (List.range (n - lo).toNat).map fun (k : Nat) => D.int (lo + (k : Int))
/-- range(lo, n, c) -/
def rangeS (lo n : Int) (c : Nat) : List D := (List.range (if lo < n then ((n - lo - 1) / c + 1).toNat else 0)).map fun (k : Nat) => D.int (lo + (k : Int) * c)
def lrngOf (tp : Bool) : Bool → List D → Option D
  | false, [.int n] => if smallI n then some (if tp then .tup (rangeD 0 n) else .lst (rangeD 0 n)) else none
  | true, [.int a, .int n] => if smallI a && smallI n then some (if tp then .tup (rangeD a n) else .lst (rangeD a n)) else none
  | _, _ => none

/-! methods that read, methods that change -/
inductive Mr | index | get
  deriving DecidableEq
def mread : Mr → D → List D → Option D
  | .index, .lst xs, [y] => if y.plain && xs.all D.plain then (xs.findIdx? fun x => eqv x y).map fun (j : Nat) => D.int (j : Int) else none
  | .index, .tup xs, [y] => if y.plain && xs.all D.plain then (xs.findIdx? fun x => eqv x y).map fun (j : Nat) => D.int (j : Int) else none
  | .get, .dct kvs, [k] => if keyOk kvs k && k.kd == 0 then (if ((dget kvs k).getD .non).immut then some ((dget kvs k).getD .non) else none) else none
  | _, _, _ => none
/-- what has the method -/
def mrOk : Mr → D → Bool
  | .index, .lst _ => true | .index, .tup _ => true | .get, .dct _ => true | _, _ => false
/-- keys are numbers or texts, values can't be changed -/
def flatD (kvs : List (D × D)) : Bool := kvs.all fun p => p.1.kd == 0 && p.2.immut
/-- what is never changed from now on -/
def frzD : D → Option D
  | .dct kvs => if flatD kvs then some (.fz kvs) else none
  | .lst xs => (ints? xs).map .rl
  | _ => none
inductive Mm | append | pop1 | insert | extend | update
  deriving DecidableEq
def mmOk : Mm → D → Bool
  | .append, .lst _ => true | .pop1, .lst _ => true | .insert, .lst _ => true | .extend, .lst _ => true | .pop1, .dct _ => true | .update, .dct _ => true | _, _ => false
/-- (what it gives, what is left) -/
def mchg : Mm → D → List D → Option (D × D)
  | .append, .lst xs, [y] => if xs.length < lim then some (.non, .lst (xs ++ [y])) else none
  | .pop1, .lst xs, [.int i] => if xs.length ≤ lim then (ixZ xs.length i).bind fun k => (xs[k]?).map fun y => (y, .lst (xs.eraseIdx k)) else none
  | .insert, .lst xs, [.int i, y] => if xs.length < lim ∧ 0 ≤ i ∧ i ≤ 1000000 then some (.non, .lst (xs.take i.toNat ++ [y] ++ xs.drop i.toNat)) else none
  | .extend, .lst xs, [.lst ys] => if xs.length + ys.length ≤ lim then some (.non, .lst (xs ++ ys)) else none
  | .pop1, .dct kvs, [k] => if k.kd == 0 && flatD kvs then (dget kvs k).map fun v => (v, .dct (ddrop kvs k)) else none
  | .update, .dct xs, [.dct ys] => if flatD xs && flatD ys && decide (xs.length + ys.length ≤ lim) then some (.non, .dct (dputs xs ys)) else none
  | _, _, _ => none
/-- o[k] = v -/
def mset : D → D → D → Option D
  | .lst xs, .int i, v => (ixZ xs.length i).map fun k => .lst (xs.set k v)
  | .dct kvs, k, v => if keyOk kvs k && decide (kvs.length < lim) then some (.dct (dput kvs k v)) else none
  | _, _, _ => none

/-- methods go by the names of their class and their own, a point between -/
def isM (f : String) : Bool := f.toList.any (· == '.')
def spl (f : String) : String × String := (String.ofList (f.toList.takeWhile (· != '.')), String.ofList ((f.toList.dropWhile (· != '.')).drop 1))
/-! objects: the attributes that instances of the program's classes have -/
def atsOf (c : String) : List String :=
  if c = "Pressed" then ["ways", "letters", "finals", "classes", "many", "faults", "own", "bases", "cells"]
  else if c = "Finder" then ["letters", "words", "rooms", "starts", "faults"]
  else []
def ofld (fs : List (String × D)) (f : String) : Option D := (fs.find? fun p => p.1 == f).map (·.2)
def oput (f : String) (v : D) : List (String × D) → List (String × D)
  | [] => [(f, v)]
  | (g, x) :: r => if g = f then (g, v) :: r else (g, x) :: oput f v r
/-! ### slots: what is one's own (it may be changed), what is looked at alone -/
abbrev DS := List (Option D)
def peek (ρ st : DS) (i : Nat) : Option D := match st[i]? with
  | some (some d) => some d
  | _ => (ρ[i]?).join
def peeks (ρ st : DS) : List Nat → Option (List D)
  | [] => some []
  | i :: is => (peek ρ st i).bind fun d => (peeks ρ st is).map (d :: ·)
/-- for a while a slot is only looked at -/
def lock (ρ st : DS) : Option Nat → DS
  | none => ρ
  | some i => match st[i]? with
    | some (some d) => ρ.set i (some d)
    | _ => ρ
def lockAll (ρ st : DS) : DS := List.zipWith (fun r s => match s with | some d => some d | none => r) ρ st
def hide (is : List Nat) (st : DS) : DS := is.foldr (fun i s => s.set i none) st
/-- as it was ahead -/
def restore (is : List Nat) (st st' : DS) : DS := is.foldr (fun i s => s.set i (st[i]?.join)) st'

/-- each once, as first met -/
def ddI (ns : List Int) : List Int := ns.foldl (fun acc x => if acc.any (· == x) then acc else acc ++ [x]) []
/-- a tuple of whole numbers and None; none of them twice -/
def isRow0 : D → Bool
  | .tup xs => xs.all fun | .int _ => true | .non => true | _ => false
  | _ => false
def noTwo : List D → Bool
  | [] => true
  | x :: r => (r.all fun y => !eqv y x) && noTwo r
/-- len(set(..)) -/
def lenSet : D → Option D
  | .lst xs => match ints? xs with | some ns => if ns.length ≤ 4000 then some (.int ((ddI ns).length : Nat)) else none | none => if xs.all isRow0 && noTwo xs && decide (xs.length < 64) then some (.int (xs.length : Nat)) else none
  | .tup xs => match ints? xs with | some ns => if ns.length ≤ 1000 then some (.int ((ddI ns).length : Nat)) else none | none => none
  | _ => none
/-- sorted(set(..)) -/
def sortSet : D → Option D
  | .lst xs => match ints? xs with | some ns => if ns.length < 64 then some (.lst ((isort (ddI ns)).map .int)) else none | none => none
  | _ => none
/-- list(reversed(..)) -/
def revL : D → Option D
  | .lst xs => if immutAll xs then some (.lst xs.reverse) else none
  | _ => none
/-! ### the language -/
inductive K0 | non | bl (b : Bool) | int (i : Int) | str (s : String)
  deriving DecidableEq
def K0.d : K0 → D
  | .non => .non | .bl b => .bl b | .int i => .int i | .str s => .str (Str.ofString s)
inductive Tg | nm (i : Nat) | tp (is : List Nat)
  deriving DecidableEq
mutual
inductive E where
  | v (i : Nat)
  | c (k : K0)
  | g (x : String) (k : K0)
  | bin (op : Bop) (es : Es)
  | neg (a : E)
  | cmp (op : Cop) (es : Es)
  | chain (o1 o2 : Cop) (a b c : E)
  | isN (neg : Bool) (es : Es)
  | and (a b : E) | or (a b : E) | not (a : E)
  | ite (c a b : E)
  | tup (es : Es) | lst (es : Es) | dct0
  | idx (es : Es)
  | isi (ts : List Ty) (es : Es)
  | bf (f : Bf) (es : Es)
  | mr (m : Mr) (i : Nat) (es : Es)
  | mm (m : Mm) (i : Nat) (es : Es)
  | fn (f : String) (es : Es)
  | comp (elt : E) (tg : Tg) (it : It) (ifs : Es) (own : List (String × Nat))
  | slc (l h : Bool) (es : Es)
  | lrng (tp two : Bool) (es : Es)
  | dct1 (k v : E)
  | dctT (k v : E)
  | mmd (i : Nat) (k : Int) (c : K0)
  | lenS (es : Es)
  | sortS (es : Es)
  | lrev (es : Es)
  | ap (i : Nat) (es : Es)
  | tupM (i : Nat) (es : Es)
  | idxT (e k : E)
  | frz (e : E)
  | av (i : Nat) (f : String)
  | mth (k c m : String) (i : Nat) (es : Es)
  | new (k c : String) (es : Es)
  | mrA (m : Mr) (i : Nat) (f : String) (es : Es)
/-- operands: a value, a name that is looked at, a place that is looked at -/
inductive Es where
  | nil | cons (e : E) (es : Es) | nm (i : Nat) (es : Es) | pl (xs : Es) (es : Es) | tp (xs : Es) (es : Es) | at (i : Nat) (f : String) (es : Es)
inductive It where
  | rng1 (a : E) | rng2 (a b : E) | rng3 (a b : E) (c : Nat) | seq (e : E) | seqN (i : Nat) | enum (e : E) | enumN (i : Nat) | seqA (i : Nat) (f : String)
end
/-- what is made of a lambda: it only looks -/
inductive E2 where
  | minK (e : E) (j : Nat) (key : E)
  | sortR (b : E) (j : Nat) (key : E)
  | act (g : String) (js : List Nat) (key : E) (is : List Nat)
  | iteK (c : E) (a : E2) (b : E)
inductive S where
  | asg (i : Nat) (e : E)
  | unp (is : List Nat) (e : E)
  | par (is : List Nat) (es : Es)
  | sto (i : Nat) (k e : E)
  | ex (e : E)
  | ret (e : E) | retN
  | ite (c : E) (a b : List S)
  | for_ (tg : Tg) (it : It) (body : List S)
  | whl (c : E) (body : List S)
  | raise | pass | brk | cont
  | unpS (i o k : Nat) (e : E)
  | asg2 (i : Nat) (e : E2)
  | ret2 (e : E2)
  | for2 (tg : Tg) (e : E2) (body : List S)
  | sto2 (i : Nat) (k1 : E) (k2 : K0) (e : E)
  | swp (i : Nat) (k1 k2 e : E)
  | sta (i : Nat) (f : String) (e : E)

abbrev Run := List D → (D → List D → Prop) → Prop
/-- what a def is worth: its arguments, what is wanted of its answer and of what stands in its parameters behind it -/
structure Spec where
  /-- which parameters it may change -/
  io : List Bool
  run : List D → (D → List D → Prop) → Prop
  /-- it makes no lambda, nor do those that it calls -/
  pure : Bool := false
  /-- the function that it stands for, if it is what is handed in -/
  id : Option Nat := none
  /-- it calls what is handed in first: of so many arguments, worth so much -/
  ho : Option (Nat × (Nat → Run → Run)) := none
abbrev Phi := String → Option Spec

def setTg (st : DS) : Tg → D → (DS → Prop) → Prop
  | .nm i, x, Q => Q (st.set i (some x))
  | .tp is, .tup xs, Q => is.length = xs.length ∧ Q ((is.zip xs).foldl (fun s p => s.set p.1 (some p.2)) st)
  | .tp _, _, _ => False
/-- the slots that a call may change, with what stands in them behind it -/
def putIO : List Bool → Es → List D → DS → DS
  | true :: bs, .nm i es, d :: ds, st => putIO bs es ds (st.set i (some d))
  | _ :: bs, .nm _ es, _ :: ds, st => putIO bs es ds st
  | _ :: bs, .cons _ es, _ :: ds, st => putIO bs es ds st
  | _, _, _, st => st
/-- the slots of the io arguments, those of the other names; no places -/
def ioSlots : List Bool → Es → Option (List Nat × List Nat)
  | [], .nil => some ([], [])
  | true :: bs, .nm i es => (ioSlots bs es).map fun p => (i :: p.1, p.2)
  | false :: bs, .nm i es => (ioSlots bs es).map fun p => (p.1, i :: p.2)
  | false :: bs, .cons _ es => ioSlots bs es
  | _, _ => none
def isRw (st : DS) (i : Nat) : Bool := (st[i]?).join.isSome
def enumD (xs : List D) : List D := xs.mapIdx fun (k : Nat) x => D.tup [.int (k : Int), x]
def Tg.slots : Tg → List Nat
  | .nm i => [i] | .tp is => is
/-- the turns of a comprehension: we, wt at the names' data -/
def wComp (we : DS → DS → (D → DS → Prop) → Prop) (wt : DS → DS → (Bool → DS → Prop) → Prop) (tg : Tg) (ρ : DS) : List D → List D → DS → (List D → DS → Prop) → Prop
  | [], acc, st, Q => Q acc st
  | x :: xs, acc, st, Q => setTg ρ tg x fun ρ1 => wt ρ1 st fun b st2 =>
      if b then we ρ1 st2 fun y st3 => wComp we wt tg ρ xs (acc ++ [y]) (hide tg.slots st3) Q else wComp we wt tg ρ xs acc (hide tg.slots st2) Q

mutual
/-- e as a value: a thing that can be changed is moved out of its name -/
def wE (Φ : Phi) : E → DS → DS → (D → DS → Prop) → Prop
  | .v i, ρ, st, Q => match st[i]? with
    | some (some d) => if d.immut then Q d st else Q d (st.set i none)
    | _ => match ρ[i]? with
      | some (some d) => if d.immut then Q d st else Q .ali st
      | _ => False
  | .c k, _, st, Q => Q k.d st
  | .g _ k, _, st, Q => Q k.d st
  | .bin op es, ρ, st, Q => wAs Φ es ρ st fun ds st1 => match ds with
    | [x, y] => match binop op x y with | some z => Q z st1 | none => False
    | _ => False
  | .neg a, ρ, st, Q => wE Φ a ρ st fun x st1 => match x with | .int i => Q (.int (-i)) st1 | _ => False
  | .cmp op es, ρ, st, Q => wAs Φ es ρ st fun ds st1 => match ds with
    | [x, y] => match cmpop op x y with | some z => Q (.bl z) st1 | none => False
    | _ => False
  | .chain o1 o2 a b c, ρ, st, Q => wE Φ a ρ st fun x st1 => wE Φ b ρ st1 fun y st2 => match x, y with
    | .int i, .int j => match cmpop o1 (.int i) (.int j) with
      | some true => wE Φ c ρ st2 fun z st3 => match z with
        | .int k => match cmpop o2 (.int j) (.int k) with | some r => Q (.bl r) st3 | none => False
        | _ => False
      | some false => Q (.bl false) st2
      | none => False
    | _, _ => False
  | .lenS es, ρ, st, Q => wAs Φ es ρ st fun ds st1 => match ds with
    | [x] => match lenSet x with | some z => Q z st1 | none => False
    | _ => False
  | .sortS es, ρ, st, Q => wAs Φ es ρ st fun ds st1 => match ds with
    | [x] => match sortSet x with | some z => Q z st1 | none => False
    | _ => False
  | .lrev es, ρ, st, Q => wAs Φ es ρ st fun ds st1 => match ds with
    | [x] => match revL x with | some z => Q z st1 | none => False
    | _ => False
  | .ap i es, ρ, st, Q => match Φ "@" with
    | some sp => match peek ρ st i with
      | some (.fnc f) => sp.id = some f ∧ sp.io.any id = false ∧ wAs Φ es ρ st fun ds st1 => sp.io.length = ds.length ∧ sp.run ds fun r ds' => ds' = ds ∧ Q r st1
      | _ => False
    | none => False
  | .isN neg es, ρ, st, Q => wAs Φ es ρ st fun ds st1 => match ds with
    | [x] => Q (.bl (match x with | .non => !neg | _ => neg)) st1
    | _ => False
  | .and a b, ρ, st, Q => wE Φ a ρ st fun x st1 => match x with
    | .bl true => wE Φ b ρ st1 Q
    | .bl false => Q (.bl false) st1
    | _ => False
  | .or a b, ρ, st, Q => wE Φ a ρ st fun x st1 => match x with
    | .bl true => Q (.bl true) st1
    | .bl false => wE Φ b ρ st1 Q
    | _ => False
  | .not a, ρ, st, Q => wE Φ a ρ st fun x st1 => match x with
    | .bl b => Q (.bl (!b)) st1
    | _ => False
  | .ite c a b, ρ, st, Q => wE Φ c ρ st fun x st1 => match x with
    | .bl true => wE Φ a ρ st1 Q
    | .bl false => wE Φ b ρ st1 Q
    | _ => False
  | .tup es, ρ, st, Q => wVs Φ es ρ st fun ds st1 => ds.length ≤ lim ∧ Q (.tup ds) st1
  | .tupM i es, ρ, st, Q => isRw st i = true ∧ wVs Φ es ρ st fun ds st1 => match st1[i]? with
    | some (some d) => ds.length < lim ∧ Q (.tup (d :: ds)) (st1.set i none)
    | _ => False
  | .lst es, ρ, st, Q => wVs Φ es ρ st fun ds st1 => ds.length ≤ lim ∧ Q (.lst ds) st1
  | .dct0, _, st, Q => Q (.dct []) st
  | .idx es, ρ, st, Q => wAs Φ es ρ st fun ds st1 => match ds with
    | [x, y] => match index x y with | some z => z.immut = true ∧ Q z st1 | none => False
    | _ => False
  | .idxT e k, ρ, st, Q => wE Φ e ρ st fun d st1 => wE Φ k ρ st1 fun kd st2 => match d, kd with
    | .tup xs, .int i => match atZ xs i with | some z => Q z st2 | none => False
    | _, _ => False
  | .isi ts es, ρ, st, Q => wAs Φ es ρ st fun ds st1 => match ds with
    | [x] => isiOk x = true ∧ Q (.bl (Dl.isi x ts)) st1
    | _ => False
  | .bf f es, ρ, st, Q => wAs Φ es ρ st fun ds st1 => match bfun f ds with | some z => Q z st1 | none => False
  | .mr m i es, ρ, st, Q => match peek ρ st i with
    | some d0 => mrOk m d0 = true ∧ wAs Φ es ρ st fun ys st1 => match peek ρ st1 i with
      | some x => x.tyN = d0.tyN ∧ match mread m x ys with | some z => z.immut = true ∧ Q z st1 | none => False
      | none => False
    | none => False
  | .mm m i es, ρ, st, Q => match st[i]? with
    | some (some d0) => mmOk m d0 = true ∧ wVs Φ es ρ st fun ys st1 => match st1[i]? with
      | some (some d) => d.tyN = d0.tyN ∧ match mchg m d ys with | some (r, d') => Q r (st1.set i (some d')) | none => False
      | _ => False
    | _ => False
  | .fn f es, ρ, st, Q => match Φ f with
    | some sp => match sp.io.any id with
      | false => wAs Φ es ρ st fun ds st1 => sp.io.length = ds.length ∧ sp.run ds fun r ds' => ds' = ds ∧ Q r st1
      | true => match ioSlots sp.io es with
        | some (is, js) => is.Nodup ∧ (∀ i ∈ js, i ∉ is) ∧ wAs Φ es ρ st fun ds st1 => (∀ i ∈ is, isRw st1 i = true) ∧
          sp.run ds fun r ds' => ds'.length = ds.length ∧ Q r (putIO sp.io es ds' st1)
        | none => False
    | none => False
  | .comp elt tg it ifs own, ρ, st, Q => wIt Φ it ρ st fun xs root st1 => xs.length ≤ lim ∧
      wComp (wE Φ elt) (wT Φ ifs) tg (hide (own.map (·.2)) (lock ρ st1 root)) xs [] (hide (root.toList ++ own.map (·.2)) st1) fun ys st2 =>
        Q (.lst ys) (restore (root.toList ++ own.map (·.2)) st1 st2)
  | .slc l h es, ρ, st, Q => wAs Φ es ρ st fun ds st1 => match sliceOf l h ds with | some z => Q z st1 | none => False
  | .lrng tp two es, ρ, st, Q => wAs Φ es ρ st fun ds st1 => match lrngOf tp two ds with | some z => Q z st1 | none => False
  | .dct1 k v, ρ, st, Q => wE Φ k ρ st fun kd st1 => wE Φ v ρ st1 fun vd st2 => keyOk [] kd = true ∧ kd.kd = 0 ∧ Q (.dct [(kd, vd)]) st2
  | .dctT k v, ρ, st, Q => wE Φ k ρ st fun kd st1 => wE Φ v ρ st1 fun vd st2 => keyOk [] kd = true ∧ kd.kd = 2 ∧ Q (.dct [(kd, vd)]) st2
  | .av i f, ρ, st, Q => match peek ρ st i with
    | some (.obj _ fs) => match ofld fs f with | some z => z.immut = true ∧ Q z st | none => False
    | _ => False
  | .mth k c m i es, ρ, st, Q => match peek ρ st i with
    | some (.obj c' _) => c' = c ∧ m ∉ atsOf c ∧ match Φ k with
      | some sp => match sp.io.any id with
        | false => wAs Φ es ρ st fun ys st1 => match peek ρ st1 i with
          | some x => sp.io.length = (x :: ys).length ∧ sp.run (x :: ys) fun r ds' => ds' = x :: ys ∧ Q r st1
          | none => False
        | true => match ioSlots sp.io (.nm i es) with
          | some (is, js) => is.Nodup ∧ (∀ i ∈ js, i ∉ is) ∧ wAs Φ es ρ st fun ys st1 => match peek ρ st1 i with
            | some x => (∀ i ∈ is, isRw st1 i = true) ∧ sp.run (x :: ys) fun r ds' => ds'.length = (x :: ys).length ∧ Q r (putIO sp.io (.nm i es) ds' st1)
            | none => False
          | none => False
      | none => False
    | _ => False
  | .mrA m i f es, ρ, st, Q => match peek ρ st i with
    | some (.obj _ fs) => match ofld fs f with
      | some d0 => mrOk m d0 = true ∧ wAs Φ es (lockAll ρ st) (st.map fun _ => none) fun ys _ => match mread m d0 ys with | some z => z.immut = true ∧ Q z st | none => False
      | none => False
    | _ => False
  | .new k c es, ρ, st, Q => match Φ k with
    | some sp => wAs Φ es ρ st fun ys st1 => sp.io = true :: List.replicate ys.length false ∧ sp.run (.obj c [] :: ys) fun r ds' => r = .non ∧ ∃ o, ds' = o :: ys ∧ Q o st1
    | none => False
  | .frz e, ρ, st, Q => wE Φ e ρ st fun d st1 => match frzD d with | some z => Q z st1 | none => False
  | .mmd i k _, _, st, Q => match st[i]? with
    | some (some (.tup xs)) => match atZ xs k with
      | some (.lst l) => l.length < lim ∧ Q .non (st.set i none)
      | _ => False
    | _ => False
/-- the operands of a reading: names and places are looked at, not moved -/
def wAs (Φ : Phi) : Es → DS → DS → (List D → DS → Prop) → Prop
  | .nil, _, st, Q => Q [] st
  | .cons e es, ρ, st, Q => wE Φ e ρ st fun x st1 => wAs Φ es ρ st1 fun ys st2 => Q (x :: ys) st2
  | .nm i es, ρ, st, Q => (peek ρ st i).isSome = true ∧ wAs Φ es ρ st fun ys st1 => match peek ρ st1 i with | some x => Q (x :: ys) st1 | none => False
  | .pl xs es, ρ, st, Q => wAs Φ xs ρ st fun ds st1 => match ds with
      | [x, y] => match index x y with
        | some z => if z.immut then wAs Φ es ρ st1 fun ys st2 => Q (z :: ys) st2
          else wAs Φ es (lockAll ρ st1) (st1.map fun _ => none) fun ys _ => Q (z :: ys) st1
        | none => False
      | _ => False
  | .tp xs es, ρ, st, Q => wAs Φ xs ρ st fun ds st1 => ds.length ≤ lim ∧ wAs Φ es (lockAll ρ st1) (st1.map fun _ => none) fun ys _ => Q (.tup ds :: ys) st1
  | .at i f es, ρ, st, Q => match peek ρ st i with
    | some (.obj _ fs) => match ofld fs f with
      | some z => if z.immut then wAs Φ es ρ st fun ys st2 => Q (z :: ys) st2
        else wAs Φ es (lockAll ρ st) (st.map fun _ => none) fun ys _ => Q (z :: ys) st
      | none => False
    | _ => False
/-- values, one behind the other -/
def wVs (Φ : Phi) : Es → DS → DS → (List D → DS → Prop) → Prop
  | .nil, _, st, Q => Q [] st
  | .cons e es, ρ, st, Q => wE Φ e ρ st fun x st1 => wVs Φ es ρ st1 fun ys st2 => Q (x :: ys) st2
  | .nm _ _, _, _, _ => False
  | .pl _ _, _, _, _ => False
  | .tp _ _, _, _, _ => False
  | .at _ _ _, _, _, _ => False
/-- tests, all of them -/
def wT (Φ : Phi) : Es → DS → DS → (Bool → DS → Prop) → Prop
  | .nil, _, st, Q => Q true st
  | .cons e es, ρ, st, Q => wE Φ e ρ st fun x st1 => match x with
    | .bl true => wT Φ es ρ st1 Q
    | .bl false => Q false st1
    | _ => False
  | .nm _ _, _, _, _ => False
  | .pl _ _, _, _, _ => False
  | .tp _ _, _, _, _ => False
  | .at _ _ _, _, _, _ => False
/-- what is walked, the name that it stands in, the state -/
def wIt (Φ : Phi) : It → DS → DS → (List D → Option Nat → DS → Prop) → Prop
  | .rng1 a, ρ, st, Q => wE Φ a ρ st fun x st1 => match x with
    | .int n => smallI n = true ∧ Q (rangeD 0 n) none st1
    | _ => False
  | .rng2 a b, ρ, st, Q => wE Φ a ρ st fun x st1 => wE Φ b ρ st1 fun y st2 => match x, y with
    | .int lo, .int n => smallI lo = true ∧ smallI n = true ∧ Q (rangeD lo n) none st2
    | _, _ => False
  | .rng3 a b c, ρ, st, Q => wE Φ a ρ st fun x st1 => wE Φ b ρ st1 fun y st2 => match x, y with
    | .int lo, .int n => smallI lo = true ∧ smallI n = true ∧ 0 < c ∧ c ≤ 1000 ∧ Q (rangeS lo n c) none st2
    | _, _ => False
  | .seqN i, ρ, st, Q => match (peek ρ st i).bind walk? with | some xs => Q xs (some i) st | none => False
  | .seq e, ρ, st, Q => wE Φ e ρ st fun d st1 => match walk? d with | some xs => Q xs none st1 | none => False
  | .seqA i f, ρ, st, Q => match peek ρ st i with
    | some (.obj _ fs) => match (ofld fs f).bind walk? with | some xs => Q xs (some i) st | none => False
    | _ => False
  | .enumN i, ρ, st, Q => match (peek ρ st i).bind items? with | some xs => Q (enumD xs) (some i) st | none => False
  | .enum e, ρ, st, Q => wE Φ e ρ st fun d st1 => match items? d with | some xs => Q (enumD xs) none st1 | none => False
end

/-! ### lambdas -/
def setAll (st : DS) (is : List Nat) (ds : List D) : DS := (is.zip ds).foldl (fun s p => s.set p.1 (some p.2)) st
def pairD (k : Int × Int) : D := .tup [.int k.1, .int k.2]
def pleB (a b : Int × Int) : Bool := decide (a.1 < b.1 ∨ (a.1 = b.1 ∧ a.2 ≤ b.2))
/-- the first place of the least -/
def argm (kf : Nat → Int) : Nat → Nat
  | 0 => 0
  | k + 1 => if kf (k + 1) < kf (argm kf k) then k + 1 else argm kf k
def lamP (Φ : Phi) : Phi := fun f => match Φ f with | some sp => if sp.pure then some sp else none | none => none
def wE2 (Φ : Phi) : E2 → DS → DS → (D → DS → Prop) → Prop
  | .minK e j key, ρ, st, Q => wE Φ e ρ st fun x st1 => match x with
    | .lst xs => immutAll xs = true ∧ ∃ kf : Nat → Int, (∀ (i : Nat) x, xs[i]? = some x → wE (lamP Φ) key ((lockAll ρ st1).set j (some x)) (st1.map fun _ => none) fun d _ => d = .int (kf i)) ∧
      ∃ x, xs[argm kf (xs.length - 1)]? = some x ∧ Q x st1
    | _ => False
  | .sortR b j key, ρ, st, Q => wE Φ b ρ st fun x st1 => match x with
    | .int n => smallI n = true ∧ ∃ kf : Nat → Int × Int, (∀ i : Nat, i < n.toNat → wE (lamP Φ) key ((lockAll ρ st1).set j (some (.int (i : Int)))) (st1.map fun _ => none) fun d _ => d = pairD (kf i)) ∧
      Q (.lst (((List.range n.toNat).mergeSort fun a b => pleB (kf a) (kf b)).map fun (i : Nat) => D.int (i : Int))) st1
    | _ => False
  | .act g js key is, ρ, st, Q => match Φ g with
    | some sp => match sp.ho with
      | some (n, h) => js.length = n ∧ match peeks ρ st is with
        | some ds => sp.io = List.replicate (ds.length + 1) false ∧ ∃ step : Run, (∀ as Q', step as Q' → as.length = n ∧ immutAll as = true ∧ wE (lamP Φ) key (setAll (lockAll ρ st) js as) (st.map fun _ => none) fun d _ => Q' d as) ∧
          ∀ f, h f step (.fnc f :: ds) fun r ds' => ds' = .fnc f :: ds ∧ Q r st
        | none => False
      | none => False
    | none => False

  | .iteK c a b, ρ, st, Q => wE Φ c ρ st fun x st1 => match x with
    | .bl true => wE2 Φ a ρ st1 Q
    | .bl false => wE Φ b ρ st1 Q
    | _ => False

/-! ### statements -/
structure Ends where
  nx : DS → Prop
  rt : D → DS → Prop
  bk : DS → Prop := fun _ => False
  ct : DS → Prop := fun _ => False
/-- a loop's name: one's own if nothing in it can be changed, else looked at alone -/
def bindF (ρ st : DS) (i : Nat) (x : D) (Q : DS → DS → Prop) : Prop := if x.immut then Q (ρ.set i none) (st.set i (some x)) else Q (ρ.set i (some x)) (st.set i none)
def bindFs : List Nat → List D → DS → DS → (DS → DS → Prop) → Prop
  | [], [], ρ, st, Q => Q ρ st
  | i :: is, x :: xs, ρ, st, Q => bindF ρ st i x fun ρ1 st1 => bindFs is xs ρ1 st1 Q
  | _, _, _, _, _ => False
def setTgF (ρ st : DS) : Tg → D → (DS → DS → Prop) → Prop
  | .nm i, x, Q => bindF ρ st i x Q
  | .tp is, .tup xs, Q => bindFs is xs ρ st Q
  | .tp _, _, _ => False
/-- the turns of a for -/
def wFor (tg : Tg) (wb : DS → Ends → DS → Prop) (D0 : Ends) (ρ : DS) : List D → DS → Prop
  | [], st => D0.nx st
  | x :: xs, st => setTgF ρ st tg x fun ρ1 st1 => wb ρ1 { nx := wFor tg wb D0 ρ xs, ct := wFor tg wb D0 ρ xs, bk := D0.nx, rt := D0.rt } st1
mutual
def wS (Φ : Phi) : S → DS → Ends → DS → Prop
  | .asg i e, ρ, N, st => wE Φ e ρ st fun d st1 => N.nx (st1.set i (some d))
  | .unp is e, ρ, N, st => wE Φ e ρ st fun d st1 => match d with
    | .tup xs => is.length = xs.length ∧ N.nx (setAll st1 is xs)
    | _ => False
  | .par is es, ρ, N, st => wVs Φ es ρ st fun ds st1 => is.length = ds.length ∧ N.nx (setAll st1 is ds)
  | .sto i k e, ρ, N, st => wE Φ e ρ st fun d st1 => isRw st1 i = true ∧ wE Φ k ρ st1 fun kd st2 => kd.immut = true ∧ match st2[i]? with
    | some (some o) => match mset o kd d with | some o' => N.nx (st2.set i (some o')) | none => False
    | _ => False
  | .ex e, ρ, N, st => wE Φ e ρ st fun _ st1 => N.nx st1
  | .ret e, ρ, N, st => wE Φ e ρ st N.rt
  | .retN, _, N, st => N.rt .non st
  | .ite c a b, ρ, N, st => wE Φ c ρ st fun x st1 => match x with
    | .bl true => wSs Φ a ρ N st1
    | .bl false => wSs Φ b ρ N st1
    | _ => False
  | .for_ tg it body, ρ, N, st => wIt Φ it ρ st fun xs root st1 => xs.length ≤ lim ∧
      wFor tg (wSs Φ body) { nx := fun st2 => N.nx (restore root.toList st1 st2), rt := fun d st2 => N.rt d (restore root.toList st1 st2) } (lock ρ st1 root) xs (hide root.toList st1)
  | .whl c body, ρ, N, st => ∃ W : Nat → DS → Prop, (∃ m, W m st) ∧ ∀ m st, W m st → wE Φ c ρ st fun x st1 => match x with
    | .bl true => wSs Φ body ρ { nx := fun st2 => ∃ m', m' < m ∧ W m' st2, ct := fun st2 => ∃ m', m' < m ∧ W m' st2, bk := N.nx, rt := N.rt } st1
    | .bl false => N.nx st1
    | _ => False
  | .raise, _, _, _ => False
  | .pass, _, N, st => N.nx st
  | .brk, _, N, st => N.bk st
  | .cont, _, N, st => N.ct st
  | .unpS i o k e, ρ, N, st => wE Φ e ρ st fun d st1 => match d with
    | .tup [a, b] => a.immut = true ∧ b.immut = true ∧ i ≠ o ∧ match st1[o]? with
      | some (some od) => match peek ρ (st1.set i (some a)) k with
        | some kd => kd.immut = true ∧ match mset od kd b with | some od' => N.nx ((st1.set i (some a)).set o (some od')) | none => False
        | none => False
      | _ => False
    | _ => False
  | .asg2 i e, ρ, N, st => wE2 Φ e ρ st fun d st1 => N.nx (st1.set i (some d))
  | .ret2 e, ρ, N, st => wE2 Φ e ρ st N.rt
  | .for2 tg e body, ρ, N, st => wE2 Φ e ρ st fun d st1 => match items? d with
    | some xs => xs.length ≤ lim ∧ wFor tg (wSs Φ body) { nx := fun st2 => N.nx (restore (none : Option Nat).toList st1 st2), rt := fun d st2 => N.rt d (restore (none : Option Nat).toList st1 st2) } (lock ρ st1 none) xs (hide (none : Option Nat).toList st1)
    | none => False
  | .sto2 i k1 k2 e, ρ, N, st => wE Φ e ρ st fun d st1 => isRw st1 i = true ∧ d.immut = true ∧ wE Φ k1 ρ st1 fun kd st2 => match st2[i]?, kd with
    | some (some (.lst xs)), .int z => match ixZ xs.length z with
      | some j => match xs[j]? with
        | some o1 => match mset o1 k2.d d with | some o1' => N.nx (st2.set i (some (.lst (xs.set j o1')))) | none => False
        | none => False
      | none => False
    | _, _ => False
  | .sta i f e, ρ, N, st => wE Φ e ρ st fun d st1 => match st1[i]? with
    | some (some (.obj c fs)) => f ∈ atsOf c ∧ fs.length < 100 ∧ N.nx (st1.set i (some (.obj c (oput f d fs))))
    | _ => False
  | .swp i k1 k2 e, ρ, N, st => wE Φ e ρ st fun d st1 => match d with
    | .tup [a, b] => a.immut = true ∧ b.immut = true ∧ isRw st1 i = true ∧ wE Φ k1 ρ st1 fun kd1 st2 => kd1.immut = true ∧ match st2[i]? with
      | some (some o) => match mset o kd1 a with
        | some o' => wE Φ k2 ρ (st2.set i (some o')) fun kd2 st4 => kd2.immut = true ∧ match st4[i]? with
          | some (some o2) => match mset o2 kd2 b with | some o2' => N.nx (st4.set i (some o2')) | none => False
          | _ => False
        | none => False
      | _ => False
    | _ => False
def wSs (Φ : Phi) : List S → DS → Ends → DS → Prop
  | [], _, N, st => N.nx st
  | s :: r, ρ, N, st => wS Φ s ρ { N with nx := wSs Φ r ρ N } st
end
/-- what stands in the parameters behind the body: those that it may change, as they stand now -/
def outs : List Bool → List D → DS → Option (List D)
  | [], [], _ => some []
  | true :: bs, _ :: ds, some d :: st => (outs bs ds st).map (d :: ·)
  | false :: bs, d :: ds, _ :: st => (outs bs ds st).map (d :: ·)
  | _, _, _ => none
/-- the names' data at the start: what may be changed, or can't be, is one's own -/
def startS (n : Nat) (io : List Bool) (ds : List D) : DS := (io.zip ds).map (fun p => if p.1 || p.2.immut then some p.2 else none) ++ List.replicate (n - ds.length) none
def startR (n : Nat) (io : List Bool) (ds : List D) : DS := (io.zip ds).map (fun p => if p.1 || p.2.immut then none else some p.2) ++ List.replicate (n - ds.length) none
def endOf (io : List Bool) (ds : List D) (Q : D → List D → Prop) (r : D) (st : DS) : Prop := match outs io ds st with | some ds' => Q r ds' | none => False
/-- a def's body keeps a promise; re: the parameters whose names are stored anew in it -/
def Keeps (Φ : Phi) (n : Nat) (re : List Nat) (body : List S) (sp : Spec) : Prop := ∀ (ds : List D) (Q : D → List D → Prop), sp.run ds Q → ds.length = sp.io.length ∧
  (∀ i ∈ re, ∃ d, ds[i]? = some d ∧ d.immut = true) ∧
  wSs Φ body (startR n sp.io ds) { nx := endOf sp.io ds Q .non, rt := endOf sp.io ds Q } (startS n sp.io ds)
theorem dput_new {ds : List (D × D)} {k v : D} (h : dget ds k = none) : dput ds k v = ds ++ [(k, v)] := by
  unfold dput dget at *
  rw [if_neg]
  intro z
  obtain ⟨p, hp, he⟩ := List.any_eq_true.mp z
  rw [Option.map_eq_none_iff, List.find?_eq_none] at h
  exact h p hp he
/-- the law's own promise: every script -/
def lawSp (n : Nat) : Spec := { io := [false], run := fun ds Q => ∃ ns : List Int, ds = [.ro ns] ∧ ns.length ≤ n ∧ Q (.bl true) ds }
end Dl
set_option Elab.async false
set_option linter.all false
/-! DlRep: how a value of the layer HandS holds a datum in the abstract heap. -/
namespace Dl
open PySem PySem.Spec PyProof.Rows L2

/-- the tables of code objects that lambdas are made of: where each stands, what name its lambdas bear -/
class Tab where
  tt : List (Addr × Str)
  /-- what stood ahead and stays -/
  h0 : Hp := fun _ => none
/-- the tables stand apart from the slots -/
def tabI : Nat := 1000000
/-- a table and the code objects that it tells, all among F -/
def TabIn (H : Hp) (F : List Addr) (P : Addr) (q : Str) : Prop := P ∈ F ∧ ∃ ps : Array Value, H P = some (.tbl ps) ∧ TriplesOk ps.toList ∧ ∀ (pos : Pos) (cv : Value), codeAmong pos ps.toList = some cv → ∃ c, cv = .ref c ∧ H c = some (LamX.CodeO c q) ∧ c ∈ F
theorem TabIn.keep {H H' : Hp} {F : List Addr} {P : Addr} {q : Str} (t : TabIn H F P q) (k : ∀ x ∈ F, ∀ o, H x = some o → H' x = some o) : TabIn H' F P q := by
  obtain ⟨h0, ps, h1, h2, h3⟩ := t
  refine ⟨h0, ps, k P h0 _ h1, h2, fun pos cv hc => ?_⟩
  obtain ⟨c, e1, e2, e3⟩ := h3 pos cv hc
  exact ⟨c, e1, k c e3 _ e2, e3⟩
theorem TabIn.tabS {H : Hp} {F : List Addr} {P : Addr} {q : Str} (t : TabIn H F P q) : LamX.TabS H P q := by
  obtain ⟨h0, ps, h1, h2, h3⟩ := t
  refine ⟨ps, h1, h2, fun pos cv hc => ?_⟩
  obtain ⟨c, e1, e2, e3⟩ := h3 pos cv hc
  exact ⟨c, e1, e2⟩
/-- a dict at a whose keys are tuples: what each key is, where it stands, the value -/
def tO (w : World) (a : Addr) (kvs : List (NestedKey × Addr × V)) : HO :=
  .ext fun h => ∃ o es ep, h.get? a = some o ∧ o.ExactDict ∧ o.data = .dict es ep ∧ Paired (fun (p : NestedKey × Addr × V) (e : DictEntry) => e.hash = p.1.hash w ∧ e.key = .ref p.2.1 ∧ RelV p.2.2 e.val) kvs es.toList
/-- a dict at a whose keys are truth values -/
def bO (w : World) (a : Addr) (kvs : List (Bool × V)) : HO := .ext fun h => ∃ (P : Program) (vs : List (Bool × Value)), h.DictOf (PpSet.boolK P w) a vs ∧ KV kvs vs
/-- a number or a text as a key -/
def keyD : Key → D
  | .inl i => .int i
  | .inr x => .str x
mutual
/-- a datum as a key -/
def nk : D → Option NestedKey
  | .non => some .none
  | .bl b => some (.num (if b then 1 else 0))
  | .int i => some (.num i)
  | .str x => some (.text x)
  | .tup xs => (nks xs).map .tup
  | .lst _ => none | .dct _ => none | .ro _ => none | .obj _ _ => none | .fnc _ => none | .ali => none | .fz _ => none | .rl _ => none
def nks : List D → Option (List NestedKey)
  | [] => some []
  | x :: xs => (nk x).bind fun k => (nks xs).map (k :: ·)
end

/-- a list that is read and never written -/
def RoL (K : PySem.W.Frag) (H : Hp) (a : Addr) (xs : List V) : Prop :=
  (∃ o, H a = some (.frz o (.lst xs))) ∨ ∃ (o : Obj) (its : Array Value) (n : Nat), K.lookup a = some o ∧ o.cls = .type "list" ∧ o.dict = none ∧ o.data = .seq its n ∧ its.size ≤ sizeLine ∧ Vals xs its.toList
theorem RoL.sq {K : PySem.W.Frag} {H : Hp} {a : Addr} {xs : List V} (h : RoL K H a xs) : SqL K H a xs := by
  rcases h with h | h
  · exact .inl (.inr h)
  · exact .inr h
/-- a tuple that has no attributes of its own -/
def TupN (K : PySem.W.Frag) (H : Hp) (a : Addr) (xs : List V) : Prop :=
  (∃ o, H a = some (.frz o (.tup xs)) ∧ o.dict = none) ∨ ∃ (o : Obj) (its : Array Value) (n : Nat), K.lookup a = some o ∧ o.cls = .type "tuple" ∧ o.data = .seq its n ∧ its.size ≤ sizeLine ∧ Vals xs its.toList ∧ o.dict = none
theorem TupN.sq {K : PySem.W.Frag} {H : Hp} {a : Addr} {xs : List V} (h : TupN K H a xs) : SqT K H a xs := by
  rcases h with ⟨o, h, _⟩ | ⟨o, its, n, h1, h2, h3, h4, h5, _⟩
  · exact .inl (.inr ⟨o, h⟩)
  · exact .inr ⟨o, its, n, h1, h2, h3, h4, h5⟩
/-- what of the text a class must have -/
def ClsOk (K : PySem.W.Frag) (c : String) : Prop := Cls K (He.ga K (Str.ofString c)) ∧ ∀ f ∈ atsOf c, NoAttr K (He.ga K (Str.ofString c)) (Str.ofString f)
mutual
/-- v is the datum d; the objects that can be changed in it stand at the addresses of the list -/
inductive Rep (w : World) (K : PySem.W.Frag) (H : Hp) : V → D → List Addr → Prop
  | non : Rep w K H .non .non []
  | bl (b : Bool) : Rep w K H (.bl b) (.bl b) []
  | int (i : Int) : Rep w K H (.int i) (.int i) []
  | str (x : Str) : Rep w K H (.str x) (.str x) []
  | fnc (f : Addr) : Rep w K H (.ref f) (.fnc f) []
  | ali (a : Addr) : Rep w K H (.ref a) .ali []
  | ro {a : Addr} {ns : List Int} : RoL K H a (ns.map V.int) → Rep w K H (.ref a) (.ro ns) []
  | tup {a : Addr} {vs : List V} {ds : List D} {B : List Addr} : TupN K H a vs → Reps w K H vs ds B → Rep w K H (.ref a) (.tup ds) B
  | lst {a : Addr} {vs : List V} {ds : List D} {B : List Addr} : H a = some (.lst vs) → Reps w K H vs ds B → Rep w K H (.ref a) (.lst ds) (a :: B)
  | fz {a : Addr} {o : Obj} {kvs : List (Key × V)} {ds : List (D × D)} : H a = some (.frz o (.dK kvs)) → RepK w K H kvs ds [] → Rep w K H (.ref a) (.fz ds) []
  | rl {a : Addr} {o : Obj} {ns : List Int} : H a = some (.frz o (.lst (ns.map V.int))) → Rep w K H (.ref a) (.rl ns) []
  | obj {a dx : Addr} {c : String} {fv : List (Str × V)} {fs : List (String × D)} {B : List Addr} : ClsOk K c → (∀ p ∈ fs, p.1 ∈ atsOf c) → H a = some (.ins (He.ga K (Str.ofString c)) dx fv) → fv.map (·.1) = fs.map (fun p => Str.ofString p.1) → Reps w K H (fv.map (·.2)) (fs.map (·.2)) B → Rep w K H (.ref a) (.obj c fs) (a :: B)
  | dK {a : Addr} {kvs : List (Key × V)} {ds : List (D × D)} {B : List Addr} : H a = some (.dK kvs) → RepK w K H kvs ds B → Rep w K H (.ref a) (.dct ds) (a :: B)
  | dT {a : Addr} {kvs : List (NestedKey × Addr × V)} {ds : List (D × D)} {B : List Addr} : H a = some (tO w a kvs) → ((a == sysModules) = false ∧ kvs ≠ []) → (kvs.map (·.1)).Nodup → kvs.length ≤ sizeLine → RepT w K H kvs ds B → Rep w K H (.ref a) (.dct ds) (a :: B)
  | dB {a : Addr} {kvs : List (Bool × V)} {ds : List (D × D)} {B : List Addr} : H a = some (bO w a kvs) → ((a == sysModules) = false ∧ kvs ≠ []) → (kvs.map (·.1)).Nodup → RepB w K H kvs ds B → Rep w K H (.ref a) (.dct ds) (a :: B)
inductive Reps (w : World) (K : PySem.W.Frag) (H : Hp) : List V → List D → List Addr → Prop
  | nil : Reps w K H [] [] []
  | cons {v : V} {vs : List V} {d : D} {ds : List D} {A B : List Addr} : Rep w K H v d A → Reps w K H vs ds B → Reps w K H (v :: vs) (d :: ds) (A ++ B)
inductive RepK (w : World) (K : PySem.W.Frag) (H : Hp) : List (Key × V) → List (D × D) → List Addr → Prop
  | nil : RepK w K H [] [] []
  | cons {k : Key} {vv : V} {dv : D} {kvs : List (Key × V)} {ds : List (D × D)} {A B : List Addr} : Rep w K H vv dv A → RepK w K H kvs ds B → RepK w K H ((k, vv) :: kvs) ((keyD k, dv) :: ds) (A ++ B)
inductive RepB (w : World) (K : PySem.W.Frag) (H : Hp) : List (Bool × V) → List (D × D) → List Addr → Prop
  | nil : RepB w K H [] [] []
  | cons {k : Bool} {vv : V} {dv : D} {kvs : List (Bool × V)} {ds : List (D × D)} {A B : List Addr} : Rep w K H vv dv A → RepB w K H kvs ds B → RepB w K H ((k, vv) :: kvs) ((.bl k, dv) :: ds) (A ++ B)
inductive RepT (w : World) (K : PySem.W.Frag) (H : Hp) : List (NestedKey × Addr × V) → List (D × D) → List Addr → Prop
  | nil : RepT w K H [] [] []
  | cons {k : NestedKey} {t : Addr} {vv : V} {dk : List D} {dv : D} {kvs : List (NestedKey × Addr × V)} {ds : List (D × D)} {A B : List Addr} : nk (.tup dk) = some k → k.depth ≤ 8 → Rep w K H (.ref t) (.tup dk) [] → Rep w K H vv dv A → RepT w K H kvs ds B → RepT w K H ((k, t, vv) :: kvs) ((.tup dk, dv) :: ds) (A ++ B)
end

/-- what can be changed -/
def Chg : Option HO → Prop
  | some (.lst _) => True
  | some (.dK _) => True
  | some (.ext _) => True
  | some (.ins _ _ _) => True
  | some (.tbl _) => True
  | _ => False

section
variable {w : World} {K : PySem.W.Frag} {H H' : Hp}
mutual
theorem Rep.chg : ∀ {v : V} {d : D} {B : List Addr}, Rep w K H v d B → ∀ x ∈ B, Chg (H x)
  | _, _, _, .non, x, h => by cases h
  | _, _, _, .bl _, x, h => by cases h
  | _, _, _, .int _, x, h => by cases h
  | _, _, _, .str _, x, h => by cases h
  | _, _, _, .fnc _, x, h => by cases h
  | _, _, _, .ali _, x, h => by cases h
  | _, _, _, .ro _, x, h => by cases h
  | _, _, _, .fz _ _, x, h => by cases h
  | _, _, _, .rl _, x, h => by cases h
  | _, _, _, .tup _ r, x, h => Reps.chg r x h
  | _, _, _, .lst e r, x, h => by
    rcases List.mem_cons.mp h with rfl | h
    · rw [e]; trivial
    · exact Reps.chg r x h
  | _, _, _, .obj _ _ e _ r, x, h => by
    rcases List.mem_cons.mp h with rfl | h
    · rw [e]; trivial
    · exact Reps.chg r x h
  | _, _, _, .dK e r, x, h => by
    rcases List.mem_cons.mp h with rfl | h
    · rw [e]; trivial
    · exact RepK.chg r x h
  | _, _, _, .dT e _ _ _ r, x, h => by
    rcases List.mem_cons.mp h with rfl | h
    · rw [e]; trivial
    · exact RepT.chg r x h
  | _, _, _, .dB e _ _ r, x, h => by
    rcases List.mem_cons.mp h with rfl | h
    · rw [e]; trivial
    · exact RepB.chg r x h
theorem RepB.chg : ∀ {vs : List (Bool × V)} {ds : List (D × D)} {B : List Addr}, RepB w K H vs ds B → ∀ x ∈ B, Chg (H x)
  | _, _, _, .nil, x, h => by cases h
  | _, _, _, .cons r t, x, h => by
    rcases List.mem_append.mp h with h | h
    · exact Rep.chg r x h
    · exact RepB.chg t x h
theorem Reps.chg : ∀ {vs : List V} {ds : List D} {B : List Addr}, Reps w K H vs ds B → ∀ x ∈ B, Chg (H x)
  | _, _, _, .nil, x, h => by cases h
  | _, _, _, .cons r t, x, h => by
    rcases List.mem_append.mp h with h | h
    · exact Rep.chg r x h
    · exact Reps.chg t x h
theorem RepK.chg : ∀ {vs : List (Key × V)} {ds : List (D × D)} {B : List Addr}, RepK w K H vs ds B → ∀ x ∈ B, Chg (H x)
  | _, _, _, .nil, x, h => by cases h
  | _, _, _, .cons r t, x, h => by
    rcases List.mem_append.mp h with h | h
    · exact Rep.chg r x h
    · exact RepK.chg t x h
theorem RepT.chg : ∀ {vs : List (NestedKey × Addr × V)} {ds : List (D × D)} {B : List Addr}, RepT w K H vs ds B → ∀ x ∈ B, Chg (H x)
  | _, _, _, .nil, x, h => by cases h
  | _, _, _, .cons _ _ _ r t, x, h => by
    rcases List.mem_append.mp h with h | h
    · exact Rep.chg r x h
    · exact RepT.chg t x h
end
/-- what stays: all that can't be changed, and what is in S -/
def Stay (S : Addr → Prop) (H H' : Hp) : Prop := ∀ x o, H x = some o → (Chg (some o) → S x) → H' x = some o
theorem Stay.rd {S : Addr → Prop} {a : Addr} {u : HO} (st : Stay S H H') (h : Rd H a u) (nc : ¬ Chg (some u)) : Rd H' a u := by
  rcases h with h | ⟨o, h⟩
  · exact .inl (st _ _ h fun c => absurd c nc)
  · exact .inr ⟨o, st _ _ h fun c => c.elim⟩
theorem Stay.sqT {S : Addr → Prop} {a : Addr} {xs : List V} (st : Stay S H H') (h : SqT K H a xs) : SqT K H' a xs := by
  rcases h with h | h
  · exact .inl (st.rd h fun c => c)
  · exact .inr h
theorem Stay.tupN {S : Addr → Prop} {a : Addr} {xs : List V} (st : Stay S H H') (h : TupN K H a xs) : TupN K H' a xs := by
  rcases h with ⟨o, h, hd⟩ | h
  · exact .inl ⟨o, st _ _ h fun c => c.elim, hd⟩
  · exact .inr h
theorem Stay.roL {S : Addr → Prop} {a : Addr} {xs : List V} (st : Stay S H H') (h : RoL K H a xs) : RoL K H' a xs := by
  rcases h with ⟨o, h⟩ | h
  · exact .inl ⟨o, st _ _ h fun c => c.elim⟩
  · exact .inr h
mutual
theorem Rep.stay {S : Addr → Prop} (st : Stay S H H') : ∀ {v : V} {d : D} {B : List Addr}, Rep w K H v d B → (∀ x ∈ B, S x) → Rep w K H' v d B
  | _, _, _, .non, _ => .non
  | _, _, _, .bl _, _ => .bl _
  | _, _, _, .int _, _ => .int _
  | _, _, _, .str _, _ => .str _
  | _, _, _, .fnc _, _ => .fnc _
  | _, _, _, .ali _, _ => .ali _
  | _, _, _, .ro h, _ => .ro (st.roL h)
  | _, _, _, .rl h, _ => .rl (st _ _ h fun z => z.elim)
  | _, _, _, .fz h r, _ => .fz (st _ _ h fun z => z.elim) (RepK.stay st r fun _ z => nomatch z)
  | _, _, _, .tup e r, hb => .tup (st.tupN e) (Reps.stay st r hb)
  | _, _, _, .lst e r, hb => .lst (st _ _ e fun _ => hb _ List.mem_cons_self) (Reps.stay st r (fun x hx => hb x (List.mem_cons_of_mem _ hx)))
  | _, _, _, .obj k s e n r, hb => .obj k s (st _ _ e fun _ => hb _ List.mem_cons_self) n (Reps.stay st r (fun x hx => hb x (List.mem_cons_of_mem _ hx)))
  | _, _, _, .dK e r, hb => .dK (st _ _ e fun _ => hb _ List.mem_cons_self) (RepK.stay st r (fun x hx => hb x (List.mem_cons_of_mem _ hx)))
  | _, _, _, .dT e n m z r, hb => .dT (st _ _ e fun _ => hb _ List.mem_cons_self) n m z (RepT.stay st r (fun x hx => hb x (List.mem_cons_of_mem _ hx)))
  | _, _, _, .dB e n m r, hb => .dB (st _ _ e fun _ => hb _ List.mem_cons_self) n m (RepB.stay st r (fun x hx => hb x (List.mem_cons_of_mem _ hx)))
theorem RepB.stay {S : Addr → Prop} (st : Stay S H H') : ∀ {vs : List (Bool × V)} {ds : List (D × D)} {B : List Addr}, RepB w K H vs ds B → (∀ x ∈ B, S x) → RepB w K H' vs ds B
  | _, _, _, .nil, _ => .nil
  | _, _, _, .cons r t, hb => .cons (Rep.stay st r (fun x hx => hb x (List.mem_append_left _ hx))) (RepB.stay st t (fun x hx => hb x (List.mem_append_right _ hx)))
theorem Reps.stay {S : Addr → Prop} (st : Stay S H H') : ∀ {vs : List V} {ds : List D} {B : List Addr}, Reps w K H vs ds B → (∀ x ∈ B, S x) → Reps w K H' vs ds B
  | _, _, _, .nil, _ => .nil
  | _, _, _, .cons r t, hb => .cons (Rep.stay st r (fun x hx => hb x (List.mem_append_left _ hx))) (Reps.stay st t (fun x hx => hb x (List.mem_append_right _ hx)))
theorem RepK.stay {S : Addr → Prop} (st : Stay S H H') : ∀ {vs : List (Key × V)} {ds : List (D × D)} {B : List Addr}, RepK w K H vs ds B → (∀ x ∈ B, S x) → RepK w K H' vs ds B
  | _, _, _, .nil, _ => .nil
  | _, _, _, .cons r t, hb => .cons (Rep.stay st r (fun x hx => hb x (List.mem_append_left _ hx))) (RepK.stay st t (fun x hx => hb x (List.mem_append_right _ hx)))
theorem RepT.stay {S : Addr → Prop} (st : Stay S H H') : ∀ {vs : List (NestedKey × Addr × V)} {ds : List (D × D)} {B : List Addr}, RepT w K H vs ds B → (∀ x ∈ B, S x) → RepT w K H' vs ds B
  | _, _, _, .nil, _ => .nil
  | _, _, _, .cons h1 h0 h2 r t, hb => .cons h1 h0 (Rep.stay st h2 (fun x hx => nomatch hx)) (Rep.stay st r (fun x hx => hb x (List.mem_append_left _ hx))) (RepT.stay st t (fun x hx => hb x (List.mem_append_right _ hx)))
end
mutual
theorem Rep.immut : ∀ {v : V} {d : D} {B : List Addr}, Rep w K H v d B → d.immut = true → B = []
  | _, _, _, .non, _ => rfl
  | _, _, _, .bl _, _ => rfl
  | _, _, _, .int _, _ => rfl
  | _, _, _, .str _, _ => rfl
  | _, _, _, .fnc _, _ => rfl
  | _, _, _, .ali _, _ => rfl
  | _, _, _, .ro h, _ => rfl
  | _, _, _, .fz _ _, _ => rfl
  | _, _, _, .rl _, _ => rfl
  | _, _, _, .tup e r, hb => Reps.immut r (by simpa [D.immut] using hb)
  | _, _, _, .lst e r, hb => by simp [D.immut] at hb
  | _, _, _, .obj _ _ e _ r, hb => by simp [D.immut] at hb
  | _, _, _, .dK e r, hb => by simp [D.immut] at hb
  | _, _, _, .dT e n m z r, hb => by simp [D.immut] at hb
  | _, _, _, .dB e n m r, hb => by simp [D.immut] at hb
theorem Reps.immut : ∀ {vs : List V} {ds : List D} {B : List Addr}, Reps w K H vs ds B → immutAll ds = true → B = []
  | _, _, _, .nil, _ => rfl
  | _, _, _, .cons r t, hb => by
    simp only [immutAll, Bool.and_eq_true] at hb
    rw [Rep.immut r hb.1, Reps.immut t hb.2]; rfl
end
theorem Reps.length : ∀ {vs : List V} {ds : List D} {B : List Addr}, Reps w K H vs ds B → vs.length = ds.length
  | _, _, _, .nil => rfl
  | _, _, _, .cons _ t => by simp [Reps.length t]
theorem Reps.get : ∀ {vs : List V} {ds : List D} {B : List Addr}, Reps w K H vs ds B → ∀ {i : Nat} {v : V}, vs[i]? = some v → ∃ d A, ds[i]? = some d ∧ Rep w K H v d A ∧ ∀ x ∈ A, x ∈ B
  | _, _, _, .nil, _, _, e => by simp at e
  | _, _, _, .cons r t, 0, v, e => by
    simp only [List.getElem?_cons_zero, Option.some.injEq] at e
    subst e
    exact ⟨_, _, rfl, r, fun x hx => List.mem_append_left _ hx⟩
  | _, _, _, .cons r t, i + 1, v, e => by
    obtain ⟨d, A, h1, h2, h3⟩ := Reps.get t (i := i) (v := v) (by simpa using e)
    exact ⟨d, A, by simpa using h1, h2, fun x hx => List.mem_append_right _ (h3 x hx)⟩
theorem Reps.getD : ∀ {vs : List V} {ds : List D} {B : List Addr}, Reps w K H vs ds B → ∀ {i : Nat} {d : D}, ds[i]? = some d → ∃ v A, vs[i]? = some v ∧ Rep w K H v d A ∧ ∀ x ∈ A, x ∈ B
  | _, _, _, .nil, _, _, e => by simp at e
  | _, _, _, .cons r t, 0, v, e => by
    simp only [List.getElem?_cons_zero, Option.some.injEq] at e
    subst e
    exact ⟨_, _, rfl, r, fun x hx => List.mem_append_left _ hx⟩
  | _, _, _, .cons r t, i + 1, v, e => by
    obtain ⟨d, A, h1, h2, h3⟩ := Reps.getD t (i := i) (d := v) (by simpa using e)
    exact ⟨d, A, by simpa using h1, h2, fun x hx => List.mem_append_right _ (h3 x hx)⟩
theorem Reps.getN : ∀ {vs : List V} {ds : List D} {B : List Addr}, Reps w K H vs ds B → ∀ {i : Nat} {d : D}, ds[i]? = some d → ∃ v A, vs[i]? = some v ∧ Rep w K H v d A ∧ (∀ x ∈ A, x ∈ B) ∧ (B.Nodup → A.Nodup)
  | _, _, _, .nil, _, _, e => by simp at e
  | _, _, _, .cons r t, 0, v, e => by
    simp only [List.getElem?_cons_zero, Option.some.injEq] at e
    subst e
    exact ⟨_, _, rfl, r, fun x hx => List.mem_append_left _ hx, fun nd => (List.nodup_append.mp nd).1⟩
  | _, _, _, .cons r t, i + 1, v, e => by
    obtain ⟨d, A, h1, h2, h3, h4⟩ := Reps.getN t (i := i) (d := v) (by simpa using e)
    exact ⟨d, A, by simpa using h1, h2, fun x hx => List.mem_append_right _ (h3 x hx), fun nd => h4 (List.nodup_append.mp nd).2.1⟩
theorem ofS_inj {a b : String} (h : Str.ofString a = Str.ofString b) : a = b := by
  rw [Str.ofString_eq_toList, Str.ofString_eq_toList] at h
  have h1 : a.toList.map Char.toNat = b.toList.map Char.toNat := by
    have := congrArg (fun s : Str => s.cps.toList) h
    simpa using this
  have h2 : a.toList = b.toList := by
    have inj : ∀ {x y : List Char}, x.map Char.toNat = y.map Char.toNat → x = y := by
      intro x
      induction x with
      | nil => intro y h; cases y with | nil => rfl | cons _ _ => simp at h
      | cons c x ih =>
        intro y h
        cases y with
        | nil => simp at h
        | cons d y =>
          simp only [List.map_cons, List.cons.injEq] at h
          have hc : c = d := Char.ext (UInt32.toNat_inj.mp h.1)
          rw [hc, ih h.2]
    exact inj h1
  exact String.toList_inj.mp h2
/-- an attribute -/
theorem obj_get : ∀ {fv : List (Str × V)} {fs : List (String × D)} {B : List Addr}, fv.map (·.1) = fs.map (fun p => Str.ofString p.1) → Reps w K H (fv.map (·.2)) (fs.map (·.2)) B → ∀ {f : String} {z : D}, ofld fs f = some z →
    ∃ v A, fv.lookup (Str.ofString f) = some v ∧ Rep w K H v z A ∧ (∀ x ∈ A, x ∈ B) ∧ (B.Nodup → A.Nodup) ∧ ∃ p ∈ fs, p.1 = f
  | [], [], B, _, _, f, z, h => by simp [ofld] at h
  | [], _ :: _, B, n, _, f, z, h => by simp at n
  | _ :: _, [], B, n, _, f, z, h => by simp at n
  | (g, v0) :: fv, (g', d0) :: fs, B, n, r, f, z, h => by
    simp only [List.map_cons, List.cons.injEq] at n
    obtain ⟨rfl, n⟩ := n
    cases r with
    | @cons _ _ _ _ A0 B0 r0 rs =>
      by_cases hg : g' = f
      · subst hg
        have hz : d0 = z := by simpa [ofld] using h
        subst hz
        exact ⟨v0, A0, by simp [List.lookup], r0, fun x hx => List.mem_append_left _ hx, fun nd => (List.nodup_append.mp nd).1, ⟨_, List.mem_cons_self, rfl⟩⟩
      · have h' : ofld fs f = some z := by simpa [ofld, List.find?_cons, hg] using h
        obtain ⟨v, A, q1, q2, q3, q4, p, hp, q5⟩ := obj_get n rs h'
        have hne : (Str.ofString f == Str.ofString g') = false := by
          rw [beq_eq_false_iff_ne]; exact fun z => hg (ofS_inj z).symm
        exact ⟨v, A, by simp only [List.lookup, hne]; exact q1, q2, fun x hx => List.mem_append_right _ (q3 x hx), fun nd => q4 (List.nodup_append.mp nd).2.1, p, List.mem_cons_of_mem _ hp, q5⟩
theorem oput_mem {f : String} {d : D} : ∀ {fs : List (String × D)} {p : String × D}, p ∈ oput f d fs → p ∈ fs ∨ p.1 = f
  | [], p, h => by simp [oput] at h; exact .inr (by rw [h])
  | (g, x) :: fs, p, h => by
    unfold oput at h
    split at h
    · rename_i hg
      rcases List.mem_cons.mp h with z | z
      · exact .inr (by rw [z]; exact hg)
      · exact .inl (List.mem_cons_of_mem _ z)
    · rcases List.mem_cons.mp h with z | z
      · exact .inl (by rw [z]; exact List.mem_cons_self)
      · exact (oput_mem z).imp (List.mem_cons_of_mem _) id
theorem obj_put {v : V} {d : D} {A : List Addr} (r : Rep w K H v d A) {f : String} : ∀ {fv : List (Str × V)} {fs : List (String × D)} {B : List Addr}, fv.map (·.1) = fs.map (fun p => Str.ofString p.1) → Reps w K H (fv.map (·.2)) (fs.map (·.2)) B →
    (putF (Str.ofString f) v fv).map (·.1) = (oput f d fs).map (fun p => Str.ofString p.1) ∧ ∃ B2, Reps w K H ((putF (Str.ofString f) v fv).map (·.2)) ((oput f d fs).map (·.2)) B2 ∧ (∀ x ∈ B2, x ∈ B ∨ x ∈ A) ∧ (B.Nodup → A.Nodup → (∀ x ∈ A, x ∉ B) → B2.Nodup)
  | [], [], B, _, rs => by
    cases rs
    refine ⟨rfl, A ++ [], .cons r .nil, fun x hx => .inr (by simpa using hx), fun _ h _ => by simpa using h⟩
  | [], _ :: _, B, n, _ => by simp at n
  | _ :: _, [], B, n, _ => by simp at n
  | (g, v0) :: fv, (g', d0) :: fs, B, n, rs => by
    simp only [List.map_cons, List.cons.injEq] at n
    obtain ⟨rfl, n⟩ := n
    cases rs with
    | @cons _ _ _ _ A0 B0 r0 rs =>
      by_cases hg : g' = f
      · subst hg
        have e1 : putF (Str.ofString g') v ((Str.ofString g', v0) :: fv) = (Str.ofString g', v) :: fv := by simp [putF]
        have e2 : oput g' d ((g', d0) :: fs) = (g', d) :: fs := by simp [oput]
        rw [e1, e2]
        refine ⟨by simp [n], A ++ B0, .cons r rs, fun x hx => ?_, fun h1 h2 h3 => ?_⟩
        · rcases List.mem_append.mp hx with z | z
          · exact .inr z
          · exact .inl (List.mem_append_right _ z)
        · rw [List.nodup_append] at h1 ⊢
          exact ⟨h2, h1.2.1, fun a ha b hb z => h3 a ha (List.mem_append_right _ (by rw [z]; exact hb))⟩
      · have hne : Str.ofString g' ≠ Str.ofString f := fun z => hg (ofS_inj z)
        have e1 : putF (Str.ofString f) v ((Str.ofString g', v0) :: fv) = (Str.ofString g', v0) :: putF (Str.ofString f) v fv := by simp [putF, hne]
        have e2 : oput f d ((g', d0) :: fs) = (g', d0) :: oput f d fs := by simp [oput, hg]
        obtain ⟨i1, B2, i2, i3, i4⟩ := obj_put r (f := f) n rs
        rw [e1, e2]
        refine ⟨by simp [i1], A0 ++ B2, .cons r0 i2, fun x hx => ?_, fun h1 h2 h3 => ?_⟩
        · rcases List.mem_append.mp hx with z | z
          · exact .inl (List.mem_append_left _ z)
          · exact (i3 x z).imp (List.mem_append_right _) id
        · rw [List.nodup_append] at h1 ⊢
          refine ⟨h1.1, i4 h1.2.1 h2 fun x hx z => h3 x hx (List.mem_append_right _ z), fun a ha b hb z => ?_⟩
          rcases i3 b hb with y | y
          · exact h1.2.2 a ha b y z
          · exact h3 b y (List.mem_append_left _ (by rw [← z]; exact ha))
theorem Reps.append : ∀ {vs vs' : List V} {ds ds' : List D} {B B' : List Addr}, Reps w K H vs ds B → Reps w K H vs' ds' B' → Reps w K H (vs ++ vs') (ds ++ ds') (B ++ B')
  | _, _, _, _, _, _, .nil, s => s
  | _, _, _, _, _, _, .cons r t, s => by rw [List.append_assoc]; exact .cons r (Reps.append t s)
/-- nothing of the old heap is lost -/
def Sub (H H' : Hp) : Prop := ∀ x o, H x = some o → H' x = some o
theorem Sub.refl (H : Hp) : Sub H H := fun _ _ h => h
theorem Sub.trans {H1 : Hp} (a : Sub H H1) (b : Sub H1 H') : Sub H H' := fun x o h => b x o (a x o h)
theorem Sub.stay {S : Addr → Prop} (s : Sub H H') : Stay S H H' := fun x o h _ => s x o h
theorem Sub.new {p : Addr} {o : HO} (h : H p = none) : Sub H (upd H p o) := fun a u e => by rw [upd_ne (ne_of_none e h)]; exact e
theorem Rep.sub {v : V} {d : D} {B : List Addr} (r : Rep w K H v d B) (s : Sub H H') : Rep w K H' v d B := r.stay (S := fun _ => True) s.stay fun _ _ => trivial
theorem Reps.sub {v : List V} {d : List D} {B : List Addr} (r : Reps w K H v d B) (s : Sub H H') : Reps w K H' v d B := r.stay (S := fun _ => True) s.stay fun _ _ => trivial
theorem Rep.there {v : V} {d : D} {B : List Addr} (r : Rep w K H v d B) {x : Addr} (hx : x ∈ B) : H x ≠ none := fun e => by
  have := r.chg x hx; rw [e] at this; exact this

/-! ### the state -/
abbrev Fp := Nat → List Addr
/-- what is one's own: each in its slot, apart from one another and from R, the things that are looked at alone -/
structure Own [Tab] (w : World) (K : PySem.W.Frag) (R : Addr → Prop) (H : Hp) (σ : L2.St) (st : DS) (fp : Fp) : Prop where
  len : st.length = σ.length
  at_ : ∀ (i : Nat) (d : D), st[i]? = some (some d) → ∃ v, σ[i]? = some (some v) ∧ Rep w K H v d (fp i) ∧ (fp i).Nodup
  dis : ∀ (i j : Nat) (x : Addr), x ∈ fp i → x ∈ fp j → i = j
  off : ∀ (i : Nat), i ≠ tabI → (∀ d, st[i]? ≠ some (some d)) → fp i = []
  out : ∀ x i, R x → x ∉ fp i
  short : st.length ≤ tabI
  tabc : ∀ x ∈ fp tabI, Chg (H x)
  tabs : ∀ p ∈ Tab.tt, TabIn H (fp tabI) p.1 p.2
  base : ∀ x o, Tab.h0 x = some o → R x ∧ H x = some o
/-- what is looked at alone -/
structure Env (w : World) (K : PySem.W.Frag) (R : Addr → Prop) (H : Hp) (σ : L2.St) (ρ : DS) : Prop where
  len : ρ.length = σ.length
  at_ : ∀ (i : Nat) (d : D), ρ[i]? = some (some d) → ∃ v B, σ[i]? = some (some v) ∧ Rep w K H v d B ∧ ∀ x ∈ B, R x
  there : ∀ x, R x → H x ≠ none
/-- what is one's own -/
def Mine (fp : Fp) (x : Addr) : Prop := ∃ i, x ∈ fp i
structure Ext (M : Addr → Prop) (H H' : Hp) (M' : Addr → Prop) : Prop where
  keep : ∀ x o, H x = some o → ¬ M x → H' x = some o
  from_ : ∀ x, M' x → M x ∨ H x = none
theorem Ext.trans {M M1 M2 : Addr → Prop} {H1 H2 : Hp} (a : Ext M H H1 M1) (b : Ext M1 H1 H2 M2) : Ext M H H2 M2 where
  keep x o e n := b.keep x o (a.keep x o e n) fun m => (a.from_ x m).elim n fun z => by rw [e] at z; cases z
  from_ x m := by
    rcases b.from_ x m with h | h
    · exact a.from_ x h
    · by_cases hm : M x
      · exact .inl hm
      · right
        cases e : H x with
        | none => rfl
        | some o => rw [a.keep x o e hm] at h; cases h
theorem Ext.refl (M : Addr → Prop) (H : Hp) : Ext M H H M := ⟨fun _ _ e _ => e, fun _ m => .inl m⟩
theorem Ext.mono {M M1 M2 : Addr → Prop} (a : Ext M H H' M1) (h : ∀ x, M2 x → M1 x) : Ext M H H' M2 := ⟨a.keep, fun x m => a.from_ x (h x m)⟩
theorem Ext.sub {M : Addr → Prop} (s : Sub H H') : Ext M H H' M := ⟨fun x o e _ => s x o e, fun _ m => .inl m⟩
theorem Ext.subNew {M M' : Addr → Prop} (s : Sub H H') (h : ∀ x, M' x → M x ∨ H x = none) : Ext M H H' M' := ⟨fun x o e _ => s x o e, h⟩
end
end Dl
/-! DlOwn: the state of the slots: moving, storing, locking; readings of expressions and operands. -/
namespace Dl
open PySem PySem.Spec PyProof.Rows L2
section
variable [Tab] {w : World} {K : PySem.W.Frag} {R : Addr → Prop} {H H' : Hp} {σ : L2.St} {ρ st : DS} {fp : Fp}

def updF (fp : Fp) (i : Nat) (B : List Addr) : Fp := fun j => if j = i ∧ i ≠ tabI then B else fp j
theorem updF_same {fp : Fp} {i : Nat} {B : List Addr} (h : i ≠ tabI) : updF fp i B i = B := if_pos ⟨rfl, h⟩
theorem updF_ne {fp : Fp} {i j : Nat} {B : List Addr} (h : j ≠ i) : updF fp i B j = fp j := if_neg fun z => h z.1
theorem updF_tab {fp : Fp} {i : Nat} {B : List Addr} : updF fp i B tabI = fp tabI := by
  unfold updF
  split
  · rename_i h; exact absurd h.1.symm h.2
  · rfl
/-- a slot is none of the tables' -/
theorem Own.ne (o : Own w K R H σ st fp) {i : Nat} {x : Option D} (h : st[i]? = some x) : i ≠ tabI := fun z => by
  have := (List.getElem?_eq_some_iff.mp h).1
  have := o.short
  omega
theorem Own.lt_ne (o : Own w K R H σ st fp) {i : Nat} (h : i < st.length) : i ≠ tabI := fun z => by have := o.short; omega
/-- beyond the slots nothing is stored -/
theorem Own.beyond (o : Own w K R H σ st fp) {x : Option D} : st.set tabI x = st := List.set_eq_of_length_le o.short
theorem get_set_self {α : Type} {l : List α} {i : Nat} {x : α} (h : i < l.length) : (l.set i x)[i]? = some x := List.getElem?_set_self h
theorem get_set_ne {α : Type} {l : List α} {i j : Nat} {x : α} (h : i ≠ j) : (l.set i x)[j]? = l[j]? := List.getElem?_set_ne h
theorem get_set_none {α : Type} {l : List (Option α)} {i j : Nat} {x : α} (e : (l.set i none)[j]? = some (some x)) : i ≠ j ∧ l[j]? = some (some x) := by
  by_cases h : i = j
  · subst h
    by_cases hl : i < l.length
    · rw [get_set_self hl] at e; cases e
    · rw [List.getElem?_eq_none (by rw [List.length_set]; omega)] at e; cases e
  · rw [get_set_ne h] at e; exact ⟨h, e⟩

theorem Own.sub (o : Own w K R H σ st fp) (s : Sub H H') : Own w K R H' σ st fp where
  len := o.len
  at_ i d e := let ⟨v, h1, h2, h3⟩ := o.at_ i d e; ⟨v, h1, h2.sub s, h3⟩
  dis := o.dis
  off := o.off
  out := o.out
  short := o.short
  tabc x hx := by
    have := o.tabc x hx
    cases q : H x with
    | none => rw [q] at this; exact this.elim
    | some u => rw [s x u q]; rw [q] at this; exact this
  tabs p hp := (o.tabs p hp).keep fun x _ u e => s x u e
  base x u e := let ⟨h1, h2⟩ := o.base x u e; ⟨h1, s x u h2⟩
theorem Env.sub (e : Env w K R H σ ρ) (s : Sub H H') : Env w K R H' σ ρ where
  len := e.len
  at_ i d q := let ⟨v, B, h1, h2, h3⟩ := e.at_ i d q; ⟨v, B, h1, h2.sub s, h3⟩
  there x h := fun z => by
    cases q : H x with
    | none => exact e.there x h q
    | some o => rw [s x o q] at z; cases z
/-- what is looked at stays -/
theorem Ext.stay {M M' : Addr → Prop} (x : Ext M H H' M') (hm : ∀ a, M a → Chg (H a)) : Stay (fun a => ¬ M a) H H' := fun a o e c => by
  by_cases h : M a
  · have := hm a h
    rw [e] at this
    exact absurd h (c this)
  · exact x.keep a o e h
theorem Own.chg (o : Own w K R H σ st fp) {x : Addr} (h : Mine fp x) : Chg (H x) := by
  obtain ⟨i, hi⟩ := h
  by_cases q : ∃ d, st[i]? = some (some d)
  · obtain ⟨d, q⟩ := q
    obtain ⟨v, _, r, _⟩ := o.at_ i d q
    exact r.chg x hi
  · by_cases ht : i = tabI
    · rw [ht] at hi
      exact o.tabc x hi
    · rw [o.off i ht fun d e => q ⟨d, e⟩] at hi; cases hi
theorem Own.there (o : Own w K R H σ st fp) {x : Addr} (h : Mine fp x) : H x ≠ none := fun e => by
  have := o.chg h; rw [e] at this; exact this
theorem Env.keep {M' : Addr → Prop} (e : Env w K R H σ ρ) (o : Own w K R H σ st fp) (x : Ext (Mine fp) H H' M') {σ' : L2.St} (hl : σ'.length = σ.length) (hf : ∀ (i : Nat) (d : D), ρ[i]? = some (some d) → σ'[i]? = σ[i]?) : Env w K R H' σ' ρ where
  len := e.len.trans hl.symm
  at_ i d q := by
    obtain ⟨v, B, h1, h2, h3⟩ := e.at_ i d q
    exact ⟨v, B, (hf i d q).trans h1, h2.stay (x.stay fun a ha => o.chg ha) fun y hy ⟨j, hj⟩ => o.out y j (h3 y hy) hj, h3⟩
  there y h := fun z => by
    cases q : H y with
    | none => exact e.there y h q
    | some u => rw [x.keep y u q fun ⟨j, hj⟩ => o.out y j h hj] at z; cases z
theorem Env.keep' {M' : Addr → Prop} (e : Env w K R H σ ρ) (o : Own w K R H σ st fp) (x : Ext (Mine fp) H H' M') : Env w K R H' σ ρ := e.keep o x rfl fun _ _ _ => rfl
/-- what one looks at -/
theorem peek_of (o : Own w K R H σ st fp) (e : Env w K R H σ ρ) {i : Nat} {d : D} (q : peek ρ st i = some d) :
    ∃ v B, σ[i]? = some (some v) ∧ Rep w K H v d B ∧ ((st[i]? = some (some d) ∧ B = fp i) ∨ ∀ x ∈ B, R x) := by
  unfold peek at q
  split at q
  · rename_i d' h
    cases q
    obtain ⟨v, h1, h2, _⟩ := o.at_ i _ h
    exact ⟨v, _, h1, h2, .inl ⟨h, rfl⟩⟩
  · cases h : ρ[i]? with
    | none => rw [h] at q; cases q
    | some u =>
      rw [h] at q
      simp only [Option.join_some] at q
      subst q
      obtain ⟨v, B, h1, h2, h3⟩ := e.at_ i _ h
      exact ⟨v, B, h1, h2, .inr h3⟩
/-- a thing is moved out of its slot (or forgotten) -/
theorem Own.move (o : Own w K R H σ st fp) (i : Nat) : Own w K R H σ (st.set i none) (updF fp i []) := by
  by_cases ht : i = tabI
  · have e : updF fp i [] = fp := funext fun j => by
      unfold updF
      rw [if_neg fun z => z.2 ht]
    rw [e, ht, o.beyond]
    exact o
  exact {
    len := by rw [List.length_set]; exact o.len
    at_ := fun j d e => by
      obtain ⟨h, e⟩ := get_set_none e
      rw [updF_ne (Ne.symm h)]
      exact o.at_ j d e
    dis := fun a b x ha hb => by
      by_cases h1 : a = i
      · rw [h1, updF_same ht] at ha; cases ha
      · by_cases h2 : b = i
        · rw [h2, updF_same ht] at hb; cases hb
        · rw [updF_ne h1] at ha; rw [updF_ne h2] at hb; exact o.dis a b x ha hb
    off := fun j hjt h => by
      by_cases hj : j = i
      · rw [hj, updF_same ht]
      · rw [updF_ne hj]
        refine o.off j hjt fun d => ?_
        have := h d
        rw [get_set_ne (Ne.symm hj)] at this
        exact this
    out := fun x j hx => by
      by_cases hj : j = i
      · rw [hj, updF_same ht]; exact fun z => nomatch z
      · rw [updF_ne hj]; exact o.out x j hx
    short := by rw [List.length_set]; exact o.short
    tabc := by rw [updF_tab]; exact o.tabc
    tabs := by rw [updF_tab]; exact o.tabs
    base := o.base }
theorem Mine.move {i : Nat} {x : Addr} (h : Mine (updF fp i []) x) : Mine fp x := by
  obtain ⟨j, hj⟩ := h
  unfold updF at hj
  split at hj
  · cases hj
  · exact ⟨j, hj⟩
theorem Mine.upd {i : Nat} {x : Addr} {B : List Addr} (h : Mine (updF fp i B) x) : Mine fp x ∨ x ∈ B := by
  obtain ⟨j, hj⟩ := h
  unfold updF at hj
  split at hj
  · exact .inr hj
  · exact .inl ⟨j, hj⟩
/-- a slot is stored -/
theorem Own.put (o : Own w K R H σ st fp) {i : Nat} {v : V} {d : D} {B : List Addr} (r : Rep w K H v d B) (nd : B.Nodup) (hd : ∀ x ∈ B, ¬ Mine fp x) (hR : ∀ x ∈ B, ¬ R x) (hi : i < st.length) :
    Own w K R H (σ.set i (some v)) (st.set i (some d)) (updF fp i B) :=
  have ht := o.lt_ne hi
{
  len := by rw [List.length_set, List.length_set]; exact o.len
  at_ := fun j d' e => by
    by_cases h : i = j
    · subst h
      rw [get_set_self hi] at e
      cases e
      exact ⟨v, get_set_self (by rw [← o.len]; exact hi), by rw [updF_same ht]; exact r, by rw [updF_same ht]; exact nd⟩
    · rw [get_set_ne h] at e
      rw [updF_ne (Ne.symm h), get_set_ne h]
      exact o.at_ j d' e
  dis := fun a b x ha hb => by
    by_cases h1 : a = i
    · by_cases h2 : b = i
      · rw [h1, h2]
      · rw [h1, updF_same ht] at ha; rw [updF_ne h2] at hb
        exact absurd ⟨b, hb⟩ (hd x ha)
    · by_cases h2 : b = i
      · rw [h2, updF_same ht] at hb; rw [updF_ne h1] at ha
        exact absurd ⟨a, ha⟩ (hd x hb)
      · rw [updF_ne h1] at ha; rw [updF_ne h2] at hb; exact o.dis a b x ha hb
  off := fun j hjt h => by
    by_cases hj : j = i
    · subst hj
      exact absurd (get_set_self hi) (h d)
    · rw [updF_ne hj]
      refine o.off j hjt fun d' => ?_
      have := h d'
      rw [get_set_ne (Ne.symm hj)] at this
      exact this
  out := fun x j hx => by
    by_cases hj : j = i
    · rw [hj, updF_same ht]; exact fun z => hR x z hx
    · rw [updF_ne hj]; exact o.out x j hx
  short := by rw [List.length_set]; exact o.short
  tabc := by rw [updF_tab]; exact o.tabc
  tabs := by rw [updF_tab]; exact o.tabs
  base := o.base }
/-- the thing of a slot is changed in place -/
theorem Own.change (o : Own w K R H σ st fp) {i : Nat} {v : V} {d0 d : D} {B : List Addr} (h0 : st[i]? = some (some d0)) (hv : σ[i]? = some (some v)) (r : Rep w K H' v d B) (nd : B.Nodup)
    (k : ∀ x o, H x = some o → x ∉ fp i → H' x = some o) (hd : ∀ x ∈ B, x ∈ fp i ∨ (¬ Mine fp x ∧ ¬ R x)) : Own w K R H' σ (st.set i (some d)) (updF fp i B) :=
  have ht := o.ne h0
{
  len := by rw [List.length_set]; exact o.len
  at_ := fun j d' e => by
    by_cases h : i = j
    · subst h
      rw [get_set_self (List.getElem?_eq_some_iff.mp h0).1] at e
      cases e
      exact ⟨v, hv, by rw [updF_same ht]; exact r, by rw [updF_same ht]; exact nd⟩
    · rw [get_set_ne h] at e
      rw [updF_ne (Ne.symm h)]
      obtain ⟨v', h1, h2, h3⟩ := o.at_ j d' e
      exact ⟨v', h1, h2.stay (S := fun x => x ∉ fp i) (fun x u q c => by
        by_cases hx : x ∈ fp i
        · have z := o.chg ⟨i, hx⟩
          rw [q] at z
          exact absurd hx (c z)
        · exact k x u q hx) fun x hx hi => h (o.dis i j x hi hx), h3⟩
  dis := fun a b x ha hb => by
    by_cases h1 : a = i
    · by_cases h2 : b = i
      · rw [h1, h2]
      · rw [h1, updF_same ht] at ha; rw [updF_ne h2] at hb
        rcases hd x ha with z | z
        · exact absurd (o.dis b i x hb z) h2
        · exact absurd ⟨b, hb⟩ z.1
    · by_cases h2 : b = i
      · rw [h2, updF_same ht] at hb; rw [updF_ne h1] at ha
        rcases hd x hb with z | z
        · exact absurd (o.dis a i x ha z) h1
        · exact absurd ⟨a, ha⟩ z.1
      · rw [updF_ne h1] at ha; rw [updF_ne h2] at hb; exact o.dis a b x ha hb
  off := fun j hjt h => by
    by_cases hj : j = i
    · subst hj
      exact absurd (get_set_self (List.getElem?_eq_some_iff.mp h0).1) (h d)
    · rw [updF_ne hj]
      refine o.off j hjt fun d' => ?_
      have := h d'
      rw [get_set_ne (Ne.symm hj)] at this
      exact this
  out := fun x j hx => by
    by_cases hj : j = i
    · rw [hj, updF_same ht]
      intro z
      rcases hd x z with q | q
      · exact o.out x i hx q
      · exact q.2 hx
    · rw [updF_ne hj]; exact o.out x j hx
  short := by rw [List.length_set]; exact o.short
  tabc := fun x hx => by
    rw [updF_tab] at hx
    have hxi : x ∉ fp i := fun z => ht (o.dis i tabI x z hx)
    have := o.tabc x hx
    cases q : H x with
    | none => rw [q] at this; exact this.elim
    | some u => rw [k x u q hxi]; rw [q] at this; exact this
  tabs := fun p hp => by
    rw [updF_tab]
    exact (o.tabs p hp).keep fun x hx u e => k x u e fun z => ht (o.dis i tabI x z hx)
  base := fun x u e => let ⟨h1, h2⟩ := o.base x u e; ⟨h1, k x u h2 fun z => o.out x i h1 z⟩ }
/-- the tables alone -/
def tabF (fp : Fp) : Fp := fun i => if i = tabI then fp i else []
theorem tabF_mem {i : Nat} {x : Addr} (h : x ∈ tabF fp i) : i = tabI ∧ x ∈ fp tabI := by
  unfold tabF at h
  split at h
  · rename_i e; exact ⟨e, by rw [← e]; exact h⟩
  · cases h
/-- what stands in slots -/
def Slot_ (fp : Fp) (x : Addr) : Prop := ∃ i, i ≠ tabI ∧ x ∈ fp i
/-- all is only looked at for a while -/
theorem Own.none (o : Own w K R H σ st fp) : Own w K (fun x => R x ∨ Slot_ fp x) H σ (st.map fun _ => none) (tabF fp) where
  len := by rw [List.length_map]; exact o.len
  at_ i d e := by
    rw [List.getElem?_map] at e
    cases q : st[i]? with
    | none => rw [q] at e; cases e
    | some u => rw [q] at e; cases e
  dis i j x h1 h2 := by rw [(tabF_mem h1).1, (tabF_mem h2).1]
  off i ht _ := if_neg ht
  out x i h z := by
    obtain ⟨rfl, z⟩ := tabF_mem z
    rcases h with h | ⟨j, hj, h⟩
    · exact o.out x _ h z
    · exact hj (o.dis j tabI x h z)
  short := by rw [List.length_map]; exact o.short
  tabc := by unfold tabF; rw [if_pos rfl]; exact o.tabc
  tabs := by unfold tabF; rw [if_pos rfl]; exact o.tabs
  base x u e := let ⟨h1, h2⟩ := o.base x u e; ⟨.inl h1, h2⟩
theorem lockAll_at {i : Nat} {d : D} (e : (lockAll ρ st)[i]? = some (some d)) : st[i]? = some (some d) ∨ ρ[i]? = some (some d) := by
  unfold lockAll at e
  rw [List.getElem?_zipWith] at e
  cases h1 : ρ[i]? with
  | none => rw [h1] at e; cases e
  | some r =>
    cases h2 : st[i]? with
    | none => rw [h1, h2] at e; cases e
    | some s =>
      rw [h1, h2] at e
      cases s with
      | some d' => left; simpa using e
      | none => right; simpa using e
theorem Env.lockAll (e : Env w K R H σ ρ) (o : Own w K R H σ st fp) : Env w K (fun x => R x ∨ Slot_ fp x) H σ (Dl.lockAll ρ st) where
  len := by unfold Dl.lockAll; rw [List.length_zipWith, e.len, o.len, Nat.min_self]
  at_ i d q := by
    rcases lockAll_at q with q | q
    · obtain ⟨v, h1, h2, _⟩ := o.at_ i d q
      exact ⟨v, _, h1, h2, fun x hx => .inr ⟨i, o.ne q, hx⟩⟩
    · obtain ⟨v, B, h1, h2, h3⟩ := e.at_ i d q
      exact ⟨v, B, h1, h2, fun x hx => .inl (h3 x hx)⟩
  there x h := by
    rcases h with h | h
    · exact e.there x h
    · exact o.there ⟨h.choose, h.choose_spec.2⟩

/-! ### readings -/
/-- what is told of a value: where it stands, that it is one's own -/
abbrev KE_ := D → DS → Prop
/-- an expression's reading -/
def tE (w : World) (K : PySem.W.Frag) (wf : DS → DS → (D → DS → Prop) → Prop) : TE := fun σ H Q => ∃ ρ st fp R Qd, Env w K R H σ ρ ∧ Own w K R H σ st fp ∧ wf ρ st Qd ∧
  ∀ d st' v H' fp' B, Qd d st' → Ext (Mine fp) H H' (fun x => Mine fp' x ∨ x ∈ B) → Own w K R H' σ st' fp' → Rep w K H' v d B → B.Nodup → (∀ x ∈ B, ¬ Mine fp' x) → Q v H'
/-- a test's -/
def tTs (w : World) (K : PySem.W.Frag) (wf : DS → DS → (D → DS → Prop) → Prop) : TT := fun σ H Q => ∃ ρ st fp R Qd, Env w K R H σ ρ ∧ Own w K R H σ st fp ∧ wf ρ st Qd ∧
  ∀ d st' H' fp', Qd d st' → Ext (Mine fp) H H' (Mine fp') → Own w K R H' σ st' fp' → ∃ b, d = .bl b ∧ Q b H'
theorem PE.imp {X : Cx} {e : Expr} {t t' : TE} (h : PE X e t) (i : ∀ σ H Q, t' σ H Q → t σ H Q) : PE X e t' := ⟨fun pins s σ H Q I q => h.run pins s σ H Q I (i σ H Q q)⟩
theorem PT.imp {X : Cx} {e : Expr} {t t' : TT} (h : PT X e t) (i : ∀ σ H Q, t' σ H Q → t σ H Q) : PT X e t' := ⟨fun pins s σ H Q I q => h.run pins s σ H Q I (i σ H Q q)⟩
theorem PSs.imp {X : Cx} {e : List Stmt} {t t' : TS} (h : PSs X e t) (i : ∀ N σ H, t' N σ H → t N σ H) : PSs X e t' := ⟨fun pins s σ H N I q => h.run pins s σ H N I (i N σ H q)⟩
theorem PS.imp {X : Cx} {e : Stmt} {t t' : TS} (h : PS X e t) (i : ∀ N σ H, t' N σ H → t N σ H) : PS X e t' := ⟨fun pins s σ H N I q => h.run pins s σ H N I (i N σ H q)⟩
theorem tE_at {wf : DS → DS → (D → DS → Prop) → Prop} {Qd : D → DS → Prop} {Q : VK} (e : Env w K R H σ ρ) (o : Own w K R H σ st fp) (h : wf ρ st Qd)
    (k : ∀ d st' v H' fp' B, Qd d st' → Ext (Mine fp) H H' (fun x => Mine fp' x ∨ x ∈ B) → Own w K R H' σ st' fp' → Rep w K H' v d B → B.Nodup → (∀ x ∈ B, ¬ Mine fp' x) → Q v H') : tE w K wf σ H Q :=
  ⟨ρ, st, fp, R, Qd, e, o, h, k⟩
/-- a value that is new, or carried by itself -/
def New (w : World) (K : PySem.W.Frag) (H : Hp) (d : D) (Q : VK) : Prop := ∀ v H' B, Sub H H' → Rep w K H' v d B → B.Nodup → (∀ x ∈ B, H x = none) → Q v H'
theorem New.of {d : D} {Q : VK} (o : Own w K R H σ st fp)
    (k : ∀ v H' fp' B, Ext (Mine fp) H H' (fun x => Mine fp' x ∨ x ∈ B) → Own w K R H' σ st fp' → Rep w K H' v d B → B.Nodup → (∀ x ∈ B, ¬ Mine fp' x) → Q v H') : New w K H d Q := fun v H' B s r nd nw =>
  k v H' fp B (Ext.subNew s fun x h => h.elim .inl fun h => .inr (nw x h)) (o.sub s) r nd fun x hx m => o.there m (nw x hx)

/-! ### operands -/
/-- each is told by its kind; T: what is new -/
inductive OpOk (w : World) (K : PySem.W.Frag) (T : Addr → Prop) (H : Hp) (σ : L2.St) (ρ st : DS) : Es → List V → List D → Prop
  | nil : OpOk w K T H σ ρ st .nil [] []
  | cons {e : E} {es : Es} {v : V} {vs : List V} {d : D} {ds : List D} {B : List Addr} : Rep w K H v d B → (∀ x ∈ B, T x) → OpOk w K T H σ ρ st es vs ds → OpOk w K T H σ ρ st (.cons e es) (v :: vs) (d :: ds)
  | nm {i : Nat} {es : Es} {v : V} {vs : List V} {d : D} {ds : List D} : σ[i]? = some (some v) → peek ρ st i = some d → OpOk w K T H σ ρ st es vs ds → OpOk w K T H σ ρ st (.nm i es) (v :: vs) (d :: ds)
/-- each stands for its datum -/
abbrev BReps (w : World) (K : PySem.W.Frag) (H : Hp) : List V → List D → Prop := Paired fun v d => ∃ B, Rep w K H v d B
theorem OpOk.reps {T : Addr → Prop} {es : Es} {vs : List V} {ds : List D} (h : OpOk w K T H σ ρ st es vs ds) (o : Own w K R H σ st fp) (e : Env w K R H σ ρ) : BReps w K H vs ds := by
  induction h with
  | nil => exact .nil
  | cons r _ _ ih => exact .cons ⟨_, r⟩ ih
  | nm hv hp _ ih =>
    obtain ⟨v, B, h1, h2, _⟩ := peek_of o e hp
    rw [hv] at h1
    cases h1
    exact .cons ⟨B, h2⟩ ih
theorem OpOk.mono {T T' : Addr → Prop} {es : Es} {vs : List V} {ds : List D} (h : OpOk w K T H σ ρ st es vs ds) (hT : ∀ x, T x → T' x) : OpOk w K T' H σ ρ st es vs ds := by
  induction h with
  | nil => exact .nil
  | cons a b _ ih => exact .cons a (fun x hx => hT x (b x hx)) ih
  | nm a b _ ih => exact .nm a b ih
theorem BReps.sub {vs : List V} {ds : List D} (h : BReps w K H vs ds) (s : Sub H H') : BReps w K H' vs ds := by
  induction h with
  | nil => exact .nil
  | cons a _ ih => obtain ⟨B, r⟩ := a; exact .cons ⟨B, r.sub s⟩ ih
def Es.noPl : Es → Bool
  | .nil => true | .cons _ es => es.noPl | .nm _ es => es.noPl | .pl _ _ => false | .tp _ _ => false | .at _ _ _ => false
def seqT : List TE → TA
  | [] => tNil
  | t :: ts => tCons t (seqT ts)
end
end Dl
set_option maxRecDepth 100000
/-! DlOps: operators, comparisons, subscripts, built-ins over data. -/
namespace Dl
open PySem PySem.Spec PyProof.Rows L2
theorem lim_line : lim ≤ sizeLine := by decide
section
variable {X : Cx} {pins : List (Addr × Obj)} {σ : L2.St} {H : Hp} {s : Shared}

/-! ### reading data off the heap -/
mutual
def toPy : D → PyData
  | .non => .none | .bl b => .bool b | .int i => .int i | .str x => .str x
  | .tup xs => .tuple (toPys xs) | .lst xs => .list (toPys xs)
  | .dct _ => .dict [] | .ro _ => .dict [] | .obj _ _ => .dict [] | .fnc _ => .dict [] | .ali => .dict [] | .fz _ => .dict [] | .rl _ => .dict []
def toPys : List D → List PyData
  | [] => []
  | x :: xs => toPy x :: toPys xs
end
mutual
theorem plain_py : ∀ (n : Nat) (d : D), plainN n d = true → (toPy d).plain = true ∧ (toPy d).depth ≤ n
  | _, .non, _ => by simp [toPy, PyData.plain, PyData.depth]
  | _, .bl _, _ => by simp [toPy, PyData.plain, PyData.depth]
  | _, .int _, _ => by simp [toPy, PyData.plain, PyData.depth]
  | _, .str _, _ => by simp [toPy, PyData.plain, PyData.depth]
  | n + 1, .tup xs, h => by
    have h' := plain_pys n xs (by simpa [plainN] using h)
    simp only [toPy, PyData.plain, PyData.depth]
    exact ⟨h'.1, by have := h'.2; omega⟩
  | n + 1, .lst xs, h => by
    have h' := plain_pys n xs (by simpa [plainN] using h)
    simp only [toPy, PyData.plain, PyData.depth]
    exact ⟨h'.1, by have := h'.2; omega⟩
  | 0, .tup _, h => by simp [plainN] at h
  | 0, .lst _, h => by simp [plainN] at h
  | _, .dct _, h => by simp [plainN] at h
  | _, .ro _, h => by simp [plainN] at h
  | _, .fz _, h => by simp [plainN] at h
  | _, .rl _, h => by simp [plainN] at h
  | _, .obj _ _, h => by simp [plainN] at h
  | _, .fnc _, h => by simp [plainN] at h
  | _, .ali, h => by simp [plainN] at h
theorem plain_pys : ∀ (n : Nat) (ds : List D), plainAllN n ds = true → PyData.plainAll (toPys ds) = true ∧ PyData.depthAll (toPys ds) ≤ n
  | n, [], _ => by simp [toPys, PyData.plainAll, PyData.depthAll]
  | n, d :: ds, h => by
    simp only [plainAllN, Bool.and_eq_true] at h
    have h1 := plain_py n d h.1
    have h2 := plain_pys n ds h.2
    simp only [toPys, PyData.plainAll, PyData.depthAll, h1.1, h2.1, Bool.and_self, true_and]
    omega
end
mutual
theorem eqv_py : ∀ (x y : D), PyData.eqv (toPy x) (toPy y) = eqv x y
  | .non, y => by cases y <;> simp [toPy, eqv, PyData.eqv]
  | .bl _, y => by cases y <;> simp [toPy, eqv, PyData.eqv]
  | .int _, y => by cases y <;> simp [toPy, eqv, PyData.eqv]
  | .str _, y => by cases y <;> simp [toPy, eqv, PyData.eqv]
  | .dct _, y => by cases y <;> simp [toPy, eqv, PyData.eqv]
  | .ro _, y => by cases y <;> simp [toPy, eqv, PyData.eqv]
  | .fz _, y => by cases y <;> simp [toPy, eqv, PyData.eqv]
  | .rl _, y => by cases y <;> simp [toPy, eqv, PyData.eqv]
  | .obj _ _, y => by cases y <;> simp [toPy, eqv, PyData.eqv]
  | .fnc _, y => by cases y <;> simp [toPy, eqv, PyData.eqv]
  | .ali, y => by cases y <;> simp [toPy, eqv, PyData.eqv]
  | .tup xs, y => by cases y <;> simp [toPy, eqv, PyData.eqv, eqvs_py xs]
  | .lst xs, y => by cases y <;> simp [toPy, eqv, PyData.eqv, eqvs_py xs]
theorem eqvs_py : ∀ (xs ys : List D), PyData.eqvAll (toPys xs) (toPys ys) = eqvAll xs ys
  | [], [] => by simp [toPys, eqvAll, PyData.eqvAll]
  | [], _ :: _ => by simp [toPys, eqvAll, PyData.eqvAll]
  | _ :: _, [] => by simp [toPys, eqvAll, PyData.eqvAll]
  | x :: xs, y :: ys => by simp [toPys, eqvAll, PyData.eqvAll, eqv_py x y, eqvs_py xs ys]
end
mutual
theorem Rep.reads (I : Inv X pins σ H s) : ∀ {n : Nat} {d : D} {v : V} {u : Value} {B : List Addr}, plainN n d = true → Rep X.w X.K H v d B → RelV v u → ∃ as, Reads s.heap u (toPy d) as
  | _, .non, _, _, _, _, h, r => by
    cases h; cases r; exact ⟨_, by simpa [toPy] using Reads.none⟩
  | _, .bl b, _, _, _, _, h, r => by
    cases h; cases r; exact ⟨_, by simpa [toPy] using Reads.bool b⟩
  | _, .int i, _, _, _, _, h, r => by
    cases h; obtain ⟨t, rfl⟩ := r; exact ⟨_, by simpa [toPy] using Reads.int i t⟩
  | _, .str x, _, _, _, _, h, r => by
    cases h; obtain ⟨t, rfl⟩ := r; exact ⟨_, by simpa [toPy] using Reads.str x t⟩
  | n + 1, .tup ds, _, _, _, p, h, r => by
    cases h with
    | tup hs ha =>
      cases r
      obtain ⟨its, rv, ⟨o, ho, hc, m, hd⟩, _⟩ := I.tuple hs.sq
      obtain ⟨as, hr⟩ := Reps.reads I (by simpa [plainN] using p) ha rv
      exact ⟨_, by simpa [toPy] using Reads.tuple ho hc hd hr⟩
  | n + 1, .lst ds, _, _, _, p, h, r => by
    cases h with
    | lst hs ha =>
      cases r
      obtain ⟨its, rv, ⟨o, m, ho, hc, _, hd⟩, _⟩ := I.list (.inl (.inl hs))
      obtain ⟨as, hr⟩ := Reps.reads I (by simpa [plainN] using p) ha rv
      exact ⟨_, by simpa [toPy] using Reads.list ho hc hd hr⟩
  | 0, .tup _, _, _, _, h, _, _ => by simp [plainN] at h
  | 0, .lst _, _, _, _, h, _, _ => by simp [plainN] at h
  | _, .dct _, _, _, _, h, _, _ => by simp [plainN] at h
  | _, .ro _, _, _, _, h, _, _ => by simp [plainN] at h
  | _, .fz _, _, _, _, h, _, _ => by simp [plainN] at h
  | _, .rl _, _, _, _, h, _, _ => by simp [plainN] at h
  | _, .obj _ _, _, _, _, h, _, _ => by simp [plainN] at h
  | _, .fnc _, _, _, _, h, _, _ => by simp [plainN] at h
  | _, .ali, _, _, _, h, _, _ => by simp [plainN] at h
theorem Reps.reads (I : Inv X pins σ H s) : ∀ {n : Nat} {ds : List D} {vs : List V} {us : List Value} {B : List Addr}, plainAllN n ds = true → Reps X.w X.K H vs ds B → Vals vs us → ∃ as, ReadsAll s.heap us (toPys ds) as
  | n, [], _, _, _, _, h, r => by
    cases h; cases r; exact ⟨_, by simpa [toPys] using ReadsAll.nil⟩
  | n, d :: ds, _, _, _, p, h, r => by
    simp only [plainAllN, Bool.and_eq_true] at p
    cases h with
    | cons h1 h2 =>
      cases r with
      | cons r1 r2 =>
        obtain ⟨as, q1⟩ := Rep.reads I p.1 h1 r1
        obtain ⟨bs, q2⟩ := Reps.reads I p.2 h2 r2
        exact ⟨_, by simpa [toPys] using ReadsAll.cons q1 q2⟩
end
theorem plainAll_of {xs : List D} (h : xs.all D.plain = true) : plainAllN 60 xs = true := by
  induction xs with
  | nil => rfl
  | cons x xs ih =>
    simp only [List.all_cons, Bool.and_eq_true] at h
    simp only [plainAllN, Bool.and_eq_true]
    exact ⟨h.1, ih h.2⟩
theorem toPys_map (xs : List D) : toPys xs = xs.map toPy := by
  induction xs with
  | nil => rfl
  | cons x xs ih => simp [toPys, ih]
/-! ### == and != -/
theorem eq_ok (hu : X.A.units + 64 < cLine) : OpR X (compareOp .Eq) (fun vx vy H Q => ∃ x y Bx By, Rep X.w X.K H vx x Bx ∧ Rep X.w X.K H vy y By ∧ x.plain = true ∧ y.plain = true ∧ Q (.bl (eqv x y)) H) := by
  intro pins s σ H vx vy v u Q I rx ry h
  obtain ⟨x, y, Bx, By, h1, h2, p1, p2, q⟩ := h
  obtain ⟨as, r1⟩ := Rep.reads I p1 h1 rx
  obtain ⟨bs, r2⟩ := Rep.reads I p2 h2 ry
  have d1 := plain_py 60 x p1
  have d2 := plain_py 60 y p2
  refine SeqAt.eq_plain r1 r2 d1.1 d2.1 (by have := Nat.min_le_left (toPy x).depth (toPy y).depth; omega) ?_
  rw [eqv_py]
  exact ⟨.bl _, H, I, rfl, q⟩
theorem ne_ok (hu : X.A.units + 64 < cLine) : OpR X (compareOp .NotEq) (fun vx vy H Q => ∃ x y Bx By, Rep X.w X.K H vx x Bx ∧ Rep X.w X.K H vy y By ∧ x.plain = true ∧ y.plain = true ∧ Q (.bl (!eqv x y)) H) := by
  intro pins s σ H vx vy v u Q I rx ry h
  obtain ⟨x, y, Bx, By, h1, h2, p1, p2, q⟩ := h
  obtain ⟨as, r1⟩ := Rep.reads I p1 h1 rx
  obtain ⟨bs, r2⟩ := Rep.reads I p2 h2 ry
  have d1 := plain_py 60 x p1
  have d2 := plain_py 60 y p2
  refine SeqAt.ne_plain r1 r2 d1.1 d2.1 (by have := Nat.min_le_left (toPy x).depth (toPy y).depth; omega) ?_
  rw [eqv_py]
  exact ⟨.bl _, H, I, rfl, q⟩
/-! ### binary operators -/
theorem Rep.int_of {w : World} {K : PySem.W.Frag} {v : V} {i : Int} {B : List Addr} (h : Rep w K H v (.int i) B) : v = .int i := by cases h; rfl
theorem New.int {w : World} {K : PySem.W.Frag} {i : Int} {Q : VK} (h : New w K H (.int i) Q) : Q (.int i) H := h _ _ _ (Sub.refl H) (.int i) List.nodup_nil (fun _ z => nomatch z)
theorem New.str {w : World} {K : PySem.W.Frag} {i : Str} {Q : VK} (h : New w K H (.str i) Q) : Q (.str i) H := h _ _ _ (Sub.refl H) (.str i) List.nodup_nil (fun _ z => nomatch z)
theorem New.lst {w : World} {K : PySem.W.Frag} {vs : List V} {ds : List D} {Q : VK} (h : New w K H (.lst ds) Q) (r : Reps w K H vs ds []) : ∀ p, H p = none → Q (.ref p) (upd H p (.lst vs)) := fun p hp =>
  h _ _ [p] (Sub.new hp) (.lst upd_same (r.sub (Sub.new hp))) (by simp) (fun x hx => by rw [List.mem_singleton.mp hx]; exact hp)
theorem New.tup {w : World} {K : PySem.W.Frag} {vs : List V} {ds : List D} {Q : VK} (h : New w K H (.tup ds) Q) (r : Reps w K H vs ds []) : ∀ p o, H p = none → o.dict = none → Q (.ref p) (upd H p (.frz o (.tup vs))) := fun p o hp ho =>
  h _ _ [] (Sub.new hp) (.tup (.inl ⟨o, upd_same, ho⟩) (r.sub (Sub.new hp))) (by simp) (fun x hx => nomatch hx)
theorem New.old {w : World} {K : PySem.W.Frag} {v : V} {d : D} {Q : VK} (h : New w K H d Q) (r : Rep w K H v d []) : Q v H := h _ _ _ (Sub.refl H) r List.nodup_nil (fun _ z => nomatch z)
theorem reps_intsR {w : World} {K : PySem.W.Frag} : ∀ (ns : List Int), Reps w K H (ns.map V.int) (ns.map D.int) []
  | [] => .nil
  | n :: ns => by have := Reps.cons (Rep.int (w := w) (K := K) (H := H) n) (reps_intsR ns); simpa using this
theorem Reps.rep {w : World} {K : PySem.W.Frag} {vs : List V} {ds : List D} (r : Reps w K H vs ds []) : ∀ n, Reps w K H (List.replicate n vs).flatten (List.replicate n ds).flatten []
  | 0 => .nil
  | n + 1 => by
    rw [List.replicate_succ, List.replicate_succ, List.flatten_cons, List.flatten_cons]
    exact r.append (Reps.rep r n)
theorem Reps.nil_of {w : World} {K : PySem.W.Frag} {vs : List V} {ds : List D} {B : List Addr} (r : Reps w K H vs ds B) (h : immutAll ds = true) : Reps w K H vs ds [] := by
  have e := r.immut h
  rw [e] at r
  exact r
/-- a new tuple -/
theorem lay_tup (I : Inv X pins σ H s) {vs : List V} {its : List Value} (r : Vals vs its) (hz : vs.length ≤ sizeLine) :
    Inv X pins σ (upd H s.heap.objs.size (.frz { cls := .type "tuple", data := .seq its.toArray } (.tup vs))) { s with heap := s.heap.push { cls := .type "tuple", data := .seq its.toArray } } :=
  I.laid (t' := s.toks) (fun b o e => Heap.get?_push_of_some _ e) (Nat.le_refl _) (show ObjOk X.prog X.w _ _ _ (.frz _ (.tup vs)) from ⟨Heap.get?_push_size _ rfl, hz, its, r, IsTup.new _ _⟩)
def rBin (w : World) (K : PySem.W.Frag) (op : Bop) : R2 := fun vx vy H Q => ∃ x y z Bx By, Rep w K H vx x Bx ∧ Rep w K H vy y By ∧ binop op x y = some z ∧ New w K H z Q
def Bop.op : Bop → Operator
  | .add => .Add | .sub => .Sub | .mul => .Mult | .fdiv => .FloorDiv | .mod => .Mod | .pow => .Pow
theorem tuple_mul1 (l : Addr) (items : Array Value) (n : Nat) (dd : Option Addr) (sl : Array (Option Value)) (u : Tok) :
    Meets (Builtin.«tuple.__mul__» ⟨[.ref l, .int 1 u], []⟩) (fun _ R s => s.heap.get? l = some { cls := .type "tuple", dict := dd, data := .seq items n, slots := sl } ∧ R (.ok (.ret (Value.ref l))) s) :=
  .of_wp fun prog w A R s h => by
    obtain ⟨hp, g, d, tk, os⟩ := s
    obtain ⟨hl, h⟩ := h
    have f1 := AutoSeq1.idx_int
    have c1 : (items.isEmpty || (1 : Int) == 1) = true := by simp
    wp_walk using wpAny_loadPart' hl
    exact ⟨_, rfl, h⟩
theorem tup_mul {a : Addr} {k : Int} {v u : Value} {vs : List V} {ds : List D} {Q : VK} (I : Inv X pins σ H s) (rx : RelV (.ref a) v) (ry : RelV (.int k) u) (e1 : TupN X.K H a vs) (r1 : Reps X.w X.K H vs ds []) (hne : ds ≠ []) (h1 : 1 ≤ k) (h2 : k ≤ 1000) (hz : ds.length ≤ 1000)
    (q : New X.w X.K H (.tup (List.replicate k.toNat ds).flatten) Q) : wpAny (model X.prog X.w) X.A (binaryOp .Mult v u) (EP X pins σ Q) X.xe s := by
  have hl := r1.length
  obtain ⟨t, rfl⟩ := ry
  cases rx
  obtain ⟨its, r, ⟨⟨cls, dd, data, sl⟩, ho, hc, n, hd⟩, hs⟩ := I.tuple e1.sq
  simp only at hc hd
  subst hc hd
  have hle : its.length = vs.length := r.length.symm
  by_cases hk : k = 1
  · subst hk
    refine wpAny_binaryOp_repeat_ref (T := "tuple") (U := "int") (by decide) ⟨_, ho, rfl⟩ (fun s' => typeIs_int s' 1 t) noFill_tuple_mul F.fills_int_mul F.slot_int_rmul repeat_tuple F.slot_int_index.lookup
      (call_meets F.slot_int_rmul (typeIs_int s 1 t) F.entry_int_rmul (F.args_int_rmul_2 _ _) (int_rmul_tuple 1 t a its.toArray n dd sl)
        ⟨ho, rfl, ⟨_, ho, rfl⟩, call_meets F.slot_tuple_mul ⟨_, ho, rfl⟩ F.entry_tuple_mul (F.args_tuple_mul_2 _ _) (tuple_mul1 a its.toArray n dd sl t) ⟨ho, ?_⟩⟩)
    have q2 : New X.w X.K H (.tup ds) Q := by simpa using q
    exact ⟨.ref a, H, I, rfl, q2.old (.tup e1 r1)⟩
  · have hi : its.toArray.isEmpty = false := by
      cases its with
      | nil => cases ds with
        | nil => exact absurd rfl hne
        | cons _ _ => simp at hle hl; omega
      | cons a b => rfl
    have hsz0 : its.toArray.size = ds.length := by rw [List.size_toArray, hle, hl]
    have hm : ((its.toArray.size : Nat) : Int) * k ≤ 1000000 := by
      rw [hsz0]
      have a1 : ((ds.length : Nat) : Int) * k ≤ 1000 * k := Int.mul_le_mul_of_nonneg_right (by omega) (by omega)
      omega
    have fl : (List.replicate k.toNat its).flatten.length ≤ 1000 * 1000 := by
      rw [lm_len_rep_flat, hle, hl]
      exact Nat.mul_le_mul (by omega) hz
    have c0 : (decide (k < -(2 ^ 63)) || decide (k ≥ 2 ^ 63)) = false := by simp; omega
    have c1 : (its.toArray.isEmpty || k == 1) = false := by rw [hi]; simpa using hk
    have c2 : (decide (k ≤ 0) || its.toArray.isEmpty) = false := by rw [hi]; simp; omega
    have c4 : Builtin.Tuple.tupleTooMany (((its.toArray.size : Nat) : Int) * k) = false := by
      unfold Builtin.Tuple.tupleTooMany
      rw [sizeLine_eq]
      exact decide_eq_false (by omega)
    have c5 : (List.replicate k.toNat its).flatten.length ≤ sizeLine := by rw [sizeLine_eq]; omega
    refine wpAny_binaryOp_repeat_ref (T := "tuple") (U := "int") (by decide) ⟨_, ho, rfl⟩ (fun s' => typeIs_int s' k t) noFill_tuple_mul F.fills_int_mul F.slot_int_rmul repeat_tuple F.slot_int_index.lookup
      (call_meets F.slot_int_rmul (typeIs_int s k t) F.entry_int_rmul (F.args_int_rmul_2 _ _) (int_rmul_tuple k t a its.toArray n dd sl)
        ⟨ho, rfl, ⟨_, ho, rfl⟩, call_meets F.slot_tuple_mul ⟨_, ho, rfl⟩ F.entry_tuple_mul (F.args_tuple_mul_2 _ _) (tuple_mulW a its.toArray n dd sl k t c0 c1 c2 (by omega) c4 (by rw [size_rep, List.size_toArray]; exact c5)) ⟨ho, ?_⟩⟩)
    rw [size_rep]
    exact ⟨.ref _, _, lay_tup I (r.rep k.toNat) (by rw [(r.rep k.toNat).length]; exact c5), rfl, q.tup (r1.rep _) _ _ (I.hok.fresh (Nat.le_refl _)) rfl⟩
theorem bin_ok (op : Bop) : OpR X (binaryOp op.op) (rBin X.w X.K op) := by
  intro pins s σ H vx vy v u Q I rx ry h
  obtain ⟨x, y, z, Bx, By, h1, h2, e, q⟩ := h
  unfold binop at e
  split at e
  · cases e; cases h1; cases h2
    exact op_add pins s σ H _ _ v u Q I rx ry ⟨_, _, rfl, rfl, q.int⟩
  · cases e; cases h1; cases h2
    exact op_sub pins s σ H _ _ v u Q I rx ry ⟨_, _, rfl, rfl, q.int⟩
  · split at e
    · rename_i hc
      cases e; cases h1; cases h2
      unfold mulOk at hc
      rw [decide_eq_true_iff] at hc
      exact op_mul pins s σ H _ _ v u Q I rx ry ⟨_, _, rfl, rfl, hc, q.int⟩
    · cases e
  · split at e
    · rename_i hc
      cases e; cases h1; cases h2
      exact op_fdivN pins s σ H _ _ v u Q I rx ry ⟨_, _, rfl, rfl, hc, q.int⟩
    · cases e
  · split at e
    · rename_i hc
      cases e; cases h1; cases h2
      exact op_modN pins s σ H _ _ v u Q I rx ry ⟨_, _, rfl, rfl, hc, q.int⟩
    · cases e
  · split at e
    · rename_i hc
      cases e; cases h1; cases h2
      exact op_pow pins s σ H _ _ v u Q I rx ry ⟨_, _, rfl, rfl, ⟨hc.1, by omega, hc.2.2⟩, q.int⟩
    · cases e
  · split at e
    · rename_i hc
      simp only [Bool.and_eq_true, decide_eq_true_eq] at hc
      cases e
      cases h1 with
      | lst e1 r1 =>
        cases h2 with
        | lst e2 r2 =>
          have l1 := r1.length
          have l2 := r2.length
          exact op_cat pins s σ H _ _ v u Q I rx ry ⟨_, _, _, _, rfl, rfl, e1, e2, by have := lim_line; omega, q.lst ((r1.nil_of hc.1.1).append (r2.nil_of hc.1.2))⟩
    · cases e
  · split at e
    · rename_i hc
      simp only [Bool.and_eq_true, decide_eq_true_eq] at hc
      cases e
      cases h1 with
      | tup e1 r1 =>
        cases h2 with
        | tup e2 r2 =>
          have l1 := r1.length
          have l2 := r2.length
          have n1 := r1.nil_of hc.1.1
          have n2 := r2.nil_of hc.1.2
          cases rx
          cases ry
          obtain ⟨its, v1, p1, z1⟩ := I.tuple e1.sq
          obtain ⟨its2, v2, p2, z2⟩ := I.tuple e2.sq
          by_cases hx : its = []
          · subst hx
            cases v1
            cases n1
            exact cat_tup0 p1 p2 ⟨.ref _, H, I, rfl, q.old (.tup e2 n2)⟩
          · refine HT.cat_tup p1 p2 hx (fun z => ?_) (fun z => ?_) (by rw [← v1.length, ← v2.length]; have := lim_line; omega)
            · subst z
              cases v2
              cases n2
              rw [List.append_nil] at q
              exact ⟨.ref _, H, I, rfl, q.old (.tup e1 n1)⟩
            · exact ⟨.ref _, _, lay_tup I (v1.append v2) (by rw [List.length_append]; have := lim_line; omega), rfl, q.tup (n1.append n2) _ _ (I.hok.fresh (Nat.le_refl _)) rfl⟩
    · cases e
  · split at e
    · rename_i hc
      simp only [Bool.and_eq_true, decide_eq_true_eq] at hc
      cases e
      cases h1 with
      | @rl a o _ e1 =>
        rename_i ns _
        cases h2 with
        | @lst b vs _ B e2 r2 =>
          have l2 := r2.length
          have n2 := r2.nil_of hc.1
          cases rx
          cases ry
          obtain ⟨z, its, n, r, ee⟩ := (show ObjOk X.prog X.w H s.heap a (.lst (ns.map V.int)) from rd_of I.hok (.inr ⟨o, e1⟩))
          obtain ⟨z2, its2, n2', r2', hl2, ee2⟩ := I.lstM e2
          refine PySem.P.add_list ee ee2 ?_ (by have h1 := r.length; have h2 := r2'.length; rw [List.length_map] at h1; rw [List.size_toArray, List.size_toArray]; have := lim_line; omega)
          have ea : its.toArray ++ its2.toArray = (its ++ its2).toArray := by simp
          rw [ea]
          exact ⟨.ref _, _, I.lnew (t' := s.toks) (r.append r2') (by rw [List.length_append]; simp; have := lim_line; omega), rfl, q.lst ((reps_intsR ns).append n2) _ I.fresh⟩
    · cases e
  · split at e
    · rename_i hc
      simp only [Bool.and_eq_true, decide_eq_true_eq] at hc
      cases e
      cases h1 with
      | lst e1 r1 =>
        cases h2
        have l1 := r1.length
        have n1 := r1.nil_of hc.1.1.1
        exact op_rep pins s σ H _ _ v u Q I rx ry ⟨_, _, _, rfl, rfl, e1, by omega, by omega, by rw [l1]; have := lim_line; omega, q.lst (n1.rep _)⟩
    · cases e
  · split at e
    · rename_i hc
      simp only [Bool.and_eq_true, decide_eq_true_eq, Bool.not_eq_true'] at hc
      cases e
      cases h1 with
      | tup e1 r1 =>
        cases h2
        exact tup_mul I rx ry e1 (r1.nil_of hc.1.1.1.1) (by simpa using hc.1.1.1.2) hc.1.1.2 hc.1.2 hc.2 q
    · cases e
  · split at e
    · rename_i hc
      cases e; cases h1; cases h2
      exact op_add_str pins s σ H _ _ v u Q I rx ry ⟨_, _, rfl, rfl, by have := lim_line; omega, q.str⟩
    · cases e
  · cases e
end
end Dl
/-! DlDict: dicts over data. -/
namespace Dl
open PySem PySem.Spec PyProof.Rows L2

/-! ### keys -/
mutual
theorem nk_eqv : ∀ {a b : D} {x y : NestedKey}, nk a = some x → nk b = some y → eqv a b = decide (x = y)
  | .non, b, x, y, ha, hb => by
    simp only [nk, Option.some.injEq] at ha; subst ha
    cases b <;> simp [nk, eqv] at hb ⊢ <;> first | (subst hb; simp) | (obtain ⟨_, _, rfl⟩ := hb; simp)
  | .bl c, b, x, y, ha, hb => by
    simp only [nk, Option.some.injEq] at ha; subst ha
    cases b <;> simp [nk, eqv] at hb ⊢ <;> first | (subst hb; cases c <;> simp [Bool.beq_eq_decide_eq] <;> (try rename_i b; cases b <;> simp)) | (obtain ⟨_, _, rfl⟩ := hb; simp)
  | .int i, b, x, y, ha, hb => by
    simp only [nk, Option.some.injEq] at ha; subst ha
    cases b <;> simp [nk, eqv] at hb ⊢ <;> first | (subst hb; simp [Bool.beq_eq_decide_eq]) | (obtain ⟨_, _, rfl⟩ := hb; simp)
  | .str i, b, x, y, ha, hb => by
    simp only [nk, Option.some.injEq] at ha; subst ha
    cases b <;> simp [nk, eqv] at hb ⊢ <;> first | (subst hb; simp [Bool.beq_eq_decide_eq]) | (obtain ⟨_, _, rfl⟩ := hb; simp)
  | .tup xs, b, x, y, ha, hb => by
    simp only [nk, Option.map_eq_some_iff] at ha
    obtain ⟨ks, hk, rfl⟩ := ha
    cases b <;> simp [nk, eqv] at hb ⊢ <;> first
      | (subst hb; simp)
      | (obtain ⟨ks', hk', rfl⟩ := hb
         rw [nks_eqv hk hk']
         simp)
  | .lst _, _, _, _, ha, _ => by simp [nk] at ha
  | .dct _, _, _, _, ha, _ => by simp [nk] at ha
  | .ro _, _, _, _, ha, _ => by simp [nk] at ha
  | .fz _, _, _, _, ha, _ => by simp [nk] at ha
  | .rl _, _, _, _, ha, _ => by simp [nk] at ha
  | .obj _ _, _, _, _, ha, _ => by simp [nk] at ha
  | .fnc _, _, _, _, ha, _ => by simp [nk] at ha
  | .ali, _, _, _, ha, _ => by simp [nk] at ha
theorem nks_eqv : ∀ {as bs : List D} {xs ys : List NestedKey}, nks as = some xs → nks bs = some ys → eqvAll as bs = decide (xs = ys)
  | [], [], xs, ys, ha, hb => by simp [nks] at ha hb; subst ha hb; simp [eqvAll]
  | [], b :: bs, xs, ys, ha, hb => by
    simp only [nks, Option.some.injEq] at ha; subst ha
    simp only [nks, Option.bind_eq_some_iff, Option.map_eq_some_iff] at hb
    obtain ⟨k, _, ks, _, rfl⟩ := hb
    simp [eqvAll]
  | a :: as, [], xs, ys, ha, hb => by
    simp only [nks, Option.some.injEq] at hb; subst hb
    simp only [nks, Option.bind_eq_some_iff, Option.map_eq_some_iff] at ha
    obtain ⟨k, _, ks, _, rfl⟩ := ha
    simp [eqvAll]
  | a :: as, b :: bs, xs, ys, ha, hb => by
    simp only [nks, Option.bind_eq_some_iff, Option.map_eq_some_iff] at ha hb
    obtain ⟨k, hk, ks, hks, rfl⟩ := ha
    obtain ⟨j, hj, js, hjs, rfl⟩ := hb
    simp only [eqvAll, nk_eqv hk hj, nks_eqv hks hjs]
    rw [← Bool.decide_and]
    simp
end
mutual
theorem nk_of : ∀ {n : Nat} {d : D}, keyN n d = true → ∃ k, nk d = some k ∧ k.depth ≤ n
  | _, .non, _ => ⟨_, rfl, by simp [NestedKey.depth]⟩
  | _, .bl _, _ => ⟨_, rfl, by simp [NestedKey.depth]⟩
  | _, .int _, _ => ⟨_, rfl, by simp [NestedKey.depth]⟩
  | _, .str _, _ => ⟨_, rfl, by simp [NestedKey.depth]⟩
  | n + 1, .tup xs, h => by
    obtain ⟨ks, h1, h2⟩ := nks_of (n := n) (ds := xs) (by simpa [keyN] using h)
    exact ⟨.tup ks, by simp [nk, h1], by simp only [NestedKey.depth]; omega⟩
  | 0, .tup _, h => by simp [keyN] at h
  | _, .lst _, h => by simp [keyN] at h
  | _, .dct _, h => by simp [keyN] at h
  | _, .ro _, h => by simp [keyN] at h
  | _, .fz _, h => by simp [keyN] at h
  | _, .rl _, h => by simp [keyN] at h
  | _, .obj _ _, h => by simp [keyN] at h
  | _, .fnc _, h => by simp [keyN] at h
  | _, .ali, h => by simp [keyN] at h
theorem nks_of : ∀ {n : Nat} {ds : List D}, keyAllN n ds = true → ∃ ks, nks ds = some ks ∧ NestedKey.depthAll ks ≤ n
  | n, [], _ => ⟨[], rfl, by simp [NestedKey.depthAll]⟩
  | n, d :: ds, h => by
    simp only [keyAllN, Bool.and_eq_true] at h
    obtain ⟨k, h1, h2⟩ := nk_of h.1
    obtain ⟨ks, h3, h4⟩ := nks_of h.2
    exact ⟨k :: ks, by simp [nks, h1, h3], by simp only [NestedKey.depthAll]; omega⟩
end
mutual
theorem key_immut : ∀ {n : Nat} {d : D}, keyN n d = true → d.immut = true
  | _, .non, _ => rfl
  | _, .bl _, _ => rfl
  | _, .int _, _ => rfl
  | _, .str _, _ => rfl
  | n + 1, .tup xs, h => by simp only [D.immut]; exact keys_immut (n := n) (by simpa [keyN] using h)
  | 0, .tup _, h => by simp [keyN] at h
  | _, .lst _, h => by simp [keyN] at h
  | _, .dct _, h => by simp [keyN] at h
  | _, .ro _, h => by simp [keyN] at h
  | _, .fz _, h => by simp [keyN] at h
  | _, .rl _, h => by simp [keyN] at h
  | _, .obj _ _, h => by simp [keyN] at h
  | _, .fnc _, h => by simp [keyN] at h
  | _, .ali, h => by simp [keyN] at h
theorem keys_immut : ∀ {n : Nat} {ds : List D}, keyAllN n ds = true → immutAll ds = true
  | n, [], _ => rfl
  | n, d :: ds, h => by
    simp only [keyAllN, Bool.and_eq_true] at h
    simp only [immutAll, key_immut h.1, keys_immut h.2, Bool.and_self]
end

section
variable {w : World} {K : PySem.W.Frag} {H : Hp}
theorem keyD_eqv (a b : Key) : eqv (keyD a) (keyD b) = decide (a = b) := by
  cases a <;> cases b <;> simp [keyD, eqv, Bool.beq_eq_decide_eq]
theorem keyD_of {y : D} (h : y.kd = 0) : ∃ k, y = keyD k := by
  cases y <;> simp [D.kd] at h
  · exact ⟨.inl _, rfl⟩
  · exact ⟨.inr _, rfl⟩
theorem keyD_rep {v : V} {k : Key} {B : List Addr} (r : Rep w K H v (keyD k) B) : v = kV k := by
  cases k <;> (cases r; rfl)
theorem keyD_mk (k : Key) : Rep w K H (kV k) (keyD k) [] := by
  cases k
  · exact .int _
  · exact .str _
theorem RepK.length : ∀ {kvs : List (Key × V)} {ds : List (D × D)} {B : List Addr}, RepK w K H kvs ds B → kvs.length = ds.length
  | _, _, _, .nil => rfl
  | _, _, _, .cons _ t => by simp [RepK.length t]
theorem RepK.find : ∀ {kvs : List (Key × V)} {ds : List (D × D)} {B : List Addr}, RepK w K H kvs ds B → ∀ k : Key, (dget ds (keyD k) = none ∧ valV kvs k = none) ∨ ∃ dv vv A, dget ds (keyD k) = some dv ∧ valV kvs k = some vv ∧ Rep w K H vv dv A ∧ ∀ x ∈ A, x ∈ B
  | _, _, _, .nil, k => .inl ⟨rfl, rfl⟩
  | _, _, _, @RepK.cons _ _ _ k0 vv dv kvs ds A B r t, k => by
    by_cases e : k0 = k
    · subst e
      refine .inr ⟨dv, vv, A, ?_, valV_pos rfl, r, fun x hx => List.mem_append_left _ hx⟩
      simp [dget, List.find?_cons, keyD_eqv]
    · have h1 : dget ((keyD k0, dv) :: ds) (keyD k) = dget ds (keyD k) := by simp [dget, List.find?_cons, keyD_eqv, e]
      have h2 : valV ((k0, vv) :: kvs) k = valV kvs k := valV_neg e
      rw [h1, h2]
      rcases RepK.find t k with h | ⟨dv', vv', A', q1, q2, q3, q4⟩
      · exact .inl h
      · exact .inr ⟨dv', vv', A', q1, q2, q3, fun x hx => List.mem_append_right _ (q4 x hx)⟩
theorem dput_old {ds : List (D × D)} {k v u : D} (h : dget ds k = some u) : dput ds k v = ds.map fun p => if eqv p.1 k then (p.1, v) else p := by
  unfold dput dget at *
  rw [if_pos]
  obtain ⟨p, hp, _⟩ := Option.map_eq_some_iff.mp h
  exact List.any_eq_true.mpr ⟨p, List.mem_of_find?_eq_some hp, List.find?_some (p := fun (p : D × D) => eqv p.1 k) hp⟩
theorem RepK.snoc {k : Key} {v : V} {d : D} {Bv : List Addr} (rv : Rep w K H v d Bv) : ∀ {kvs : List (Key × V)} {ds : List (D × D)} {B : List Addr}, RepK w K H kvs ds B → RepK w K H (kvs ++ [(k, v)]) (ds ++ [(keyD k, d)]) (B ++ Bv)
  | _, _, _, .nil => by simpa using RepK.cons (k := k) rv .nil
  | _, _, _, .cons r t => by
    rw [List.append_assoc]
    exact .cons r (RepK.snoc rv t)
theorem RepK.same {k : Key} {v : V} {d : D} : ∀ {kvs : List (Key × V)} {ds : List (D × D)} {B : List Addr}, RepK w K H kvs ds B → k ∉ kvs.map (·.1) → RepK w K H (kvs.map fun kv => if kv.1 = k then (kv.1, v) else kv) (ds.map fun p => if eqv p.1 (keyD k) then (p.1, d) else p) B
  | _, _, _, .nil, _ => .nil
  | _, _, _, @RepK.cons _ _ _ k0 vv dv kvs ds A B r t, h => by
    simp only [List.map_cons, List.mem_cons, not_or] at h
    simp only [List.map_cons, keyD_eqv]
    rw [if_neg (Ne.symm h.1), if_neg (by simpa using Ne.symm h.1)]
    exact .cons r (RepK.same t h.2)
theorem RepK.repl {k : Key} {v : V} {d : D} {Bv : List Addr} (rv : Rep w K H v d Bv) : ∀ {kvs : List (Key × V)} {ds : List (D × D)} {B : List Addr}, RepK w K H kvs ds B → (kvs.map (·.1)).Nodup → k ∈ kvs.map (·.1) →
    ∃ B', RepK w K H (kvs.map fun kv => if kv.1 = k then (kv.1, v) else kv) (ds.map fun p => if eqv p.1 (keyD k) then (p.1, d) else p) B' ∧ (∀ x ∈ B', x ∈ B ∨ x ∈ Bv) ∧ (B.Nodup → Bv.Nodup → (∀ x ∈ Bv, x ∉ B) → B'.Nodup)
  | _, _, _, .nil, _, h => by simp at h
  | _, _, _, @RepK.cons _ _ _ k0 vv dv kvs ds A B r t, nd, h => by
    simp only [List.map_cons, List.nodup_cons] at nd
    simp only [List.map_cons, keyD_eqv]
    by_cases e : k0 = k
    · subst e
      rw [if_pos rfl, if_pos (by simp)]
      refine ⟨Bv ++ B, .cons rv (RepK.same t nd.1), fun x hx => ?_, fun n1 n2 dj => ?_⟩
      · rcases List.mem_append.mp hx with q | q
        · exact .inr q
        · exact .inl (List.mem_append_right _ q)
      · rw [List.nodup_append] at n1 ⊢
        exact ⟨n2, n1.2.1, fun a ha b hb z => dj a ha (by rw [z]; exact List.mem_append_right _ hb)⟩
    · have h' : k ∈ kvs.map (·.1) := by
        rcases List.mem_cons.mp h with q | q
        · exact absurd q.symm e
        · exact q
      obtain ⟨B', q1, q2, q3⟩ := RepK.repl rv t nd.2 h'
      rw [if_neg e, if_neg (by simpa using e)]
      refine ⟨A ++ B', .cons r q1, fun x hx => ?_, fun n1 n2 dj => ?_⟩
      · rcases List.mem_append.mp hx with q | q
        · exact .inl (List.mem_append_left _ q)
        · rcases q2 x q with z | z
          · exact .inl (List.mem_append_right _ z)
          · exact .inr z
      · rw [List.nodup_append] at n1 ⊢
        refine ⟨n1.1, q3 n1.2.1 n2 fun x hx z => dj x hx (List.mem_append_right _ z), fun a ha b hb z => ?_⟩
        rcases q2 b hb with y | y
        · exact n1.2.2 a ha b y z
        · exact dj b y (by rw [← z]; exact List.mem_append_left _ ha)
/-- d[k] = v -/
theorem RepK.put {k : Key} {v : V} {d : D} {Bv : List Addr} (rv : Rep w K H v d Bv) {kvs : List (Key × V)} {ds : List (D × D)} {B : List Addr} (r : RepK w K H kvs ds B) (nd : (kvs.map (·.1)).Nodup) :
    ∃ B', RepK w K H (putK kvs k v) (dput ds (keyD k) d) B' ∧ (∀ x ∈ B', x ∈ B ∨ x ∈ Bv) ∧ (B.Nodup → Bv.Nodup → (∀ x ∈ Bv, x ∉ B) → B'.Nodup) := by
  rcases r.find k with ⟨h1, h2⟩ | ⟨dv, vv, A, h1, h2, _, _⟩
  · rw [dput_new h1, putK_new v h2]
    refine ⟨B ++ Bv, r.snoc rv, fun x hx => List.mem_append.mp hx, fun n1 n2 dj => ?_⟩
    rw [List.nodup_append]
    exact ⟨n1, n2, fun a ha b hb z => dj b hb (by rw [← z]; exact ha)⟩
  · rw [dput_old h1]
    have hk : (kvs.any fun kv => decide (kv.1 = k)) = true := by rw [valV_any, h2]; rfl
    have e : putK kvs k v = kvs.map fun kv => if kv.1 = k then (kv.1, v) else kv := by unfold putK; rw [if_pos hk]
    rw [e]
    refine RepK.repl rv r nd ?_
    obtain ⟨p, hp, he⟩ := List.any_eq_true.mp hk
    exact List.mem_map.mpr ⟨p, hp, of_decide_eq_true he⟩

theorem blD_eqv (a b : Bool) : eqv (.bl a) (.bl b) = decide (a = b) := by
  cases a <;> cases b <;> simp [eqv]
theorem RepB.length : ∀ {kvs : List (Bool × V)} {ds : List (D × D)} {B : List Addr}, RepB w K H kvs ds B → kvs.length = ds.length
  | _, _, _, .nil => rfl
  | _, _, _, .cons _ t => by simp [RepB.length t]
theorem RepB.find : ∀ {kvs : List (Bool × V)} {ds : List (D × D)} {B : List Addr}, RepB w K H kvs ds B → ∀ k : Bool, (dget ds (.bl k) = none ∧ valV kvs k = none) ∨ ∃ dv vv A, dget ds (.bl k) = some dv ∧ valV kvs k = some vv ∧ Rep w K H vv dv A ∧ ∀ x ∈ A, x ∈ B
  | _, _, _, .nil, k => .inl ⟨rfl, rfl⟩
  | _, _, _, @RepB.cons _ _ _ k0 vv dv kvs ds A B r t, k => by
    by_cases e : k0 = k
    · subst e
      refine .inr ⟨dv, vv, A, ?_, valV_pos rfl, r, fun x hx => List.mem_append_left _ hx⟩
      simp [dget, List.find?_cons, blD_eqv]
    · have h1 : dget ((D.bl k0, dv) :: ds) (.bl k) = dget ds (.bl k) := by simp [dget, List.find?_cons, blD_eqv, e]
      have h2 : valV ((k0, vv) :: kvs) k = valV kvs k := valV_neg e
      rw [h1, h2]
      rcases RepB.find t k with h | ⟨dv', vv', A', q1, q2, q3, q4⟩
      · exact .inl h
      · exact .inr ⟨dv', vv', A', q1, q2, q3, fun x hx => List.mem_append_right _ (q4 x hx)⟩
theorem RepB.snoc {k : Bool} {v : V} {d : D} {Bv : List Addr} (rv : Rep w K H v d Bv) : ∀ {kvs : List (Bool × V)} {ds : List (D × D)} {B : List Addr}, RepB w K H kvs ds B → RepB w K H (kvs ++ [(k, v)]) (ds ++ [(D.bl k, d)]) (B ++ Bv)
  | _, _, _, .nil => by simpa using RepB.cons (k := k) rv .nil
  | _, _, _, .cons r t => by
    rw [List.append_assoc]
    exact .cons r (RepB.snoc rv t)
theorem RepB.same {k : Bool} {v : V} {d : D} : ∀ {kvs : List (Bool × V)} {ds : List (D × D)} {B : List Addr}, RepB w K H kvs ds B → k ∉ kvs.map (·.1) → RepB w K H (kvs.map fun kv => if kv.1 = k then (kv.1, v) else kv) (ds.map fun p => if eqv p.1 (.bl k) then (p.1, d) else p) B
  | _, _, _, .nil, _ => .nil
  | _, _, _, @RepB.cons _ _ _ k0 vv dv kvs ds A B r t, h => by
    simp only [List.map_cons, List.mem_cons, not_or] at h
    simp only [List.map_cons, blD_eqv]
    rw [if_neg (Ne.symm h.1), if_neg (by simpa using Ne.symm h.1)]
    exact .cons r (RepB.same t h.2)
theorem RepB.repl {k : Bool} {v : V} {d : D} {Bv : List Addr} (rv : Rep w K H v d Bv) : ∀ {kvs : List (Bool × V)} {ds : List (D × D)} {B : List Addr}, RepB w K H kvs ds B → (kvs.map (·.1)).Nodup → k ∈ kvs.map (·.1) →
    ∃ B', RepB w K H (kvs.map fun kv => if kv.1 = k then (kv.1, v) else kv) (ds.map fun p => if eqv p.1 (.bl k) then (p.1, d) else p) B' ∧ (∀ x ∈ B', x ∈ B ∨ x ∈ Bv) ∧ (B.Nodup → Bv.Nodup → (∀ x ∈ Bv, x ∉ B) → B'.Nodup)
  | _, _, _, .nil, _, h => by simp at h
  | _, _, _, @RepB.cons _ _ _ k0 vv dv kvs ds A B r t, nd, h => by
    simp only [List.map_cons, List.nodup_cons] at nd
    simp only [List.map_cons, blD_eqv]
    by_cases e : k0 = k
    · subst e
      rw [if_pos rfl, if_pos (by simp)]
      refine ⟨Bv ++ B, .cons rv (RepB.same t nd.1), fun x hx => ?_, fun n1 n2 dj => ?_⟩
      · rcases List.mem_append.mp hx with q | q
        · exact .inr q
        · exact .inl (List.mem_append_right _ q)
      · rw [List.nodup_append] at n1 ⊢
        exact ⟨n2, n1.2.1, fun a ha b hb z => dj a ha (by rw [z]; exact List.mem_append_right _ hb)⟩
    · have h' : k ∈ kvs.map (·.1) := by
        rcases List.mem_cons.mp h with q | q
        · exact absurd q.symm e
        · exact q
      obtain ⟨B', q1, q2, q3⟩ := RepB.repl rv t nd.2 h'
      rw [if_neg e, if_neg (by simpa using e)]
      refine ⟨A ++ B', .cons r q1, fun x hx => ?_, fun n1 n2 dj => ?_⟩
      · rcases List.mem_append.mp hx with q | q
        · exact .inl (List.mem_append_left _ q)
        · rcases q2 x q with z | z
          · exact .inl (List.mem_append_right _ z)
          · exact .inr z
      · rw [List.nodup_append] at n1 ⊢
        refine ⟨n1.1, q3 n1.2.1 n2 fun x hx z => dj x hx (List.mem_append_right _ z), fun a ha b hb z => ?_⟩
        rcases q2 b hb with y | y
        · exact n1.2.2 a ha b y z
        · exact dj b y (by rw [← z]; exact List.mem_append_left _ ha)
/-- d[k] = v -/
theorem RepB.put {k : Bool} {v : V} {d : D} {Bv : List Addr} (rv : Rep w K H v d Bv) {kvs : List (Bool × V)} {ds : List (D × D)} {B : List Addr} (r : RepB w K H kvs ds B) (nd : (kvs.map (·.1)).Nodup) :
    ∃ B', RepB w K H (putK kvs k v) (dput ds (.bl k) d) B' ∧ (∀ x ∈ B', x ∈ B ∨ x ∈ Bv) ∧ (B.Nodup → Bv.Nodup → (∀ x ∈ Bv, x ∉ B) → B'.Nodup) := by
  rcases r.find k with ⟨h1, h2⟩ | ⟨dv, vv, A, h1, h2, _, _⟩
  · rw [dput_new h1, putK_new v h2]
    refine ⟨B ++ Bv, r.snoc rv, fun x hx => List.mem_append.mp hx, fun n1 n2 dj => ?_⟩
    rw [List.nodup_append]
    exact ⟨n1, n2, fun a ha b hb z => dj b hb (by rw [← z]; exact ha)⟩
  · rw [dput_old h1]
    have hk : (kvs.any fun kv => decide (kv.1 = k)) = true := by rw [valV_any, h2]; rfl
    have e : putK kvs k v = kvs.map fun kv => if kv.1 = k then (kv.1, v) else kv := by unfold putK; rw [if_pos hk]
    rw [e]
    refine RepB.repl rv r nd ?_
    obtain ⟨p, hp, he⟩ := List.any_eq_true.mp hk
    exact List.mem_map.mpr ⟨p, hp, of_decide_eq_true he⟩

/-! the same of dicts whose keys are tuples -/
def tget (kvs : List (NestedKey × Addr × V)) (k : NestedKey) : Option V := (kvs.find? fun p => decide (p.1 = k)).map (·.2.2)
def tput (kvs : List (NestedKey × Addr × V)) (k : NestedKey) (t : Addr) (v : V) : List (NestedKey × Addr × V) :=
  if (tget kvs k).isSome then kvs.map fun p => if p.1 = k then (p.1, p.2.1, v) else p else kvs ++ [(k, t, v)]
theorem RepT.length : ∀ {kvs : List (NestedKey × Addr × V)} {ds : List (D × D)} {B : List Addr}, RepT w K H kvs ds B → kvs.length = ds.length
  | _, _, _, .nil => rfl
  | _, _, _, .cons _ _ _ _ t => by simp [RepT.length t]
theorem RepT.find {y : D} {k : NestedKey} (hy : nk y = some k) : ∀ {kvs : List (NestedKey × Addr × V)} {ds : List (D × D)} {B : List Addr}, RepT w K H kvs ds B → (dget ds y = none ∧ tget kvs k = none) ∨ ∃ dv vv A, dget ds y = some dv ∧ tget kvs k = some vv ∧ Rep w K H vv dv A ∧ ∀ x ∈ A, x ∈ B
  | _, _, _, .nil => .inl ⟨rfl, rfl⟩
  | _, _, _, @RepT.cons _ _ _ k0 t0 vv dk dv kvs ds A B hk hd rk r t => by
    by_cases e : k0 = k
    · subst e
      refine .inr ⟨dv, vv, A, ?_, by simp [tget, List.find?_cons], r, fun x hx => List.mem_append_left _ hx⟩
      simp [dget, List.find?_cons, nk_eqv hk hy]
    · have h1 : dget ((.tup dk, dv) :: ds) y = dget ds y := by simp [dget, List.find?_cons, nk_eqv hk hy, e]
      have h2 : tget ((k0, t0, vv) :: kvs) k = tget kvs k := by simp [tget, List.find?_cons, e]
      rw [h1, h2]
      rcases RepT.find hy t with h | ⟨dv', vv', A', q1, q2, q3, q4⟩
      · exact .inl h
      · exact .inr ⟨dv', vv', A', q1, q2, q3, fun x hx => List.mem_append_right _ (q4 x hx)⟩
theorem RepT.snoc {k : NestedKey} {t : Addr} {dk : List D} {v : V} {d : D} {Bv : List Addr} (hk : nk (.tup dk) = some k) (hd : k.depth ≤ 8) (rk : Rep w K H (.ref t) (.tup dk) []) (rv : Rep w K H v d Bv) : ∀ {kvs : List (NestedKey × Addr × V)} {ds : List (D × D)} {B : List Addr}, RepT w K H kvs ds B → RepT w K H (kvs ++ [(k, t, v)]) (ds ++ [(.tup dk, d)]) (B ++ Bv)
  | _, _, _, .nil => by simpa using RepT.cons hk hd rk rv .nil
  | _, _, _, .cons h1 h2 h3 r t => by
    rw [List.append_assoc]
    exact .cons h1 h2 h3 r (RepT.snoc hk hd rk rv t)
theorem RepT.same {k : NestedKey} {y : D} (hy : nk y = some k) {v : V} {d : D} : ∀ {kvs : List (NestedKey × Addr × V)} {ds : List (D × D)} {B : List Addr}, RepT w K H kvs ds B → k ∉ kvs.map (·.1) → RepT w K H (kvs.map fun p => if p.1 = k then (p.1, p.2.1, v) else p) (ds.map fun p => if eqv p.1 y then (p.1, d) else p) B
  | _, _, _, .nil, _ => .nil
  | _, _, _, @RepT.cons _ _ _ k0 t0 vv dk dv kvs ds A B hk hd rk r t, h => by
    simp only [List.map_cons, List.mem_cons, not_or] at h
    simp only [List.map_cons, nk_eqv hk hy]
    rw [if_neg (Ne.symm h.1), if_neg (by simpa using Ne.symm h.1)]
    exact .cons hk hd rk r (RepT.same hy t h.2)
theorem RepT.repl {k : NestedKey} {y : D} (hy : nk y = some k) {v : V} {d : D} {Bv : List Addr} (rv : Rep w K H v d Bv) : ∀ {kvs : List (NestedKey × Addr × V)} {ds : List (D × D)} {B : List Addr}, RepT w K H kvs ds B → (kvs.map (·.1)).Nodup → k ∈ kvs.map (·.1) →
    ∃ B', RepT w K H (kvs.map fun p => if p.1 = k then (p.1, p.2.1, v) else p) (ds.map fun p => if eqv p.1 y then (p.1, d) else p) B' ∧ (∀ x ∈ B', x ∈ B ∨ x ∈ Bv) ∧ (B.Nodup → Bv.Nodup → (∀ x ∈ Bv, x ∉ B) → B'.Nodup)
  | _, _, _, .nil, _, h => by simp at h
  | _, _, _, @RepT.cons _ _ _ k0 t0 vv dk dv kvs ds A B hk hd rk r t, nd, h => by
    simp only [List.map_cons, List.nodup_cons] at nd
    simp only [List.map_cons, nk_eqv hk hy]
    by_cases e : k0 = k
    · subst e
      rw [if_pos rfl, if_pos (by simp)]
      refine ⟨Bv ++ B, .cons hk hd rk rv (RepT.same hy t nd.1), fun x hx => ?_, fun n1 n2 dj => ?_⟩
      · rcases List.mem_append.mp hx with q | q
        · exact .inr q
        · exact .inl (List.mem_append_right _ q)
      · rw [List.nodup_append] at n1 ⊢
        exact ⟨n2, n1.2.1, fun a ha b hb z => dj a ha (by rw [z]; exact List.mem_append_right _ hb)⟩
    · have h' : k ∈ kvs.map (·.1) := by
        rcases List.mem_cons.mp h with q | q
        · exact absurd q.symm e
        · exact q
      obtain ⟨B', q1, q2, q3⟩ := RepT.repl hy rv t nd.2 h'
      rw [if_neg e, if_neg (by simpa using e)]
      refine ⟨A ++ B', .cons hk hd rk r q1, fun x hx => ?_, fun n1 n2 dj => ?_⟩
      · rcases List.mem_append.mp hx with q | q
        · exact .inl (List.mem_append_left _ q)
        · rcases q2 x q with z | z
          · exact .inl (List.mem_append_right _ z)
          · exact .inr z
      · rw [List.nodup_append] at n1 ⊢
        refine ⟨n1.1, q3 n1.2.1 n2 fun x hx z => dj x hx (List.mem_append_right _ z), fun a ha b hb z => ?_⟩
        rcases q2 b hb with y | y
        · exact n1.2.2 a ha b y z
        · exact dj b y (by rw [← z]; exact List.mem_append_left _ ha)
theorem RepT.put {k : NestedKey} {t : Addr} {dk : List D} {v : V} {d : D} {Bv : List Addr} (hk : nk (.tup dk) = some k) (hd : k.depth ≤ 8) (rk : Rep w K H (.ref t) (.tup dk) []) (rv : Rep w K H v d Bv) {kvs : List (NestedKey × Addr × V)} {ds : List (D × D)} {B : List Addr} (r : RepT w K H kvs ds B) (nd : (kvs.map (·.1)).Nodup) :
    ∃ B', RepT w K H (tput kvs k t v) (dput ds (.tup dk) d) B' ∧ (∀ x ∈ B', x ∈ B ∨ x ∈ Bv) ∧ (B.Nodup → Bv.Nodup → (∀ x ∈ Bv, x ∉ B) → B'.Nodup) := by
  rcases r.find hk with ⟨h1, h2⟩ | ⟨dv, vv, A, h1, h2, _, _⟩
  · rw [dput_new h1]
    unfold tput
    rw [h2, if_neg (by simp)]
    refine ⟨B ++ Bv, r.snoc hk hd rk rv, fun x hx => List.mem_append.mp hx, fun n1 n2 dj => ?_⟩
    rw [List.nodup_append]
    exact ⟨n1, n2, fun a ha b hb z => dj b hb (by rw [← z]; exact ha)⟩
  · rw [dput_old h1]
    unfold tput
    rw [h2, if_pos (by rfl)]
    refine RepT.repl hk rv r nd ?_
    obtain ⟨p, hp, _⟩ := Option.map_eq_some_iff.mp h2
    exact List.mem_map.mpr ⟨p, List.mem_of_find?_eq_some hp, of_decide_eq_true (List.find?_some (p := fun (p : NestedKey × Addr × V) => decide (p.1 = k)) hp)⟩
theorem tput_keys {kvs : List (NestedKey × Addr × V)} {k : NestedKey} {t : Addr} {v : V} (nd : (kvs.map (·.1)).Nodup) : ((tput kvs k t v).map (·.1)).Nodup := by
  unfold tput
  split
  · have e : (kvs.map fun p => if p.1 = k then (p.1, p.2.1, v) else p).map (·.1) = kvs.map (·.1) := by
      rw [List.map_map]
      refine List.map_congr_left fun p _ => ?_
      show (if p.1 = k then (p.1, p.2.1, v) else p).1 = p.1
      split <;> rfl
    rw [e]; exact nd
  · rename_i h
    rw [List.map_append, List.nodup_append]
    refine ⟨nd, by simp, fun a ha b hb z => ?_⟩
    have hb' : b = k := by simpa using hb
    obtain ⟨p, hp, rfl⟩ := List.mem_map.mp ha
    apply h
    unfold tget
    rw [Option.isSome_map, List.find?_isSome]
    exact ⟨p, hp, decide_eq_true (z.trans hb')⟩
theorem tput_length {kvs : List (NestedKey × Addr × V)} {k : NestedKey} {t : Addr} {v : V} : (tput kvs k t v).length ≤ kvs.length + 1 := by
  unfold tput
  split <;> simp
end

/-! ### over the machine's heap -/
section
variable {X : Cx} {pins : List (Addr × Obj)} {σ : L2.St} {H : Hp} {s : Shared} {A : Around} {E : Value → Shared → Prop}
mutual
theorem Rep.key (I : Inv X pins σ H s) : ∀ {d : D} {v : V} {u : Value} {B : List Addr} {k : NestedKey}, nk d = some k → Rep X.w X.K H v d B → RelV v u → NestedIs s.heap k u
  | .non, _, _, _, _, e, h, r => by
    simp only [nk, Option.some.injEq] at e; subst e
    cases h; cases r; exact .none
  | .bl b, _, _, _, _, e, h, r => by
    simp only [nk, Option.some.injEq] at e; subst e
    cases h; cases r; exact .bool rfl
  | .int i, _, _, _, _, e, h, r => by
    simp only [nk, Option.some.injEq] at e; subst e
    cases h; obtain ⟨t, rfl⟩ := r; exact .int _ _
  | .str x, _, _, _, _, e, h, r => by
    simp only [nk, Option.some.injEq] at e; subst e
    cases h; obtain ⟨t, rfl⟩ := r; exact .text _ _
  | .tup ds, _, _, _, _, e, h, r => by
    simp only [nk, Option.map_eq_some_iff] at e
    obtain ⟨ks, hk, rfl⟩ := e
    cases h with
    | tup hs ha =>
      cases r
      obtain ⟨its, rv, ⟨o, ho, hc, m, hd⟩, _⟩ := I.tuple hs.sq
      exact .tup ho hc hd (Reps.keys I hk ha rv)
  | .lst _, _, _, _, _, e, _, _ => by simp [nk] at e
  | .dct _, _, _, _, _, e, _, _ => by simp [nk] at e
  | .ro _, _, _, _, _, e, _, _ => by simp [nk] at e
  | .fz _, _, _, _, _, e, _, _ => by simp [nk] at e
  | .rl _, _, _, _, _, e, _, _ => by simp [nk] at e
  | .obj _ _, _, _, _, _, e, _, _ => by simp [nk] at e
  | .fnc _, _, _, _, _, e, _, _ => by simp [nk] at e
  | .ali, _, _, _, _, e, _, _ => by simp [nk] at e
theorem Reps.keys (I : Inv X pins σ H s) : ∀ {ds : List D} {vs : List V} {us : List Value} {B : List Addr} {ks : List NestedKey}, nks ds = some ks → Reps X.w X.K H vs ds B → Vals vs us → NestedAll s.heap ks us
  | [], _, _, _, _, e, h, r => by
    simp only [nks, Option.some.injEq] at e; subst e
    cases h; cases r; exact .nil
  | d :: ds, _, _, _, _, e, h, r => by
    simp only [nks, Option.bind_eq_some_iff, Option.map_eq_some_iff] at e
    obtain ⟨k, hk, ks, hks, rfl⟩ := e
    cases h with
    | cons h1 h2 =>
      cases r with
      | cons r1 r2 => exact .cons (Rep.key I hk h1 r1) (Reps.keys I hks h2 r2)
end
/-- entries over the heap -/
def TH (xs : List (NestedKey × Addr × Value)) (kvs : List (NestedKey × Addr × V)) : Prop := Paired (fun (x : NestedKey × Addr × Value) (p : NestedKey × Addr × V) => x.1 = p.1 ∧ x.2.1 = p.2.1 ∧ RelV p.2.2 x.2.2) xs kvs
theorem TH.find {xs : List (NestedKey × Addr × Value)} {kvs : List (NestedKey × Addr × V)} (h : TH xs kvs) (k : NestedKey) : (atKey xs k = none ∧ tget kvs k = none) ∨ ∃ t val vv, atKey xs k = some (t, val) ∧ tget kvs k = some vv ∧ RelV vv val := by
  induction h with
  | nil => exact .inl ⟨rfl, rfl⟩
  | @cons x p xs kvs r t ih =>
    obtain ⟨e1, e2, e3⟩ := r
    by_cases e : x.1 = k
    · exact .inr ⟨x.2.1, x.2.2, p.2.2, by simp [atKey, List.find?_cons, e], by simp [tget, List.find?_cons, ← e1, e], e3⟩
    · have h1 : atKey (x :: xs) k = atKey xs k := by simp [atKey, List.find?_cons, e]
      have h2 : tget (p :: kvs) k = tget kvs k := by simp [tget, List.find?_cons, ← e1, e]
      rw [h1, h2]; exact ih
theorem TH.length {xs : List (NestedKey × Addr × Value)} {kvs : List (NestedKey × Addr × V)} (h : TH xs kvs) : xs.length = kvs.length := Paired.length h
theorem TH.keys {xs : List (NestedKey × Addr × Value)} {kvs : List (NestedKey × Addr × V)} (h : TH xs kvs) : xs.map (·.1) = kvs.map (·.1) := by
  induction h with
  | nil => rfl
  | cons q _ ih => rw [List.map_cons, List.map_cons, ih, q.1]
theorem TH.snoc {xs : List (NestedKey × Addr × Value)} {kvs : List (NestedKey × Addr × V)} (h : TH xs kvs) {k : NestedKey} {t : Addr} {v : V} {u : Value} (r : RelV v u) : TH (xs ++ [(k, t, u)]) (kvs ++ [(k, t, v)]) := by
  induction h with
  | nil => exact .cons ⟨rfl, rfl, r⟩ .nil
  | cons q _ ih => exact .cons q ih
theorem TH.repl {xs : List (NestedKey × Addr × Value)} {kvs : List (NestedKey × Addr × V)} (h : TH xs kvs) {k : NestedKey} {v : V} {u : Value} (r : RelV v u) : TH (xs.map (putAt k u)) (kvs.map fun p => if p.1 = k then (p.1, p.2.1, v) else p) := by
  induction h with
  | nil => exact .nil
  | @cons x p xs kvs q _ ih =>
    refine .cons ?_ ih
    obtain ⟨e1, e2, e3⟩ := q
    unfold putAt
    dsimp only
    by_cases e : x.1 = k
    · rw [if_pos e, if_pos (e1.symm.trans e)]; exact ⟨e1, e2, r⟩
    · rw [if_neg e, if_neg (fun z => e (e1.trans z))]; exact ⟨e1, e2, e3⟩
theorem TH.put {xs : List (NestedKey × Addr × Value)} {kvs : List (NestedKey × Addr × V)} (h : TH xs kvs) {k : NestedKey} {t : Addr} {v : V} {u : Value} (r : RelV v u) : TH (storedH xs k t u) (tput kvs k t v) := by
  unfold storedH tput
  rcases h.find k with ⟨h1, h2⟩ | ⟨t', val, vv, h1, h2, _⟩
  · rw [h1, h2]; exact h.snoc r
  · rw [h1, h2]; exact h.repl r
/-- a dict with tuple keys (or none yet) over the heap -/
theorem dT_at (I : Inv X pins σ H s) {a : Addr} {ds : List (D × D)} {B : List Addr} (r : Rep X.w X.K H (.ref a) (.dct ds) B) (hk : ∀ p ∈ ds, p.1.kd = 2) :
    ∃ xs kvs B', s.heap.DictOfH (nestedKind X.prog X.w) a xs ∧ (a == sysModules) = false ∧ xs.length ≤ sizeLine ∧ TH xs kvs ∧ RepT X.w X.K H kvs ds B' ∧ B = a :: B' ∧ (kvs.map (·.1)).Nodup ∧ Mut (H a) := by
  cases r with
  | @dK _ kvs _ B' e rk =>
    cases rk with
    | nil =>
      obtain ⟨_, hd, vs, rel, o, es, ep, h1, h2, h3, h4, h5, h6⟩ := I.hok a _ e
      cases rel
      refine ⟨[], [], [], ⟨o, es, ep, h1, h2, h3, ?_, (fun _ z => nomatch z), List.nodup_nil⟩, hd, Nat.zero_le _, .nil, .nil, rfl, List.nodup_nil, by rw [e]; trivial⟩
      cases hes : es.toList with
      | nil => rfl
      | cons q r => rw [hes] at h5; cases h5
    | @cons k _ _ _ _ _ _ _ _ =>
      have := hk _ List.mem_cons_self
      cases k <;> simp [keyD, D.kd] at this
  | @dT _ kvs _ B' e hd nd hz rt =>
    obtain ⟨⟨o, es, ep, h1, h2, h3, h4⟩, _, _⟩ := I.hok a _ e
    have key : ∀ (kvs : List (NestedKey × Addr × V)) (ds : List (D × D)) (B' : List Addr) (el : List DictEntry), RepT X.w X.K H kvs ds B' → Paired (fun (p : NestedKey × Addr × V) (e : DictEntry) => e.hash = p.1.hash X.w ∧ e.key = .ref p.2.1 ∧ RelV p.2.2 e.val) kvs el →
        ∃ xs, el = xs.map (entryOfKey (nestedKind X.prog X.w)) ∧ (∀ x ∈ xs, (nestedKind X.prog X.w).is s.heap x.1 x.2.1) ∧ TH xs kvs := by
      intro kvs ds B' el rt hp
      induction hp generalizing ds B' with
      | nil => exact ⟨[], rfl, (fun _ z => nomatch z), .nil⟩
      | @cons p en kvs el q _ ih =>
        cases rt with
        | @cons k t vv dk dv _ ds' A1 B1 hk hdp rk rv rt' =>
          obtain ⟨xs, e1, e2, e3⟩ := ih _ _ rt'
          obtain ⟨q1, q2, q3⟩ := q
          refine ⟨(k, t, en.val) :: xs, ?_, fun x hx => ?_, .cons ⟨rfl, rfl, q3⟩ e3⟩
          · rw [List.map_cons, ← e1]
            congr 1
            obtain ⟨hh, kk, vl⟩ := en
            simp only at q1 q2
            subst q1 q2
            rfl
          · rcases List.mem_cons.mp hx with rfl | hx
            · exact ⟨Rep.key I hk rk rfl, hdp⟩
            · exact e2 x hx
    obtain ⟨xs, e1, e2, e3⟩ := key kvs ds B' es.toList rt h4
    refine ⟨xs, kvs, B', ⟨o, es, ep, h1, h2, h3, e1, e2, ?_⟩, hd.1, by rw [e3.length]; exact hz, e3, rt, rfl, nd, by rw [e]; trivial⟩
    have e4 : xs.map (·.1) = kvs.map (·.1) := e3.keys
    rw [e4]; exact nd
  | @dB _ kvs _ B' e hd nd rb =>
    cases rb with
    | nil => exact absurd rfl hd.2
    | cons _ _ => have := hk _ List.mem_cons_self; simp [D.kd] at this
theorem bl_pairs {P P' : Program} {w : World} {l : List DictEntry} {v : List (Bool × Value)} (h : Pairs (PpSet.boolK P w) l v) : Pairs (PpSet.boolK P' w) l v ∧ l.length = v.length := by
  induction h with
  | nil => exact ⟨.nil, rfl⟩
  | cons h1 h2 _ ih => exact ⟨.cons h1 h2 ih.1, by simp [ih.2]⟩
/-- a dict with truth values as keys (or none yet) -/
theorem dB_at (I : Inv X pins σ H s) {a : Addr} {ds : List (D × D)} {B : List Addr} (r : Rep X.w X.K H (.ref a) (.dct ds) B) (hk : ∀ p ∈ ds, p.1.kd = 1) :
    ∃ vs kvs B', s.heap.DictOf (PpSet.boolK X.prog X.w) a vs ∧ (a == sysModules) = false ∧ KV kvs vs ∧ RepB X.w X.K H kvs ds B' ∧ B = a :: B' ∧ (kvs.map (·.1)).Nodup ∧ Mut (H a) := by
  cases r with
  | @dK _ kvs _ B' e rk =>
    cases rk with
    | nil =>
      obtain ⟨_, hd, vs, rel, o, es, ep, h1, h2, h3, h4, h5, h6⟩ := I.hok a _ e
      cases rel
      have hes : es = #[] := by
        cases hes : es.toList with
        | nil => exact Array.toList_eq_nil_iff.mp hes
        | cons q r => rw [hes] at h5; cases h5
      subst hes
      exact ⟨[], [], [], ⟨o, #[], ep, h1, h2, h3, fun _ z => by simp at z, .nil, List.nodup_nil⟩, hd, .nil, .nil, rfl, List.nodup_nil, by rw [e]; trivial⟩
    | @cons k _ _ _ _ _ _ _ _ =>
      have := hk _ List.mem_cons_self
      cases k <;> simp [keyD, D.kd] at this
  | @dT _ kvs _ B' e hd nd hz rt =>
    cases rt with
    | nil => exact absurd rfl hd.2
    | cons _ _ _ _ _ => have := hk _ List.mem_cons_self; simp [D.kd] at this
  | @dB _ kvs _ B' e hd nd rb =>
    obtain ⟨⟨P, vs, ⟨o, es, ep, g1, g2, g3, g4, g5, g6⟩, h2⟩, _, _⟩ := I.hok a _ e
    exact ⟨vs, kvs, B', ⟨o, es, ep, g1, g2, g3, g4, (bl_pairs g5).1, g6⟩, hd.1, h2, rb, rfl, nd, by rw [e]; trivial⟩
/-- a dict with number or text keys -/
theorem dK_at {w : World} {K : PySem.W.Frag} {a : Addr} {ds : List (D × D)} {B : List Addr} (r : Rep w K H (.ref a) (.dct ds) B) (hk : ∀ p ∈ ds, p.1.kd = 0) :
    ∃ kvs B', H a = some (.dK kvs) ∧ RepK w K H kvs ds B' ∧ B = a :: B' := by
  cases r with
  | dK e rk => exact ⟨_, _, e, rk, rfl⟩
  | @dT _ kvs _ B' e hd nd hz rt =>
    cases rt with
    | nil => exact absurd rfl hd.2
    | cons _ _ _ _ _ =>
      have := hk _ List.mem_cons_self
      simp [D.kd] at this
  | @dB _ kvs _ B' e hd nd rb =>
    cases rb with
    | nil => exact absurd rfl hd.2
    | cons _ _ => have := hk _ List.mem_cons_self; simp [D.kd] at this
theorem kd1 {y : D} (h : y.kd = 1) : ∃ b, y = .bl b := by cases y <;> simp [D.kd] at h; exact ⟨_, rfl⟩
theorem keyOk_kd {ds : List (D × D)} {y : D} (h : keyOk ds y = true) : keyN 7 y = true ∧ ((y.kd = 0 ∨ y.kd = 1) ∨ y.kd = 2) ∧ ∀ p ∈ ds, p.1.kd = y.kd := by
  simp only [keyOk, Bool.and_eq_true, Bool.or_eq_true, List.all_eq_true, beq_iff_eq] at h
  exact ⟨h.1.1, h.1.2, h.2⟩
theorem kd2 {y : D} (h : y.kd = 2) : ∃ dk, y = .tup dk := by cases y <;> simp [D.kd] at h; exact ⟨_, rfl⟩
/-- what a look-up finds: the place is there or not -/
theorem d_look (hu : A.units + 100 < cLine) (I : Inv X pins σ H s) {a : Addr} {ds : List (D × D)} {B By : List Addr} {y : D} {vy : V} {uy : Value} (r : Rep X.w X.K H (.ref a) (.dct ds) B) (ry : Rep X.w X.K H vy y By) (rl : RelV vy uy) (hk : keyOk ds y = true) :
    (∀ (Q : Value → Shared → Prop), (∀ s', Inv X pins σ H s' → Q (.bool (dget ds y).isSome) s') → wpAny (model X.prog X.w) A (compareOp .In uy (.ref a)) Q E s) ∧
    (∀ (Q : Value → Shared → Prop), (∀ s', Inv X pins σ H s' → Q (.bool (!(dget ds y).isSome)) s') → wpAny (model X.prog X.w) A (compareOp .NotIn uy (.ref a)) Q E s) ∧
    (∀ (dv : D), dget ds y = some dv → ∃ vv A', Rep X.w X.K H vv dv A' ∧ (∀ x ∈ A', x ∈ B) ∧ ∀ (Q : Value → Shared → Prop), (∀ w' s', Inv X pins σ H s' → RelV vv w' → Q w' s') → wpAny (model X.prog X.w) A (getItem (.ref a) uy) Q E s) ∧
    s.TypeIs (.ref a) "dict" := by
  obtain ⟨hn, hc, hall⟩ := keyOk_kd hk
  rcases hc with (h0 | h1) | h2
  · obtain ⟨k, rfl⟩ := keyD_of h0
    obtain ⟨kvs, B', e, rk, rfl⟩ := dK_at r (by rw [h0] at hall; exact hall)
    have ev := keyD_rep ry
    subst ev
    have g : DGet H a (kV k) (valV kvs k) := DGet.k e
    have hio : (dget ds (keyD k)).isSome = (valV kvs k).isSome := by
      rcases rk.find k with ⟨q1, q2⟩ | ⟨_, _, _, q1, q2, _, _⟩ <;> rw [q1, q2] <;> rfl
    refine ⟨fun Q q => ?_, fun Q q => ?_, fun dv hd => ?_, dict_typeIs I g⟩
    · rw [hio] at q; exact d_in (by omega) I g rl q
    · rw [hio] at q; exact d_notIn (by omega) I g rl q
    · rcases rk.find k with ⟨q1, _⟩ | ⟨dv', vv, A', q1, q2, q3, q4⟩
      · rw [q1] at hd; cases hd
      · rw [hd] at q1; cases q1
        exact ⟨vv, A', q3, fun x hx => List.mem_cons_of_mem _ (q4 x hx), fun Q q => d_getItem (by omega) I (by rw [← q2]; exact g) rl q⟩
  · obtain ⟨b, rfl⟩ := kd1 h1
    obtain ⟨vs, kvs, B', hm, hd, rel, rb, rfl, nd, _⟩ := dB_at I r (by rw [h1] at hall; exact hall)
    cases ry
    have eu : uy = .bool b := rl
    subst eu
    have hkey := PpSet.boolK_is X.prog X.w b
    have hio : (dget ds (.bl b)).isSome = (valueAt vs b).isSome := by
      rw [← (rel.val b).isSome_eq]
      rcases rb.find b with ⟨q1, q2⟩ | ⟨_, _, _, q1, q2, _, _⟩ <;> rw [q1, q2] <;> rfl
    refine ⟨fun Q q => ?_, fun Q q => ?_, fun dv hdv => ?_, hm.mapOf.typeIs⟩
    · rw [hio] at q; exact wpAny_in_of hkey hd hm.mapOf (q _ (I.tok _))
    · rw [hio] at q; exact wpAny_notIn_of hkey hd hm.mapOf (q _ (I.tok _))
    · rcases rb.find b with ⟨q1, _⟩ | ⟨dv', vv, A', q1, q2, q3, q4⟩
      · rw [q1] at hdv; cases hdv
      · rw [hdv] at q1; cases q1
        obtain ⟨w', hw, rw'⟩ := RelO.some_of (v := vv) (o := valueAt vs b) (by rw [← q2]; exact rel.val b)
        exact ⟨vv, A', q3, fun x hx => List.mem_cons_of_mem _ (q4 x hx), fun Q q => wpAny_getItem_of hkey hm.mapOf hw (q _ _ (I.tok _) rw')⟩
  · obtain ⟨dk, rfl⟩ := kd2 h2
    obtain ⟨xs, kvs, B', hm, hd, hz, th, rt, rfl, _, _⟩ := dT_at I r (by rw [h2] at hall; exact hall)
    obtain ⟨k, hk1, hk2⟩ := nk_of hn
    cases ry with
    | @tup t vs _ _ hst hrs =>
      cases rl
      have hkey : (nestedKind X.prog X.w).is s.heap k t := ⟨Rep.key I hk1 (.tup hst hrs) rfl, by omega⟩
      have hroom : (nestedKind X.prog X.w).room A.in1 := by show A.units + 1 + 8 < cLine; omega
      have hio : (dget ds (.tup dk)).isSome = (atKey xs k).isSome := by
        rcases rt.find hk1 with ⟨q1, q2⟩ | ⟨_, _, _, q1, q2, _, _⟩ <;> rcases th.find k with ⟨q3, q4⟩ | ⟨_, _, _, q3, q4, _⟩ <;> rw [q1, q3] <;> first | rfl | (rw [q2] at q4; cases q4)
      refine ⟨fun Q q => ?_, fun Q q => ?_, fun dv hdv => ?_, hm.typeIs⟩
      · rw [hio] at q; exact wpAny_in_heap hroom hkey hd hm (q _ (I.tok _))
      · rw [hio] at q; exact wpAny_notIn_heap hroom hkey hd hm (q _ (I.tok _))
      · rcases rt.find hk1 with ⟨q1, _⟩ | ⟨dv', vv, A', q1, q2, q3, q4⟩
        · rw [q1] at hdv; cases hdv
        · rw [hdv] at q1; cases q1
          rcases th.find k with ⟨_, z⟩ | ⟨t', val, vv', z1, z2, z3⟩
          · rw [q2] at z; cases z
          · rw [q2] at z2; cases z2
            exact ⟨vv, A', q3, fun x hx => List.mem_cons_of_mem _ (q4 x hx), fun Q q => wpAny_getItem_heap hroom hkey hm z1 (q _ _ (I.tok _) z3)⟩
/-- d[y] = v -/
theorem d_store (hu : A.units + 100 < cLine) (I : Inv X pins σ H s) {a : Addr} {ds : List (D × D)} {B By Bv : List Addr} {y d : D} {vy v : V} {uy u : Value} (r : Rep X.w X.K H (.ref a) (.dct ds) B) (ry : Rep X.w X.K H vy y By) (rl : RelV vy uy) (rv : Rep X.w X.K H v d Bv) (ru : RelV v u)
    (hk : keyOk ds y = true) (hl : ds.length < lim) (hav : a ∉ Bv) (hB : B.Nodup) {Q : Unit → Shared → Prop}
    (q : ∀ H' B' s', Inv X pins σ H' s' → Rep X.w X.K H' (.ref a) (.dct (dput ds y d)) B' → (∀ x o, H x = some o → x ≠ a → H' x = some o) → (∀ x ∈ B', x ∈ B ∨ x ∈ Bv) → (Bv.Nodup → (∀ x ∈ Bv, x ∉ B) → B'.Nodup) → Q () s') :
    wpAny (model X.prog X.w) A (setItem (.ref a) uy u) Q E s := by
  obtain ⟨hn, hc, hall⟩ := keyOk_kd hk
  have up : ∀ {o : HO} (x : Addr) (u : HO), H x = some u → x ≠ a → upd H a o x = some u := fun x u e ne => by rw [upd_ne ne]; exact e
  rcases hc with (h0 | h1) | h2
  · obtain ⟨k, rfl⟩ := keyD_of h0
    obtain ⟨kvs, B1, e, rk, rfl⟩ := dK_at r (by rw [h0] at hall; exact hall)
    have ev := keyD_rep ry
    subst ev
    have hnd : (kvs.map (·.1)).Nodup := by
      obtain ⟨_, _, vs, rel, _, _, _, _, _, _, _, _, n⟩ := I.hok a _ e
      rw [rel.keys]; exact n
    obtain ⟨ha1, hB1⟩ := List.nodup_cons.mp hB
    have hlen : kvs.length < sizeLine := by rw [rk.length]; exact Nat.lt_of_lt_of_le hl lim_line
    refine d_setItem (by omega) I (DPut.k e hlen) rl ru fun s' I' => ?_
    have sy : Stay (fun x => x ≠ a) H (upd H a (.dK (putK kvs k v))) := fun x o h c => by
      by_cases hx : x = a
      · subst hx; rw [e] at h; cases h; exact absurd rfl (c trivial)
      · exact up x o h hx
    have rk' := rk.stay sy fun x hx z => ha1 (by rw [← z]; exact hx)
    have rv' := rv.stay sy fun x hx z => hav (by rw [← z]; exact hx)
    obtain ⟨B', r1, r2, r3⟩ := RepK.put (k := k) rv' rk' hnd
    refine q _ (a :: B') s' I' (.dK upd_same r1) (fun x o h ne => up x o h ne) (fun x hx => ?_) fun n dj => ?_
    · rcases List.mem_cons.mp hx with rfl | hx
      · exact .inl List.mem_cons_self
      · rcases r2 x hx with z | z
        · exact .inl (List.mem_cons_of_mem _ z)
        · exact .inr z
    · refine List.nodup_cons.mpr ⟨fun z => ?_, r3 hB1 n fun x hx z => dj x hx (List.mem_cons_of_mem _ z)⟩
      rcases r2 a z with z | z
      · exact ha1 z
      · exact hav z
  · obtain ⟨b, rfl⟩ := kd1 h1
    obtain ⟨vs, kvs, B1, hm, hd, rel, rb, rfl, hnd, mu⟩ := dB_at I r (by rw [h1] at hall; exact hall)
    obtain ⟨ha1, hB1⟩ := List.nodup_cons.mp hB
    cases ry
    have eu : uy = .bool b := rl
    subst eu
    have hz : vs.length ≤ sizeLine := by rw [← rel.length, rb.length]; have := lim_line; omega
    refine wpAny_setItem_pairs (hsz := hz) (PpSet.boolK_is X.prog X.w b) hm fun h' hm' hs' => ?_
    have rel' := rel.put b ru
    obtain ⟨o', es', ep', ho', hrest⟩ := id hm'
    have I' : Inv X pins σ (upd H a (bO X.w a (putK kvs b v))) { s with heap := h', toks := s.toks + 1 } :=
      d_write I mu hs' ⟨o', ho'⟩ ⟨⟨X.prog, _, hm', rel'⟩, ⟨o', ho'⟩, fun h1 h2 ⟨P, vs2, ⟨o2, es2, ep2, y1, y2⟩, y3⟩ hk => ⟨P, vs2, ⟨o2, es2, ep2, hk _ y1, y2⟩, y3⟩⟩
    have hch : Chg (H a) := r.chg a List.mem_cons_self
    have sy : Stay (fun x => x ≠ a) H (upd H a (bO X.w a (putK kvs b v))) := fun x o h c => by
      by_cases hx : x = a
      · subst hx; rw [h] at hch; exact absurd rfl (c hch)
      · exact up x o h hx
    have rb' := rb.stay sy fun x hx z => ha1 (by rw [← z]; exact hx)
    have rv' := rv.stay sy fun x hx z => hav (by rw [← z]; exact hx)
    obtain ⟨B', r1, r2, r3⟩ := RepB.put (k := b) rv' rb' hnd
    have hne : putK kvs b v ≠ [] := by
      intro z
      have := valV_put kvs b b v
      rw [z, if_pos rfl] at this
      cases this
    have hnk : ((putK kvs b v).map (·.1)).Nodup := by
      obtain ⟨_, _, _, _, _, _, _, _, n⟩ := hm'
      rw [rel'.keys]; exact n
    refine q _ (a :: B') _ I' (.dB upd_same ⟨hd, hne⟩ hnk r1) (fun x o h ne => up x o h ne) (fun x hx => ?_) fun n dj => ?_
    · rcases List.mem_cons.mp hx with rfl | hx
      · exact .inl List.mem_cons_self
      · rcases r2 x hx with z | z
        · exact .inl (List.mem_cons_of_mem _ z)
        · exact .inr z
    · refine List.nodup_cons.mpr ⟨fun z => ?_, r3 hB1 n fun x hx z => dj x hx (List.mem_cons_of_mem _ z)⟩
      rcases r2 a z with z | z
      · exact ha1 z
      · exact hav z
  · obtain ⟨dk, rfl⟩ := kd2 h2
    obtain ⟨xs, kvs, B1, hm, hd, hz, th, rt, rfl, hnd, mu⟩ := dT_at I r (by rw [h2] at hall; exact hall)
    obtain ⟨k, hk1, hk2⟩ := nk_of hn
    obtain ⟨ha1, hB1⟩ := List.nodup_cons.mp hB
    have hBy : By = [] := ry.immut (key_immut hn)
    subst hBy
    have ry0 := ry
    cases ry with
    | @tup t vs _ _ hst hrs =>
      cases rl
      have hkey : (nestedKind X.prog X.w).is s.heap k t := ⟨Rep.key I hk1 ry0 rfl, by omega⟩
      have hroom : (nestedKind X.prog X.w).room A.in1 := by show A.units + 1 + 8 < cLine; omega
      refine wpAny_setItem_heap (hsz := hz) hroom hkey hm fun h' hm' hs' => ?_
      obtain ⟨o, es, ep, g1, g2, g3, g4, g5, g6⟩ := hm'
      have th' := th.put (k := k) (t := t) ru
      have hp : Paired (fun (p : NestedKey × Addr × V) (e : DictEntry) => e.hash = p.1.hash X.w ∧ e.key = .ref p.2.1 ∧ RelV p.2.2 e.val) (tput kvs k t v) es.toList := by
        rw [g4]
        clear g4 g5 g6 hz
        generalize storedH xs k t u = ys at th'
        generalize tput kvs k t v = zs at th'
        induction th' with
        | nil => exact .nil
        | @cons x p _ _ z _ ih =>
          refine .cons ?_ ih
          obtain ⟨z1, z2, z3⟩ := z
          exact ⟨by rw [← z1]; rfl, by rw [← z2]; rfl, z3⟩
      have I' : Inv X pins σ (upd H a (tO X.w a (tput kvs k t v))) { s with heap := h', toks := s.toks + (nestedKind X.prog X.w).draws k } :=
        d_write I mu hs' ⟨o, g1⟩ ⟨⟨o, es, ep, g1, g2, g3, hp⟩, ⟨o, g1⟩, fun h1 h2 ⟨o', es', ep', y1, y2⟩ hk => ⟨o', es', ep', hk _ y1, y2⟩⟩
      have hch : Chg (H a) := r.chg a List.mem_cons_self
      have sy : Stay (fun x => x ≠ a) H (upd H a (tO X.w a (tput kvs k t v))) := fun x o h c => by
        by_cases hx : x = a
        · subst hx; rw [h] at hch; exact absurd rfl (c hch)
        · exact up x o h hx
      have rt' := rt.stay sy fun x hx z => ha1 (by rw [← z]; exact hx)
      have rv' := rv.stay sy fun x hx z => hav (by rw [← z]; exact hx)
      have ry' := ry0.stay sy fun x hx => nomatch hx
      obtain ⟨B', r1, r2, r3⟩ := RepT.put hk1 (by omega) ry' rv' rt' hnd
      have hne : tput kvs k t v ≠ [] := by
        unfold tput
        split
        · rename_i z
          intro y
          rw [List.map_eq_nil_iff] at y
          subst y
          simp [tget] at z
        · simp
      refine q _ (a :: B') _ I' (.dT upd_same ⟨hd, hne⟩ (tput_keys hnd) (by have := tput_length (kvs := kvs) (k := k) (t := t) (v := v); rw [rt.length] at this; have := lim_line; omega) r1) (fun x o h ne => up x o h ne) (fun x hx => ?_) fun n dj => ?_
      · rcases List.mem_cons.mp hx with rfl | hx
        · exact .inl List.mem_cons_self
        · rcases r2 x hx with z | z
          · exact .inl (List.mem_cons_of_mem _ z)
          · exact .inr z
      · refine List.nodup_cons.mpr ⟨fun z => ?_, r3 hB1 n fun x hx z => dj x hx (List.mem_cons_of_mem _ z)⟩
        rcases r2 a z with z | z
        · exact ha1 z
        · exact hav z
/-- len(d) -/
theorem d_size (I : Inv X pins σ H s) {a : Addr} {ds : List (D × D)} {B : List Addr} (r : Rep X.w X.K H (.ref a) (.dct ds) B) {Q : Value → Shared → Prop} (q : ∀ t s', Inv X pins σ H s' → Q (.int ds.length t) s') :
    wpAny (model X.prog X.w) A (call (.builtin "len") [.ref a]) Q E s := by
  cases r with
  | dK e rk => rw [← rk.length] at q; exact d_len I (.inl e) q
  | @dT _ kvs _ B' e hd nd hz rt =>
    obtain ⟨⟨o, es, ep, h1, h2, h3, h4⟩, _, _⟩ := I.hok a _ e
    have hr : s.heap.DictRaw a es ep := ⟨o, h1, h2, h3⟩
    have hl : es.size = ds.length := by rw [← rt.length, Paired.length h4, Array.length_toList]
    rw [← hl] at q
    refine PyProof.Rows.call_len_slot (n := es.size) hr.typeIs PySem.F.slot_dict_len (fun Q' hq => call_len_raw hd.1 hr hq) (by omega) ?_ (q _ _ (I.tok _))
    have := rt.length
    rw [sizeLine_eq] at hz
    omega
  | @dB _ kvs _ B' e hd nd rb =>
    obtain ⟨⟨P, vs, ⟨o, es, ep, h1, h2, h3, h4, h5, h6⟩, rel⟩, _, _⟩ := I.hok a _ e
    have hr : s.heap.DictRaw a es ep := ⟨o, h1, h2, h3⟩
    have hlv : es.toList.length = vs.length := (bl_pairs (P' := P) h5).2
    have hl : es.size = ds.length := by rw [← rb.length, rel.length, ← hlv, Array.length_toList]
    rw [← hl] at q
    have h2' : ds.length ≤ 2 := by
      rw [← rb.length]
      have hn := nd
      match kvs, hn with
      | [], _ => simp
      | [_], _ => simp
      | [_, _], _ => simp
      | (a1, _) :: (a2, _) :: (a3, _) :: _, hn => cases a1 <;> cases a2 <;> cases a3 <;> simp at hn
    exact PyProof.Rows.call_len_slot (n := es.size) hr.typeIs PySem.F.slot_dict_len (fun Q' hq => call_len_raw hd.1 hr hq) (by omega) (by omega) (q _ _ (I.tok _))
end
end Dl
/-! DlOps2: comparisons, subscripts, built-ins, isinstance, methods, stores over data. -/
namespace Dl
open PySem PySem.Spec PyProof.Rows L2
section
variable {X : Cx} {pins : List (Addr × Obj)} {σ : L2.St} {H : Hp} {s : Shared}
def Cop.op : Cop → CmpOp
  | .eq => .Eq | .ne => .NotEq | .lt => .Lt | .le => .LtE | .gt => .Gt | .ge => .GtE | .inn => .In | .nin => .NotIn
def rCmp (w : World) (K : PySem.W.Frag) (op : Cop) : R2 := fun vx vy H Q => ∃ x y b Bx By, Rep w K H vx x Bx ∧ Rep w K H vy y By ∧ cmpop op x y = some b ∧ Q (.bl b) H
theorem plain_lst {ys : List D} (h : ys.all D.plain = true) : plainN 61 (.lst ys) = true := by simp only [plainN]; exact plainAll_of h
theorem plain_tup {ys : List D} (h : ys.all D.plain = true) : plainN 61 (.tup ys) = true := by simp only [plainN]; exact plainAll_of h
theorem any_py (ys : List D) (x : D) : ((toPys ys).any fun y => PyData.eqv y (toPy x)) = ys.any fun y => eqv y x := by
  rw [toPys_map, List.any_map]
  congr 1
  funext y
  exact eqv_py y x
theorem RepK.emp {w : World} {K : PySem.W.Frag} {kvs : List (Key × V)} {ds : List (D × D)} {B : List Addr} (r : RepK w K H kvs ds B) : kvs.isEmpty = ds.isEmpty := by cases r <;> rfl
/-- a dict against an empty one -/
theorem eq_dE {a b : Addr} {kvs : List (Key × V)} {E : Value → Shared → Prop} {Q : Value → Shared → Prop} (I : Inv X pins σ H s) (hu : X.A.units + 10 < cLine) (ha : H a = some (.dK kvs)) (hb : H b = some (.dK [])) (h : Q (.bool kvs.isEmpty) s) : wpAny (model X.prog X.w) X.A (compareOp .Eq (.ref a) (.ref b)) Q E s := by
  obtain ⟨_, ya, va, ra, da⟩ := (show ObjOk X.prog X.w H s.heap a (.dK kvs) from I.hok a _ ha)
  obtain ⟨_, yb, vb, rb, db⟩ := (show ObjOk X.prog X.w H s.heap b (.dK []) from I.hok b _ hb)
  cases rb
  show wpAny _ _ (richCompare .Eq (.ref a) (.ref b)) Q E s
  refine PySem.W.rcP_dicts (knd := mixKind X.prog X.w) (r := true) ya yb da db (by omega) (fun e => ?_) E Q ?_
  · cases va with
    | nil => exact .nil
    | cons _ _ => simp at e
  · have : (va.length == ([] : List (Key × Value)).length && true) = kvs.isEmpty := by
      have := ra.length
      cases kvs <;> cases va <;> simp at this ⊢
    rw [this]; exact h
theorem ne_dE {a b : Addr} {kvs : List (Key × V)} {E : Value → Shared → Prop} {Q : Value → Shared → Prop} (I : Inv X pins σ H s) (hu : X.A.units + 10 < cLine) (ha : H a = some (.dK kvs)) (hb : H b = some (.dK [])) (h : Q (.bool (!kvs.isEmpty)) s) : wpAny (model X.prog X.w) X.A (compareOp .NotEq (.ref a) (.ref b)) Q E s := by
  obtain ⟨_, ya, va, ra, da⟩ := (show ObjOk X.prog X.w H s.heap a (.dK kvs) from I.hok a _ ha)
  obtain ⟨_, yb, vb, rb, db⟩ := (show ObjOk X.prog X.w H s.heap b (.dK []) from I.hok b _ hb)
  cases rb
  show wpAny _ _ (richCompare .NotEq (.ref a) (.ref b)) Q E s
  refine wpAny_richCompare_same_room (op := .NotEq) da.typeIs db.typeIs PySem.F.slot_dict_ne (wpAny_call_entry PySem.F.slot_dict_ne da.typeIs PySem.F.entry_dict_ne ?_ (PySem.F.args_dict_ne_2 _ _)) (by omega)
  show wpAny _ _ (Builtin.Dict.dictSlotArgs "__ne__" ⟨[.ref a, .ref b], []⟩ >>= _) _ _ s
  refine wpAny_bind ?_; unfold Builtin.Dict.dictSlotArgs
  refine wpAny_bind (wpAny_notOrdered_dict da.typeIs (wpAny_pure (wpAny_bind (wpAny_isInstance (T := "dict") db.typeIs PySem.F.sub_dict_dict ?_))))
  simp only [Bool.not_true, if_false, Bool.false_eq_true]
  refine wpAny_bind (wpAny_pure (wpAny_bind (wpAny_pure (wpAny_bind (PySem.W.samePairsP (r := true) ya yb da db (fun e => ?_) ?_)))))
  · cases va with
    | nil => exact .nil
    | cons _ _ => simp at e
  · have e2 : (va.length == ([] : List (Key × Value)).length && true) = kvs.isEmpty := by
      have := ra.length
      cases kvs <;> cases va <;> simp at this ⊢
    refine wpAny_pure ⟨_, rfl, by simp, ?_⟩
    rw [e2]
    simpa using h
theorem eq_nil_ok (hu : X.A.units + 100 < cLine) (I : Inv X pins σ H s) {a b : Addr} {us : List V} {xs : List D} {B1 : List Addr} {Q : VK} (e1 : H a = some (.lst us)) (rs1 : Reps X.w X.K H us xs B1) (e2 : H b = some (.lst [])) (q : Q (.bl xs.isEmpty) H) :
    wpAny (model X.prog X.w) X.A (compareOp .Eq (.ref a) (.ref b)) (EP X pins σ Q) X.xe s := by
  obtain ⟨its, rv, pl, _⟩ := I.list (SqL.of e1)
  obtain ⟨its2, rv2, pl2, _⟩ := I.list (SqL.of e2)
  cases rv2
  have hl : its.length = us.length := rv.length.symm
  have hl2 := rs1.length
  show wpAny _ _ (richCompare .Eq (.ref a) (.ref b)) _ _ s
  by_cases h0 : its = []
  · subst h0
    have hx : xs.isEmpty = true := by
      rw [List.isEmpty_iff]; exact List.length_eq_zero_iff.mp (by rw [← hl2, ← hl]; rfl)
    rw [hx] at q
    exact SeqAt.RcAt.lists (e := fun _ => true) pl.isList pl2.isList rfl (by omega) (fun j h1 _ => by simp at h1) _ _ _ _ ⟨.bl true, H, I, rfl, q⟩
  · have hx : xs.isEmpty = false := by
      cases xs with
      | nil => exact absurd (List.length_eq_zero_iff.mp (by rw [hl, hl2]; rfl)) h0
      | cons _ _ => rfl
    rw [hx] at q
    refine SeqAt.RcAt.lists_lengths pl.isList pl2.isList ?_ (by omega) _ _ _ _ ⟨.bl false, H, I, rfl, q⟩
    cases its with
    | nil => exact absurd rfl h0
    | cons _ _ => rfl
theorem ne_nil_ok (hu : X.A.units + 100 < cLine) (I : Inv X pins σ H s) {a b : Addr} {us : List V} {xs : List D} {B1 : List Addr} {Q : VK} (e1 : H a = some (.lst us)) (rs1 : Reps X.w X.K H us xs B1) (e2 : H b = some (.lst [])) (q : Q (.bl (!xs.isEmpty)) H) :
    wpAny (model X.prog X.w) X.A (compareOp .NotEq (.ref a) (.ref b)) (EP X pins σ Q) X.xe s := by
  obtain ⟨its, rv, pl, _⟩ := I.list (SqL.of e1)
  obtain ⟨its2, rv2, pl2, _⟩ := I.list (SqL.of e2)
  cases rv2
  have hl : its.length = us.length := rv.length.symm
  have hl2 := rs1.length
  show wpAny _ _ (richCompare .NotEq (.ref a) (.ref b)) _ _ s
  by_cases h0 : its = []
  · subst h0
    have hx : xs.isEmpty = true := by
      rw [List.isEmpty_iff]; exact List.length_eq_zero_iff.mp (by rw [← hl2, ← hl]; rfl)
    rw [hx] at q
    exact SeqAt.RcNeAt.lists (e := fun _ => true) pl.isList pl2.isList rfl (by omega) (fun j h1 _ => by simp at h1) _ _ _ _ ⟨.bl false, H, I, rfl, q⟩
  · have hx : xs.isEmpty = false := by
      cases xs with
      | nil => exact absurd (List.length_eq_zero_iff.mp (by rw [hl, hl2]; rfl)) h0
      | cons _ _ => rfl
    rw [hx] at q
    refine SeqAt.RcNeAt.lists_lengths pl.isList pl2.isList ?_ (by omega) _ _ _ _ ⟨.bl true, H, I, rfl, q⟩
    cases its with
    | nil => exact absurd rfl h0
    | cons _ _ => rfl
theorem cmp_ok (hu : X.A.units + 100 < cLine) (op : Cop) : OpR X (compareOp op.op) (rCmp X.w X.K op) := by
  intro pins s σ H vx vy v u Q I rx ry h
  obtain ⟨x, y, b, Bx, By, h1, h2, e, q⟩ := h
  unfold cmpop at e
  split at e
  · split at e
    · rename_i hk
      cases e
      obtain ⟨a, rfl⟩ : ∃ a, vx = .ref a := by cases h1 <;> exact ⟨_, rfl⟩
      obtain ⟨kvs, B', e1, rk, _⟩ := dK_at h1 fun p hp => by simpa using List.all_eq_true.mp hk p hp
      obtain ⟨b, rfl⟩ : ∃ b, vy = .ref b := by cases h2 <;> exact ⟨_, rfl⟩
      obtain ⟨kvs2, B2, e2, rk2, _⟩ := dK_at h2 fun p hp => by cases hp
      cases rk2
      cases rx; cases ry
      exact eq_dE I (by omega) e1 e2 ⟨.bl _, H, I, rfl, by rw [rk.emp]; exact q⟩
    · cases e
  · split at e
    · rename_i hk
      cases e
      obtain ⟨a, rfl⟩ : ∃ a, vx = .ref a := by cases h1 <;> exact ⟨_, rfl⟩
      obtain ⟨kvs, B', e1, rk, _⟩ := dK_at h1 fun p hp => by simpa using List.all_eq_true.mp hk p hp
      obtain ⟨b, rfl⟩ : ∃ b, vy = .ref b := by cases h2 <;> exact ⟨_, rfl⟩
      obtain ⟨kvs2, B2, e2, rk2, _⟩ := dK_at h2 fun p hp => by cases hp
      cases rk2
      cases rx; cases ry
      exact ne_dE I (by omega) e1 e2 ⟨.bl _, H, I, rfl, by rw [rk.emp]; exact q⟩
    · cases e
  · cases e
    cases h1 with
    | lst e1 rs1 =>
      cases h2 with
      | lst e2 rs2 =>
        cases rs2
        cases rx; cases ry
        exact eq_nil_ok hu I e1 rs1 e2 q
  · cases e
    cases h1 with
    | lst e1 rs1 =>
      cases h2 with
      | lst e2 rs2 =>
        cases rs2
        cases rx; cases ry
        exact ne_nil_ok hu I e1 rs1 e2 q
  · split at e
    · rename_i hp
      simp only [Bool.and_eq_true] at hp
      cases e
      exact eq_ok (by omega) pins s σ H vx vy v u Q I rx ry ⟨x, y, _, _, h1, h2, hp.1, hp.2, q⟩
    · cases e
  · split at e
    · rename_i hp
      simp only [Bool.and_eq_true] at hp
      cases e
      exact ne_ok (by omega) pins s σ H vx vy v u Q I rx ry ⟨x, y, _, _, h1, h2, hp.1, hp.2, q⟩
    · cases e
  · cases e; cases h1; cases h2
    exact op_lt pins s σ H _ _ v u Q I rx ry ⟨_, _, rfl, rfl, q⟩
  · cases e; cases h1; cases h2
    exact op_le pins s σ H _ _ v u Q I rx ry ⟨_, _, rfl, rfl, q⟩
  · cases e; cases h1; cases h2
    exact op_gt pins s σ H _ _ v u Q I rx ry ⟨_, _, rfl, rfl, q⟩
  · cases e; cases h1; cases h2
    exact op_ge pins s σ H _ _ v u Q I rx ry ⟨_, _, rfl, rfl, q⟩
  · split at e
    · rename_i hp
      simp only [Bool.and_eq_true] at hp
      cases e
      obtain ⟨as, r1⟩ := Rep.reads I hp.1 h1 rx
      obtain ⟨bs, r2⟩ := Rep.reads I (plain_lst hp.2) h2 ry
      have d1 := plain_py 60 x hp.1
      have d2 := plain_pys 60 _ (plainAll_of hp.2)
      simp only [toPy] at r2
      refine SeqAt.in_list_data r2 r1 d2.1 d1.1 (by have := Nat.min_le_left (PyData.depthAll (toPys ‹List D›)) (toPy x).depth; omega) ?_
      rw [any_py]
      exact ⟨.bl _, H, I, rfl, q⟩
    · cases e
  · split at e
    · rename_i hp
      simp only [Bool.and_eq_true] at hp
      cases e
      obtain ⟨as, r1⟩ := Rep.reads I hp.1 h1 rx
      obtain ⟨bs, r2⟩ := Rep.reads I (plain_tup hp.2) h2 ry
      have d1 := plain_py 60 x hp.1
      have d2 := plain_pys 60 _ (plainAll_of hp.2)
      simp only [toPy] at r2
      refine SeqAt.in_tuple_data r2 r1 d2.1 d1.1 (by have := Nat.min_le_left (PyData.depthAll (toPys ‹List D›)) (toPy x).depth; omega) ?_
      rw [any_py]
      exact ⟨.bl _, H, I, rfl, q⟩
    · cases e
  · split at e
    · rename_i hp
      cases e
      have r2 := h2
      obtain ⟨a, rfl⟩ : ∃ a, vy = .ref a := by cases h2 <;> exact ⟨_, rfl⟩
      cases ry
      exact (d_look (A := X.A) (E := X.xe) (by omega) I r2 h1 rx hp).1 _ fun s' I' => ⟨.bl _, H, I', rfl, q⟩
    · cases e
  · split at e
    · rename_i hp
      simp only [Bool.and_eq_true] at hp
      cases e
      obtain ⟨as, r1⟩ := Rep.reads I hp.1 h1 rx
      obtain ⟨bs, r2⟩ := Rep.reads I (plain_lst hp.2) h2 ry
      have d1 := plain_py 60 x hp.1
      have d2 := plain_pys 60 _ (plainAll_of hp.2)
      simp only [toPy] at r2
      refine SeqAt.notIn_list_data r2 r1 d2.1 d1.1 (by have := Nat.min_le_left (PyData.depthAll (toPys ‹List D›)) (toPy x).depth; omega) ?_
      rw [any_py]
      exact ⟨.bl _, H, I, rfl, q⟩
    · cases e
  · split at e
    · rename_i hp
      simp only [Bool.and_eq_true] at hp
      cases e
      obtain ⟨as, r1⟩ := Rep.reads I hp.1 h1 rx
      obtain ⟨bs, r2⟩ := Rep.reads I (plain_tup hp.2) h2 ry
      have d1 := plain_py 60 x hp.1
      have d2 := plain_pys 60 _ (plainAll_of hp.2)
      simp only [toPy] at r2
      refine SeqAt.notIn_tuple_data r2 r1 d2.1 d1.1 (by have := Nat.min_le_left (PyData.depthAll (toPys ‹List D›)) (toPy x).depth; omega) ?_
      rw [any_py]
      exact ⟨.bl _, H, I, rfl, q⟩
    · cases e
  · split at e
    · rename_i hp
      cases e
      have r2 := h2
      obtain ⟨a, rfl⟩ : ∃ a, vy = .ref a := by cases h2 <;> exact ⟨_, rfl⟩
      cases ry
      exact (d_look (A := X.A) (E := X.xe) (by omega) I r2 h1 rx hp).2.1 _ fun s' I' => ⟨.bl _, H, I', rfl, q⟩
    · cases e
  · cases e

/-! ### subscripts -/
theorem atI_Z {α : Type} (xs : List α) (i : Int) : atI xs i = atZ xs i := by
  unfold atI atZ ixN
  by_cases h : 0 ≤ i
  · rw [if_pos h, if_pos h]
    by_cases h2 : i < xs.length
    · rw [if_pos h2]; rfl
    · rw [if_neg h2]
      simp only [Option.bind_none]
      rw [List.getElem?_eq_none (by omega)]
  · rw [if_neg h, if_neg h]
    by_cases h2 : 0 ≤ (xs.length : Int) + i
    · rw [if_pos (by omega), if_pos h2]
      simp only [Option.bind_some]
      congr 1
      omega
    · rw [if_neg (by omega), if_neg h2]
      rfl
theorem atZ_get {α : Type} {xs : List α} {i : Int} {x : α} (h : atZ xs i = some x) : ∃ j : Nat, xs[j]? = some x ∧ ∀ {β : Type} (ys : List β), ys.length = xs.length → atZ ys i = ys[j]? := by
  unfold atZ at h
  by_cases h0 : 0 ≤ i
  · rw [if_pos h0] at h
    exact ⟨i.toNat, h, fun ys hl => by unfold atZ; rw [if_pos h0]⟩
  · rw [if_neg h0] at h
    by_cases h2 : 0 ≤ (xs.length : Int) + i
    · rw [if_pos h2] at h
      exact ⟨((xs.length : Int) + i).toNat, h, fun ys hl => by unfold atZ; rw [if_neg h0, hl, if_pos h2]⟩
    · rw [if_neg h2] at h; cases h
def rIxB (w : World) (K : PySem.W.Frag) : R2 := fun vx vy H Q => ∃ x y z Bx By, Rep w K H vx x Bx ∧ Rep w K H vy y By ∧ index x y = some z ∧ ∀ v B, Rep w K H v z B → (∀ a ∈ B, a ∈ Bx) → Q v H
theorem fz_look {A : Around} {E : Value → Shared → Prop} {s : Shared} {pins : List (Addr × Obj)} {σ : L2.St} {H : Hp} (hu : A.units + 100 < cLine) (I : Inv X pins σ H s) {a : Addr} {o : Obj} {kvs : List (Key × V)} {ds : List (D × D)} (e : H a = some (.frz o (.dK kvs))) (rk : RepK X.w X.K H kvs ds []) {k : Key} {uy : Value} (rl : RelV (kV k) uy) {dv : D} (hd : dget ds (keyD k) = some dv) :
    ∃ vv, Rep X.w X.K H vv dv [] ∧ s.TypeIs (.ref a) "dict" ∧ ∀ (Q : Value → Shared → Prop), (∀ w' s', Inv X pins σ H s' → RelV vv w' → Q w' s') → wpAny (model X.prog X.w) A (getItem (.ref a) uy) Q E s := by
  have g : DGet H a (kV k) (valV kvs k) := .inl ⟨kvs, k, .inr ⟨o, e⟩, rfl, rfl⟩
  rcases rk.find k with ⟨q1, _⟩ | ⟨dv', vv, A', q1, q2, q3, q4⟩
  · rw [q1] at hd; cases hd
  · rw [hd] at q1; cases q1
    have hA : A' = [] := List.eq_nil_iff_forall_not_mem.mpr fun x hx => nomatch q4 x hx
    subst hA
    exact ⟨vv, q3, dict_typeIs I g, fun Q q => d_getItem (by omega) I (by rw [← q2]; exact g) rl q⟩
theorem ix_ok (hu : X.A.units + 100 < cLine) : IxR X (rIxB X.w X.K) := by
  intro value slice pins s σ H vx vy v u Q I rx ry h hs
  obtain ⟨x, y, z, Bx, By, h1, h2, e, q⟩ := h
  unfold index at e
  split at e
  · cases h2
    cases h1 with
    | lst e1 r1 =>
      obtain ⟨j, hj, hj2⟩ := atZ_get e
      obtain ⟨v', A', g1, g2, g3⟩ := r1.getD hj
      exact ix_list value slice pins s σ H _ _ v u Q I rx ry ⟨_, _, _, _, rfl, rfl, SqL.of e1, by rw [atI_Z, hj2 _ r1.length]; exact g1, q _ _ g2 fun a ha => List.mem_cons_of_mem _ (g3 a ha)⟩ hs
  · cases h2
    cases h1 with
    | tup e1 r1 =>
      obtain ⟨j, hj, hj2⟩ := atZ_get e
      obtain ⟨v', A', g1, g2, g3⟩ := r1.getD hj
      exact ix_tup value slice pins s σ H _ _ v u Q I rx ry ⟨_, _, _, _, rfl, rfl, e1.sq, by rw [atI_Z, hj2 _ r1.length]; exact g1, q _ _ g2 g3⟩ hs
  · cases h2
    cases h1 with
    | @ro a ns e1 =>
      obtain ⟨n, hn, rfl⟩ := Option.map_eq_some_iff.mp e
      obtain ⟨j, hj, hj2⟩ := atZ_get hn
      exact ix_list value slice pins s σ H _ _ v u Q I rx ry ⟨_, _, _, _, rfl, rfl, e1.sq, by rw [atI_Z, hj2 _ (by rw [List.length_map]), List.getElem?_map, hj]; rfl, q _ _ (.int n) fun a ha => nomatch ha⟩ hs
  · split at e
    · rename_i hk
      have r1 := h1
      obtain ⟨a, rfl⟩ : ∃ a, vx = .ref a := by cases h1 <;> exact ⟨_, rfl⟩
      cases rx
      obtain ⟨_, _, g, ty⟩ := d_look (A := X.A) (E := X.xe) (by omega) I r1 h2 ry hk
      obtain ⟨vv, A', g1, g2, g3⟩ := g z e
      exact tail_any ty PySem.F.slot_dict_getitem.lookup (g3 _ fun w' s' I' r' => ⟨vv, H, I', r', q _ _ g1 g2⟩) hs
    · cases e
  · split at e
    · rename_i hk
      cases h1 with
      | fz e1 rk =>
        cases rx
        obtain ⟨k, rfl⟩ := keyD_of (by simpa using hk)
        have ev := keyD_rep h2
        subst ev
        obtain ⟨vv, g1, ty, g3⟩ := fz_look (A := X.A) (E := X.xe) (by omega) I e1 rk ry e
        exact tail_any ty PySem.F.slot_dict_getitem.lookup (g3 _ fun w' s' I' r' => ⟨vv, H, I', r', q _ _ g1 fun _ z => nomatch z⟩) hs
    · cases e
  · cases h2
    cases h1 with
    | @rl a o ns e1 =>
      obtain ⟨n, hn, rfl⟩ := Option.map_eq_some_iff.mp e
      obtain ⟨j, hj, hj2⟩ := atZ_get hn
      exact ix_list value slice pins s σ H _ _ v u Q I rx ry ⟨_, _, _, _, rfl, rfl, .inl (.inr ⟨_, e1⟩), by rw [atI_Z, hj2 _ (by rw [List.length_map]), List.getElem?_map, hj]; rfl, q _ _ (.int n) fun a ha => nomatch ha⟩ hs
  · cases e

/-- .. out of a tuple that nobody else has -/
def rIxT (w : World) (K : PySem.W.Frag) : R2 := fun vx vy H Q => ∃ xs i z Bx By, Rep w K H vx (.tup xs) Bx ∧ Rep w K H vy (.int i) By ∧ atZ xs i = some z ∧ ∀ v B, Rep w K H v z B → (∀ a ∈ B, a ∈ Bx) → (Bx.Nodup → B.Nodup) → Q v H
theorem ixT_ok (hu : X.A.units + 100 < cLine) : IxR X (rIxT X.w X.K) := by
  intro value slice pins s σ H vx vy v u Q I rx ry h hs
  obtain ⟨x, y, z, Bx, By, h1, h2, e, q⟩ := h
  cases h2
  cases h1 with
  | tup e1 r1 =>
    obtain ⟨j, hj, hj2⟩ := atZ_get e
    obtain ⟨v', A', g1, g2, g3, g4⟩ := r1.getN hj
    exact ix_tup value slice pins s σ H _ _ v u Q I rx ry ⟨_, _, _, _, rfl, rfl, e1.sq, by rw [atI_Z, hj2 _ r1.length]; exact g1, q _ _ g2 g3 g4⟩ hs
/-! ### stores -/
theorem ixN_Z (n : Nat) (i : Int) : ixN n i = ixZ n i := by
  unfold ixN ixZ
  by_cases h : 0 ≤ i
  · rw [if_pos h, if_pos h]
  · rw [if_neg h, if_neg h]
    by_cases h2 : 0 ≤ (n : Int) + i
    · rw [if_pos (by omega), if_pos h2]
      congr 2
      omega
    · rw [if_neg (by omega), if_neg h2]
theorem ixZ_lt {n : Nat} {i : Int} {j : Nat} (h : ixZ n i = some j) : j < n := by
  unfold ixZ at h
  split at h
  · split at h
    · cases h; omega
    · cases h
  · split at h
    · cases h; omega
    · cases h
theorem Reps.set {w : World} {K : PySem.W.Frag} {v : V} {d : D} {Bv : List Addr} (rv : Rep w K H v d Bv) : ∀ {vs : List V} {ds : List D} {B : List Addr}, Reps w K H vs ds B → ∀ (j : Nat), j < vs.length →
    ∃ B', Reps w K H (vs.set j v) (ds.set j d) B' ∧ (∀ x ∈ B', x ∈ B ∨ x ∈ Bv) ∧ (B.Nodup → Bv.Nodup → (∀ x ∈ Bv, x ∉ B) → B'.Nodup)
  | _, _, _, .nil, j, h => by simp at h
  | _, _, _, @Reps.cons _ _ _ v0 vs d0 ds A B r t, 0, h => by
    refine ⟨Bv ++ B, .cons rv t, fun x hx => ?_, fun n1 n2 dj => ?_⟩
    · rcases List.mem_append.mp hx with q | q
      · exact .inr q
      · exact .inl (List.mem_append_right _ q)
    · rw [List.nodup_append] at n1 ⊢
      exact ⟨n2, n1.2.1, fun a ha b hb z => dj a ha (by rw [z]; exact List.mem_append_right _ hb)⟩
  | _, _, _, @Reps.cons _ _ _ v0 vs d0 ds A B r t, j + 1, h => by
    obtain ⟨B', q1, q2, q3⟩ := Reps.set rv t j (by simpa using h)
    refine ⟨A ++ B', .cons r q1, fun x hx => ?_, fun n1 n2 dj => ?_⟩
    · rcases List.mem_append.mp hx with q | q
      · exact .inl (List.mem_append_left _ q)
      · rcases q2 x q with z | z
        · exact .inl (List.mem_append_right _ z)
        · exact .inr z
    · rw [List.nodup_append] at n1 ⊢
      refine ⟨n1.1, q3 n1.2.1 n2 fun x hx z => dj x hx (List.mem_append_right _ z), fun a ha b hb z => ?_⟩
      rcases q2 b hb with y | y
      · exact n1.2.2 a ha b y z
      · exact dj b y (by rw [← z]; exact List.mem_append_left _ ha)
/-- o[k] = v: what stands at o, what may be stored there -/
def rSt (w : World) (K : PySem.W.Frag) : V → V → V → Hp → (Hp → Prop) → Prop := fun vo vk v H Q => ∃ o k d o' Bo Bk Bv, Rep w K H vo o Bo ∧ Rep w K H vk k Bk ∧ Rep w K H v d Bv ∧ mset o k d = some o' ∧ Bo.Nodup ∧ Bv.Nodup ∧ (∀ x ∈ Bv, x ∉ Bo) ∧
  ∀ H' B', Rep w K H' vo o' B' → (∀ x u, H x = some u → x ∉ Bo → H' x = some u) → (∀ x ∈ B', x ∈ Bo ∨ x ∈ Bv) → B'.Nodup → Q H'
theorem st_ok (hu : X.A.units + 100 < cLine) : PSet X (rSt X.w X.K) := by
  intro pins s σ H vo vk v ov kv u Q I ro rk rv h
  obtain ⟨o, k, d, o', Bo, Bk, Bv, h1, h2, h3, e, n1, n2, dj, q⟩ := h
  unfold mset at e
  split at e
  · cases h2
    cases h1 with
    | @lst a vs ds B e1 r1 =>
      obtain ⟨j, hj, rfl⟩ := Option.map_eq_some_iff.mp e
      obtain ⟨ha, nB⟩ := List.nodup_cons.mp n1
      have hav : a ∉ Bv := fun z => dj a z List.mem_cons_self
      have hl := r1.length
      refine set_list pins s σ H _ _ v ov kv u Q I ro rk rv ⟨a, vs, _, j, rfl, rfl, e1, by rw [ixN_Z, hl]; exact hj, ?_⟩
      have sy : Stay (fun x => x ≠ a) H (upd H a (.lst (vs.set j v))) := fun x u h c => by
        by_cases hx : x = a
        · subst hx; rw [e1] at h; cases h; exact absurd rfl (c trivial)
        · rw [upd_ne hx]; exact h
      obtain ⟨B', g1, g2, g3⟩ := Reps.set (h3.stay sy fun x hx z => hav (by rw [← z]; exact hx)) (r1.stay sy fun x hx z => ha (by rw [← z]; exact hx)) j (by rw [hl]; exact ixZ_lt hj)
      refine q _ (a :: B') (.lst upd_same g1) (fun x u h nx => ?_) (fun x hx => ?_) ?_
      · rw [upd_ne fun z => nx (by rw [z]; exact List.mem_cons_self)]; exact h
      · rcases List.mem_cons.mp hx with rfl | hx
        · exact .inl List.mem_cons_self
        · rcases g2 x hx with z | z
          · exact .inl (List.mem_cons_of_mem _ z)
          · exact .inr z
      · refine List.nodup_cons.mpr ⟨fun z => ?_, g3 nB n2 fun x hx z => dj x hx (List.mem_cons_of_mem _ z)⟩
        rcases g2 a z with z | z
        · exact ha z
        · exact hav z
  · split at e
    · rename_i hk
      simp only [Bool.and_eq_true, decide_eq_true_eq] at hk
      cases e
      have r1 := h1
      obtain ⟨a, rfl, ha⟩ : ∃ a, vo = .ref a ∧ a ∈ Bo := by cases h1 <;> exact ⟨_, rfl, List.mem_cons_self⟩
      cases ro
      refine d_store (by omega) I r1 h2 rk h3 rv hk.1 hk.2 (fun z => dj a z ha) n1 fun H' B' s' I' r' kp sb nd => ⟨H', I', q H' B' r' (fun x u h nx => kp x u h fun z => nx (by rw [z]; exact ha)) sb (nd n2 dj)⟩
    · cases e
  · cases e
end
end Dl
/-! DlRaw: list(d) of a dict with tuple keys. -/
namespace Dl
open PySem PySem.Spec PyProof.Rows L2
section
variable {prog : Program} {w : World} {A : Around} {d : Addr} {es : Array DictEntry} {ep : Nat}
/-- the dict's entries, as they lie there -/
def RawAt (h : Heap) (d : Addr) (es : Array DictEntry) (ep : Nat) : Prop := ∃ o, h.get? d = some o ∧ o.ExactDict ∧ o.data = .dict es ep
theorem walks_raw (hh : A.handled = none) (I d : Addr) (hne : d ≠ I) (es : Array DictEntry) (ep : Nat) :
    Walks prog w A I [I, d] [I] es.size (fun i v => ∃ e, es[i]? = some e ∧ v = e.key) (fun i h => h.IsKeyIter I d i es.size ep ∧ RawAt h d es ep) where
  sub := fun b hb => by simp at hb; simp [hb]
  frame := fun i h h' ⟨st, o, h1, h2⟩ hk => ⟨st.at fun o e => hk I (by simp) o e, o, hk d (by simp) o h1, h2⟩
  item := fun i s Q E hi st hQ => by
    obtain ⟨hit, o, h1, h2, h3⟩ := st
    have hx : es[i]? = some es[i] := by simp [hi]
    refine next_key_item hit h1 h3 rfl hx fun h' hit' hs' => ?_
    exact hQ _ h' s.toks ⟨_, hx, rfl⟩ ⟨hit', o, (hs'.2 d hne).trans h1, h2, h3⟩ fun b ob hb e => (hs'.2 b fun z => hb (by simp [z])).trans e
  done := fun s Q E st hQ => by
    obtain ⟨hit, o, h1, h2, h3⟩ := st
    exact next_key_end hh hit h1 h3 rfl (Nat.le_refl _) fun h' he' => hQ h' s.toks fun b ob hb e => he' b ob (fun z => hb (by simp [z])) e
  self := fun _ _ _ _ st hQ => wpAny_pyIter_keyiter st.1 hQ
theorem src_raw (lo : (d == sysModules) = false) : PySem.W.KdlSrc prog w "dict" d d es.size (fun i v => ∃ e, es[i]? = some e ∧ v = e.key) (fun h => RawAt h d es ep) where
  type := fun _ ⟨o, h1, h2, _⟩ => ⟨o, h1, h2.1⟩
  there := fun _ ⟨o, h1, _⟩ => ⟨Heap.lt_size h1, Heap.lt_size h1⟩
  keep := fun _ _ ⟨o, h1, h2⟩ hk => ⟨o, hk d (.inl rfl) o h1, h2⟩
  notList := by decide
  notTuple := by decide
  hint := fun _ _ _ _ ⟨o, h1, h2, _⟩ hq => PySem.W.kdl_hint_dict ⟨o, h1, h2.1⟩ hq
  iter := fun A s hh hm => by
    obtain ⟨o, h1, h2, h3⟩ := hm
    refine ⟨_, _, fun E Q hq => iter_keys lo h1 h2 h3 hq, walks_raw hh _ d (Nat.ne_of_lt (Heap.lt_size h1)) es ep, ⟨⟨_, Heap.get?_push_size _ rfl, rfl, rfl⟩, o, Heap.get?_push_of_some _ h1, h2, h3⟩⟩
end
theorem call_list_tO {X : Cx} (hc : X.calm = true) : CallR X (.type "list") fun xs H Q => ∃ p kvs, xs = [.ref p] ∧ H p = some (tO X.w p kvs) ∧ (p == sysModules) = false ∧ kvs.length ≤ sizeLine ∧ ∀ q, H q = none → Q (.ref q) (upd H q (.lst (kvs.map fun kv => V.ref kv.2.1))) := by
  intro pins s σ H xs us Q I r h
  obtain ⟨p, kvs, e, hk, lo, z, q⟩ := h
  subst e
  obtain ⟨u, eu, rx⟩ := vals1 r
  subst eu
  obtain rfl : u = Value.ref p := rx
  obtain ⟨⟨o, es, ep, h1, h2, h3, h4⟩, _, _⟩ := I.hok p _ hk
  have hl : es.size = kvs.length := by rw [Paired.length h4, Array.length_toList]
  refine PySem.W.kdl_call (src_raw (es := es) (ep := ep) lo) (I.ok.hd hc) ⟨o, h1, h2, h3⟩ (by rw [hl]; exact z) fun h' tk acc' c' hkeep hS hacc => ?_
  refine ⟨.ref s.heap.objs.size, upd H s.heap.objs.size (.lst (kvs.map fun kv => V.ref kv.2.1)), I.laid hkeep (Nat.le_refl _) (show ObjOk X.prog X.w _ _ _ (.lst (kvs.map fun kv => V.ref kv.2.1)) from ⟨?_, acc'.toList, c', ?_, ?_⟩), rfl, q _ (I.hok.fresh (Nat.le_refl _))⟩
  · rw [List.length_map]; exact z
  · have el : acc'.toList.length = acc'.size := by simp
    refine vals_of_at (by rw [List.length_map, el, hacc.1, hl]) fun j x w h1' h2' => ?_
    obtain ⟨en, hen, rfl⟩ := hacc.2 j w (by rw [← Array.getElem?_toList]; exact h2')
    rw [List.getElem?_map] at h1'
    cases hkv : kvs[j]? with
    | none => rw [hkv] at h1'; cases h1'
    | some kv =>
      rw [hkv] at h1'
      cases h1'
      obtain ⟨en2, g1, g2⟩ := L2.paired_get h4 hkv
      rw [Array.getElem?_toList, hen] at g1
      cases g1
      exact g2.2.1
  · rw [Array.toArray_toList]; exact hS
end Dl
/-! DlOps3: built-ins, isinstance, methods over data. -/
namespace Dl
open PySem PySem.Spec PyProof.Rows L2
section
variable {prog : Program} {w : World} {A : Around} {E : Value → Shared → Prop} {s : Shared} {l : Addr} {its : List Value} {ns : List Int} {Q : Value → Shared → Prop}
theorem max_rawT (hh : A.handled = none) (hl : s.heap.IsTuple l its.toArray) (hi : IntsAre its ns) (hne : 0 < ns.length)
    (h : ∀ h' tk M t', (∀ b o, s.heap.get? b = some o → h'.get? b = some o) → M ∈ ns → (∀ a, a ∈ ns → a ≤ M) → Q (.int M t') { s with heap := h', toks := tk }) : wpAny (model prog w) A (call (.builtin "max") [.ref l]) Q E s := by
  obtain ⟨xs, e⟩ := hi.allInts.items
  have hn : numsOf (intItems xs).toList = ns := by rw [← e]; exact hi.numsOf
  rw [nums_intItems] at hn
  subst hn
  rw [e] at hl
  have hsz : 0 < xs.size := by simpa using hne
  have hlt : l < s.heap.objs.size := by obtain ⟨_, e, _⟩ := hl; exact Heap.lt_size e
  refine call_max_walk (wpAny_pyIter_tuple hl ?_)
  refine ⟨_, _, _, _, _, _, _, rfl, Walks.tuple (A := A.in1) hh _ l (Nat.ne_of_lt hlt) (intItems xs), ⟨⟨_, Heap.get?_push_size _ rfl, rfl, rfl⟩, hl.push _⟩, fun b hb => ?_, by simpa [intItems] using hsz, CmpOf.ints_gt (numAt xs) (fun _ _ => intItems_at), fun v h' tk hP hk => ?_⟩
  · show b < (s.heap.push _).objs.size
    rw [Heap.size_push]
    rcases List.mem_cons.mp hb with rfl | hb
    · exact Nat.lt_succ_self _
    · rcases List.mem_cons.mp hb with rfl | hb
      · exact Nat.lt_succ_of_lt hlt
      · cases hb
  · have hv : (intItems xs)[argBest (fun i j => decide (numAt xs i > numAt xs j)) (xs.size - 1)]? = some v := by simpa [intItems] using hP
    have hk2 : ∀ b o, s.heap.get? b = some o → h'.get? b = some o := fun b o e => by
      refine hk b o (fun hm => ?_) (Heap.get?_push_of_some _ e)
      rcases List.mem_cons.mp hm with e1 | hm
      · exact absurd (e1 ▸ Heap.lt_size e) (Nat.lt_irrefl _)
      · cases hm
    obtain ⟨t, rfl⟩ := intItems_at hv
    obtain ⟨h1, h2⟩ := argBest_gt (numAt xs) (xs.size - 1)
    refine h h' tk _ t hk2 ?_ fun a ha => ?_
    · rw [numAt_eq]; exact PySem.getD_mem (by rw [List.length_map, Array.length_toList]; omega)
    · obtain ⟨j, hj, rfl⟩ := mem_getD ha
      rw [List.length_map, Array.length_toList] at hj
      rw [← numAt_eq]; exact h2 j (by omega)
end
section
variable {X : Cx} {pins : List (Addr × Obj)} {σ : L2.St} {H : Hp} {s : Shared}
theorem ints_of : ∀ {ds : List D} {ns : List Int}, ints? ds = some ns → ds = ns.map D.int
  | [], ns, h => by simp only [ints?, Option.some.injEq] at h; subst h; rfl
  | d :: ds, ns, h => by
    cases d <;> simp only [ints?, reduceCtorEq, Option.map_eq_some_iff] at h
    obtain ⟨r, hr, rfl⟩ := h
    rw [ints_of hr]; rfl
theorem Reps.ints {w : World} {K : PySem.W.Frag} : ∀ {ns : List Int} {vs : List V} {B : List Addr}, Reps w K H vs (ns.map D.int) B → vs = ns.map V.int
  | [], _, _, h => by cases h; rfl
  | n :: ns, _, _, h => by
    cases h with
    | cons r t => cases r; rw [Reps.ints t]; rfl
theorem imax_is {ns : List Int} {m : Int} (h : m ∈ ns) (hm : ∀ y ∈ ns, y ≤ m) : imax ns = some m := by
  cases ns with
  | nil => cases h
  | cons a r =>
    show some (r.foldl max a) = some m
    have key : ∀ (r : List Int) (a : Int), (m = a ∨ m ∈ r) → a ≤ m → (∀ y ∈ r, y ≤ m) → r.foldl max a = m := by
      intro r
      induction r with
      | nil => intro a h1 h2 _; rcases h1 with h1 | h1
               · exact h1.symm
               · cases h1
      | cons b r ih =>
        intro a h1 h2 h3
        rw [List.foldl_cons]
        have hb := h3 b List.mem_cons_self
        refine ih _ ?_ (by omega) fun y hy => h3 y (List.mem_cons_of_mem _ hy)
        rcases h1 with h1 | h1
        · left; omega
        · rcases List.mem_cons.mp h1 with h1 | h1
          · left; omega
          · right; exact h1
    rw [key r a (List.mem_cons.mp h) (hm a List.mem_cons_self) fun y hy => hm y (List.mem_cons_of_mem _ hy)]
theorem imin_is {ns : List Int} {m : Int} (h : m ∈ ns) (hm : ∀ y ∈ ns, m ≤ y) : imin ns = some m := by
  cases ns with
  | nil => cases h
  | cons a r =>
    show some (r.foldl min a) = some m
    have key : ∀ (r : List Int) (a : Int), (m = a ∨ m ∈ r) → m ≤ a → (∀ y ∈ r, m ≤ y) → r.foldl min a = m := by
      intro r
      induction r with
      | nil => intro a h1 h2 _; rcases h1 with h1 | h1
               · exact h1.symm
               · cases h1
      | cons b r ih =>
        intro a h1 h2 h3
        rw [List.foldl_cons]
        have hb := h3 b List.mem_cons_self
        refine ih _ ?_ (by omega) fun y hy => h3 y (List.mem_cons_of_mem _ hy)
        rcases h1 with h1 | h1
        · left; omega
        · rcases List.mem_cons.mp h1 with h1 | h1
          · left; omega
          · right; exact h1
    rw [key r a (List.mem_cons.mp h) (hm a List.mem_cons_self) fun y hy => hm y (List.mem_cons_of_mem _ hy)]
theorem isort_is {ns ns' : List Int} (hp : ns'.Perm ns) (hs : ns'.Pairwise (· ≤ ·)) : ns' = isort ns := by
  have h1 : (isort ns).Perm ns := List.mergeSort_perm ns _
  have h2 : (isort ns).Pairwise (· ≤ ·) := by
    have := List.pairwise_mergeSort (le := fun a b : Int => decide (a ≤ b)) (fun a b c h1 h2 => by simp at *; omega) (fun a b => by simp; omega) ns
    exact this.imp fun h => by simpa using h
  exact (hp.trans h1.symm).eq_of_pairwise (fun a b _ _ h1 h2 => by omega) hs h2
theorem reps_ints {w : World} {K : PySem.W.Frag} : ∀ (ns : List Int), Reps w K H (ns.map V.int) (ns.map D.int) []
  | [] => .nil
  | n :: ns => by have := Reps.cons (Rep.int (w := w) (K := K) (H := H) n) (reps_ints ns); simpa using this
theorem RepT.keysR {w : World} {K : PySem.W.Frag} : ∀ {kvs : List (NestedKey × Addr × V)} {ds : List (D × D)} {B : List Addr}, RepT w K H kvs ds B → Reps w K H (kvs.map fun kv => V.ref kv.2.1) (ds.map (·.1)) []
  | _, _, _, .nil => .nil
  | _, _, _, .cons h1 h2 h3 r t => by have := Reps.cons h3 (RepT.keysR t); simpa using this
theorem RepK.keysR {w : World} {K : PySem.W.Frag} : ∀ {kvs : List (Key × V)} {ds : List (D × D)} {B : List Addr}, RepK w K H kvs ds B → Reps w K H (kvs.map fun kv => kV kv.1) (ds.map (·.1)) []
  | _, _, _, .nil => .nil
  | _, _, _, .cons (k := k) r t => by have := Reps.cons (keyD_mk (w := w) (K := K) (H := H) k) (RepK.keysR t); simpa using this
theorem RepK.nil_of {w : World} {K : PySem.W.Frag} : ∀ {kvs : List (Key × V)} {ds : List (D × D)} {B : List Addr}, RepK w K H kvs ds B → (∀ p ∈ ds, p.2.immut = true) → RepK w K H kvs ds []
  | _, _, _, .nil, _ => .nil
  | _, _, _, .cons (k := k) r t, h => by
    have e0 := r.immut (h _ List.mem_cons_self)
    subst e0
    have := RepK.cons (k := k) r (RepK.nil_of t fun p hp => h p (List.mem_cons_of_mem _ hp))
    simpa using this
theorem New.dK {w : World} {K : PySem.W.Frag} {kvs : List (Key × V)} {ds : List (D × D)} {Q : VK} (h : New w K H (.dct ds) Q) (r : RepK w K H kvs ds []) : ∀ p, H p = none → Q (.ref p) (upd H p (.dK kvs)) := fun p hp =>
  h _ _ [p] (Sub.new hp) (.dK upd_same (r.stay (S := fun _ => True) (Sub.new hp).stay fun _ _ => trivial)) (by simp) fun x hx => by rw [List.mem_singleton.mp hx]; exact hp
/-- (k, v) pairs -/
theorem pairs_rep {w : World} {K : PySem.W.Frag} : ∀ {xs : List D} {vs : List V} {B : List Addr} {ps : List (D × D)}, Reps w K H vs xs B → pairs? xs = some ps → ∃ (as : List Addr) (kvs : List (Key × V)), vs = as.map V.ref ∧ Paired (fun p kv => SqT K H p [kV kv.1, kv.2]) as kvs ∧ RepK w K H kvs ps []
  | [], _, _, ps, .nil, h => by
    simp only [pairs?, Option.some.injEq] at h
    subst h
    exact ⟨[], [], rfl, .nil, .nil⟩
  | d :: ds, _, _, ps, .cons r t, h => by
    unfold pairs? at h
    split at h
    · rename_i heq; cases heq
    · rename_i k v r' heq
      cases heq
      split at h
      · rename_i hk
        simp only [Bool.and_eq_true, beq_iff_eq] at hk
        obtain ⟨ps', hp, rfl⟩ := Option.map_eq_some_iff.mp h
        obtain ⟨as, kvs, rfl, g1, g2⟩ := pairs_rep t hp
        cases r with
        | @tup a us _ _ e1 rs =>
          cases rs with
          | cons rk rs =>
            cases rs with
            | cons rv rs =>
              cases rs
              obtain ⟨kk, rfl⟩ := keyD_of hk.1
              have ek := keyD_rep rk
              subst ek
              have e0 := rv.immut hk.2
              subst e0
              exact ⟨a :: as, (kk, _) :: kvs, rfl, .cons e1.sq g1, by have := RepK.cons (k := kk) rv g2; simpa using this⟩
      · cases h
    · cases h
theorem nd_put {kvs : List (Key × V)} {k : Key} (v : V) (hn : (kvs.map (·.1)).Nodup) : ((putK kvs k v).map (·.1)).Nodup := by
  cases h : valV kvs k with
  | none => rw [putK_new v h, List.map_append, List.nodup_append]; exact ⟨hn, by simp, fun a ha b hb z => by
      simp only [List.map_cons, List.map_nil, List.mem_singleton] at hb
      obtain ⟨p, hp, e⟩ := List.mem_map.mp ha
      rw [z, hb] at e
      have : (kvs.any fun kv => decide (kv.1 = k)) = true := List.any_eq_true.mpr ⟨p, hp, decide_eq_true e⟩
      rw [valV_any, h] at this
      cases this⟩
  | some u =>
    have hk : (kvs.any fun kv => decide (kv.1 = k)) = true := by rw [valV_any, h]; rfl
    unfold putK
    rw [if_pos hk, List.map_map]
    have : (kvs.map ((·.1) ∘ fun kv => if kv.1 = k then (kv.1, v) else kv)) = kvs.map (·.1) := List.map_congr_left fun p _ => by
      show (if p.1 = k then (p.1, v) else p).1 = p.1
      split <;> rfl
    rw [this]; exact hn
theorem RepK.merge {w : World} {K : PySem.W.Frag} : ∀ {more : List (Key × V)} {ps : List (D × D)} {kvs : List (Key × V)} {ds : List (D × D)} {B : List Addr}, RepK w K H more ps B → B = [] → RepK w K H kvs ds [] → (kvs.map (·.1)).Nodup → RepK w K H (mergeK kvs more) (dputs ds ps) [] ∧ ((mergeK kvs more).map (·.1)).Nodup
  | _, _, _, _, _, .nil, _, r0, nd => ⟨r0, nd⟩
  | _, _, kvs, ds, _, .cons (k := k) (vv := vv) (A := A') (B := B') rv rt, hB, r0, nd => by
    have hA : A' = [] := by cases A' with | nil => rfl | cons _ _ => cases hB
    subst hA
    have hB' : B' = [] := by simpa using hB
    obtain ⟨C, p1, p2, _⟩ := RepK.put (k := k) rv r0 nd
    have hC : C = [] := by
      cases C with
      | nil => rfl
      | cons x C => rcases p2 x List.mem_cons_self with z | z <;> cases z
    subst hC
    have h := RepK.merge rt hB' p1 (nd_put vv nd)
    exact h
/-! min of (number, tuple of numbers) -/
theorem nrow_of : ∀ {xs : List D} {rs : List (Int × List Int)}, nrow? xs = some rs → xs = rs.map nrowD
  | [], rs, h => by simp only [nrow?, Option.some.injEq] at h; subst h; rfl
  | d :: xs, rs, h => by
    unfold nrow? at h
    split at h
    · rename_i heq; cases heq
    · rename_i m bs r' heq
      cases heq
      obtain ⟨ns, hn, h⟩ := Option.bind_eq_some_iff.mp h
      obtain ⟨r2, h2, rfl⟩ := Option.map_eq_some_iff.mp h
      rw [ints_of hn, nrow_of h2]; rfl
    · cases h
def nrowP (x : Int × List Int) : PyData := .tuple [.int x.1, .tuple (x.2.map .int)]
theorem toPy_nrow (x : Int × List Int) : toPy (nrowD x) = nrowP x := by
  unfold nrowD nrowP
  simp only [toPy, toPys, toPys_map, List.map_map]
  congr 3
theorem alike_nrow (a b : Int × List Int) : PySem.W.alike (nrowP a) (nrowP b) = true := by
  simp [nrowP, PySem.W.alike, PySem.W.alikeAll, PySem.W.alike_ints]
theorem lt_nrow (a b : Int × List Int) : PySem.W.dataLt (nrowP a) (nrowP b) = nlt a b := by
  unfold nrowP nlt
  have e1 : PyData.eqv (.int a.1) (.int b.1) = decide (a.1 = b.1) := by simp [PyData.eqv]; rfl
  rw [PySem.W.dataLt_pair (by simp [PySem.W.alike]) (by simp [PySem.W.alike, PySem.W.alike_ints]), e1, PySem.W.dataLt_int, PySem.W.dataLt_tuple]
  have e2 : PyProof.Rows.lexLt PyProof.Rows.itemOrd (PySem.W.keyToksAll (a.2.map .int)) (PySem.W.keyToksAll (b.2.map .int)) = decide (a.2 < b.2) := PySem.W.dataLt_ints a.2 b.2
  rw [e2]
  by_cases h : a.1 = b.1
  · simp only [h, decide_true, if_true]
    by_cases h2 : PyData.eqv (.tuple (a.2.map .int)) (.tuple (b.2.map .int)) = true
    · rw [if_pos h2]
      have h3 := eqv_py (.tup (a.2.map .int)) (.tup (b.2.map .int))
      have t1 : ∀ ns : List Int, toPy (.tup (ns.map .int)) = .tuple (ns.map .int) := fun ns => by
        simp only [toPy, toPys_map, List.map_map]; congr 1
      rw [t1, t1, h2] at h3
      have h4 : a.2 = b.2 := by
        have key : ∀ (x y : List Int), eqvAll (x.map D.int) (y.map D.int) = true → x = y := by
          intro x
          induction x with
          | nil => intro y h; cases y with | nil => rfl | cons _ _ => simp [eqvAll] at h
          | cons u x ih => intro y h; cases y with | nil => simp [eqvAll] at h | cons v y =>
            simp only [List.map_cons, eqvAll, Bool.and_eq_true] at h
            have : u = v := by simpa [eqv] using h.1
            rw [this, ih y h.2]
        exact key _ _ (by simpa [eqv] using h3.symm)
      rw [h4]
      symm
      rw [decide_eq_false_iff_not]
      exact List.lt_irrefl _
    · rw [if_neg h2]
  · simp only [h, decide_false, if_false, Bool.false_eq_true]
theorem nmin_py (x : Int × List Int) (r : List (Int × List Int)) : (r.map nrowP).foldl (fun a y => if PySem.W.dataLt y a then y else a) (nrowP x) = nrowP (nmin x r) := by
  unfold nmin
  induction r generalizing x with
  | nil => rfl
  | cons y r ih =>
    rw [List.map_cons, List.foldl_cons, List.foldl_cons, lt_nrow]
    have e : (if nlt y x = true then nrowP y else nrowP x) = nrowP (if nlt y x = true then y else x) := by split <;> rfl
    rw [e, ih]
theorem nrowP_inj {a b : Int × List Int} (h : nrowP a = nrowP b) : a = b := by
  unfold nrowP at h
  simp only [PyData.tuple.injEq, List.cons.injEq, PyData.int.injEq, and_true] at h
  obtain ⟨h1, h2⟩ := h
  have h3 : a.2 = b.2 := by
    have key : ∀ (x y : List Int), x.map PyData.int = y.map PyData.int → x = y := by
      intro x
      induction x with
      | nil => intro y h; cases y with | nil => rfl | cons _ _ => simp at h
      | cons u x ih => intro y h; cases y with | nil => simp at h | cons v y =>
        simp only [List.map_cons, List.cons.injEq, PyData.int.injEq] at h
        rw [h.1, ih y h.2]
    exact key _ _ h2
  exact Prod.ext h1 h3
theorem plain_nrow (x : Int × List Int) : (nrowD x).plain = true := by
  unfold nrowD D.plain
  simp only [plainN, plainAllN, Bool.and_true, Bool.true_and]
  generalize x.2 = ns
  show plainAllN 58 (ns.map D.int) = true
  induction ns with
  | nil => rfl
  | cons n ns ih => simp [plainAllN, plainN, ih]
theorem depth_nrow (x : Int × List Int) : (nrowP x).depth ≤ 60 := by
  have := plain_py 60 (nrowD x) (plain_nrow x)
  rw [toPy_nrow] at this
  exact this.2
theorem nrow_imm (x : Int × List Int) : (nrowD x).immut = true := by
  unfold nrowD
  simp only [D.immut, immutAll, Bool.and_true, Bool.true_and]
  exact immutAll_map fun _ _ => rfl
theorem depthAll_le : ∀ {xs : List PyData} {n : Nat}, (∀ x ∈ xs, x.depth ≤ n) → PyData.depthAll xs ≤ n
  | [], n, _ => Nat.zero_le _
  | x :: xs, n, h => by
    simp only [PyData.depthAll]
    exact Nat.max_le.mpr ⟨h x List.mem_cons_self, depthAll_le fun y hy => h y (List.mem_cons_of_mem _ hy)⟩
theorem min_run (hc : X.calm = true) (hu : X.A.units + 100 < cLine) (I : Inv X pins σ H s) {a : Addr} {its : List Value} {vs : List V} {ds : List D} {B : List Addr} {z : D} {Q : VK} (hl : s.heap.IsList a its.toArray) (rs : Reps X.w X.K H vs ds B) (rv : Vals vs its) (e : minT ds = some z) (q : New X.w X.K H z Q) :
    wpAny (model X.prog X.w) X.A (call (.builtin "min") [.ref a]) (EP X pins σ Q) X.xe s := by
  unfold minT at e
  split at e
  · rename_i x r hn
    cases e
    have ed := nrow_of hn
    subst ed
    obtain ⟨as, hr⟩ := Reps.reads (n := 60) I (plainAll_of (List.all_eq_true.mpr fun d hd => by obtain ⟨y, _, rfl⟩ := List.mem_map.mp hd; exact plain_nrow y)) rs rv
    have ep : toPys ((x :: r).map nrowD) = nrowP x :: r.map nrowP := by
      rw [toPys_map, List.map_map]
      show (x :: r).map (toPy ∘ nrowD) = _
      have : (toPy ∘ nrowD) = nrowP := funext toPy_nrow
      rw [this]; rfl
    rw [ep] at hr
    have hal : PySem.W.AlikeAll (nrowP x :: r.map nrowP) := by
      have : ∀ y ∈ nrowP x :: r.map nrowP, ∃ t, y = nrowP t := fun y hy => by
        rcases List.mem_cons.mp hy with rfl | hy
        · exact ⟨x, rfl⟩
        · obtain ⟨t, _, rfl⟩ := List.mem_map.mp hy; exact ⟨t, rfl⟩
      refine ⟨fun y hy y' hy' => ?_, fun y hy => ?_⟩
      · obtain ⟨t, rfl⟩ := this y hy
        obtain ⟨t', rfl⟩ := this y' hy'
        exact alike_nrow t t'
      · obtain ⟨t, rfl⟩ := this y hy
        exact fun z => by cases z
    have hd : PyData.depthAll (nrowP x :: r.map nrowP) ≤ 60 := depthAll_le fun y hy => by
      rcases List.mem_cons.mp hy with rfl | hy
      · exact depth_nrow x
      · obtain ⟨t, _, rfl⟩ := List.mem_map.mp hy; exact depth_nrow t
    have hr' : ReadsAll s.heap its.toArray.toList (nrowP x :: r.map nrowP) as := by simpa using hr
    have hlen : its.length = r.length + 1 := by rw [← rv.length, rs.length]; simp
    refine PySem.call_min_walkH (PySem.W.iter_listW (A := X.A.in1) (I.ok.hd hc) hl fun s₂ e W st hfp hw hk => ?_)
    refine ⟨_, _, _, _, _, _, _, s.heap, _, rfl, W, st, hfp, by simp; omega, hw, hk, PySem.W.cmpIn_lt (A := X.A.in1) hr' hal (by show X.A.units + 1 + _ < _; omega), fun v s' hP m => ?_⟩
    obtain ⟨h', tk, rfl, hk'⟩ := PySem.W.moved_old e rfl m
    obtain ⟨hb1, hb2⟩ := PySem.W.argBest_fold PySem.W.dataLt PyData.none (nrowP x) (r.map nrowP) (r.map nrowP).length (Nat.le_refl _)
    rw [List.take_length, nmin_py] at hb2
    have e1 : its.toArray.size - 1 = (r.map nrowP).length := by simp; omega
    rw [e1] at hP
    generalize argBest (fun i j => PySem.W.dataLt ((nrowP x :: r.map nrowP).getD i .none) ((nrowP x :: r.map nrowP).getD j .none)) (r.map nrowP).length = i at hP hb1 hb2
    have hi : i < (x :: r).length := by simp at hb1 ⊢; omega
    have hget : (nrowP x :: r.map nrowP).getD i .none = nrowP (x :: r)[i] := by
      show ((x :: r).map nrowP).getD i .none = _
      rw [List.getD_eq_getElem?_getD, List.getElem?_map, List.getElem?_eq_getElem hi]; rfl
    rw [hget] at hb2
    have hx := nrowP_inj hb2
    have hP' : its[i]? = some v := by simpa using hP
    obtain ⟨vv, A', g1, g2, _⟩ := rs.getD (i := i) (d := nrowD (x :: r)[i]) (by rw [List.getElem?_map, List.getElem?_eq_getElem hi]; rfl)
    obtain ⟨u, g3, g4⟩ := rv.get g1
    rw [hP'] at g3
    cases g3
    have e0 := g2.immut (nrow_imm _)
    subst e0
    rw [hx] at g2
    exact ⟨vv, H, I.kept hk', g4, q.old g2⟩
  · cases e
def Bf.callee : Bf → Value
  | .len => .builtin "len" | .tuple => .type "tuple" | .list => .type "list" | .max1 => .builtin "max" | .max2 => .builtin "max" | .min2 => .builtin "min"
  | .sum1 => .builtin "sum" | .min1 => .builtin "min" | .dict1 => .type "dict" | .sorted1 => .builtin "sorted" | .int1 => .type "int"
def rBf (w : World) (K : PySem.W.Frag) (f : Bf) : List V → Hp → VK → Prop := fun vs H Q => ∃ ds z, BReps w K H vs ds ∧ bfun f ds = some z ∧ New w K H z Q
theorem BReps.one {w : World} {K : PySem.W.Frag} {vs : List V} {d : D} (h : BReps w K H vs [d]) : ∃ v B, vs = [v] ∧ Rep w K H v d B := by
  cases h with
  | cons r t => cases t; obtain ⟨B, r⟩ := r; exact ⟨_, B, rfl, r⟩
theorem BReps.two {w : World} {K : PySem.W.Frag} {vs : List V} {d e : D} (h : BReps w K H vs [d, e]) : ∃ v u B C, vs = [v, u] ∧ Rep w K H v d B ∧ Rep w K H u e C := by
  cases h with
  | cons r t =>
    obtain ⟨u, C, rfl, r2⟩ := BReps.one t
    obtain ⟨B, r⟩ := r
    exact ⟨_, _, B, C, rfl, r, r2⟩
theorem RepK.keysI {w : World} {K : PySem.W.Frag} : ∀ {kvs : List (Key × V)} {ds : List (D × D)} {B : List Addr} {ns : List Int}, RepK w K H kvs ds B → ds.map (·.1) = ns.map D.int → kvs.map (·.1) = ns.map Sum.inl
  | _, _, _, [], .nil, _ => rfl
  | _, _, _, _ :: _, .nil, h => by simp at h
  | _, _, _, [], .cons _ _, h => by simp at h
  | _, _, _, i :: ns, .cons (k := k) r1 r2, h => by
    simp only [List.map_cons, List.cons.injEq] at h ⊢
    refine ⟨?_, RepK.keysI r2 h.2⟩
    cases k with
    | inl j => have := h.1; simp only [keyD] at this; cases this; rfl
    | inr x => have := h.1; simp only [keyD] at this; cases this
/-- max(d), the keys whole numbers -/
theorem cr_maxK (hc : X.calm = true) : CallR X (.builtin "max") (fun vs H Q => ∃ (a : Addr) (kvs : List (Key × V)) (is : List Int), vs = [V.ref a] ∧ H a = some (.dK kvs) ∧ kvs.map (·.1) = is.map Sum.inl ∧ is ≠ [] ∧ ∀ m, m ∈ is → (∀ j ∈ is, j ≤ m) → Q (.int m) H) := by
  intro pins s σ H vs us Q I r h
  obtain ⟨a, kvs, is, rfl, ha, hv, hne, q⟩ := h
  rw [Vals.ref1 r]
  obtain ⟨_, hsys, ws, rel, dof⟩ := dk_of I.hok ha
  obtain ⟨ep, dat⟩ := dof.dictAt
  have hlt : a < s.heap.objs.size := by obtain ⟨ob, es, ho, _⟩ := id dat; exact Heap.lt_size ho
  have hkeys : ws.map (·.1) = is.map Sum.inl := (KV.keys rel).symm.trans hv
  have hlv : ws.length = is.length := by have e1 := congrArg List.length hkeys; simpa using e1
  have hlen : 0 < ws.length := by rw [hlv]; exact List.length_pos_iff.mpr hne
  have hval : ∀ (i : Nat) (v : Value), (∃ k x, ws[i]? = some (k, x) ∧ (mixKind X.prog X.w).is k v = true) → ∃ t, v = Value.int (is.getD i 0) t := fun i v ⟨k, x, hk, hkey⟩ => by
    have e1 : (ws.map (·.1))[i]? = some k := by rw [List.getElem?_map, hk]; rfl
    rw [hkeys, List.getElem?_map] at e1
    obtain ⟨j, hj, rfl⟩ := Option.map_eq_some_iff.mp e1
    obtain ⟨t, e3⟩ := Value.isInt_shape (k := j) (v := v) hkey
    exact ⟨t, by rw [e3, List.getD_eq_getElem?_getD, hj]; rfl⟩
  refine call_max_walk (wpAny_pyIter_dict (knd := mixKind X.prog X.w) hsys dat ⟨_, _, _, _, _, _, _, rfl, Walks.dictKeys (knd := mixKind X.prog X.w) (A := X.A.in1) (I.ok.hd hc) s.heap.objs.size a (Nat.ne_of_lt hlt) ws ep,
    ⟨⟨_, Heap.get?_push_size _ rfl, rfl, rfl⟩, dat.keep fun b u e => Heap.get?_push_of_some _ e⟩, fun b hb => ?_, hlen, CmpOf.ints_gt (fun i => is.getD i 0) hval, fun v h' tk hP hk => ?_⟩)
  · show b < (s.heap.push _).objs.size
    rw [Heap.size_push]
    simp only [List.mem_cons, List.not_mem_nil, or_false] at hb
    rcases hb with rfl | rfl
    · exact Nat.lt_succ_self _
    · exact Nat.lt_succ_of_lt hlt
  · obtain ⟨t, rfl⟩ := hval _ v hP
    obtain ⟨b1, b2⟩ := argBest_gt (fun i => is.getD i 0) (ws.length - 1)
    refine ⟨.int _, H, I.kept (t' := tk) fun b u e => hk b u (fun hm => ?_) (Heap.get?_push_of_some _ e), ⟨t, rfl⟩, q _ ?_ fun j hj => ?_⟩
    · have e2 := Heap.lt_size e
      rw [List.mem_singleton.mp hm] at e2
      exact absurd e2 (Nat.lt_irrefl _)
    · generalize argBest (fun i j => decide (is.getD i 0 > is.getD j 0)) (ws.length - 1) = m at *
      have hb : m < is.length := by omega
      rw [List.getD_eq_getElem?_getD, List.getElem?_eq_getElem hb]
      exact List.getElem_mem hb
    · obtain ⟨i, hi, e⟩ := List.mem_iff_getElem.mp hj
      have e2 : is.getD i 0 = j := by rw [List.getD_eq_getElem?_getD, List.getElem?_eq_getElem hi, ← e]; rfl
      rw [← e2]
      exact b2 i (by omega)
/-! ### dict(a tuple of pairs) -/
theorem tupN_at (I : Inv X pins σ H s) {a : Addr} {vs : List V} (e : TupN X.K H a vs) : ∃ its : List Value, Vals vs its ∧ PySem.PlainSeq "tuple" s.heap a its.toArray ∧ vs.length ≤ sizeLine := by
  rcases e with ⟨o, e, hd⟩ | ⟨o, its, n, hk, hc, hdt, hz, hv, hd⟩
  · obtain ⟨g1, g4, its, rv, o', g2, g3, n, g5⟩ := I.hok a _ e
    rw [g1] at g2
    cases g2
    exact ⟨its, rv, ⟨o, n, g1, g3, hd, g5⟩, g4⟩
  · exact ⟨its.toList, hv, ⟨o, n, I.kIn a o hk, hc, hd, by rw [Array.toArray_toList]; exact hdt⟩, by rw [hv.length, Array.length_toList]; exact hz⟩
theorem call_dictPT (hcalm : X.calm = true) : CallR X (.type "dict") (fun xs H Q => ∃ (a : Addr) (ps : List Addr) (kvs : List (Key × V)), xs = [.ref a] ∧ TupN X.K H a (ps.map V.ref) ∧ Paired (fun p kv => SqT X.K H p [kV kv.1, kv.2]) ps kvs ∧
    ∀ p, H p = none → Q (.ref p) (upd H p (.dK (mergeK [] kvs)))) := by
  intro pins s σ H xs us Q I r q
  obtain ⟨a, ps, kvs, ex, hq, hp, q⟩ := q
  subst ex
  obtain ⟨u, eu, rx⟩ := vals1 r
  subst eu
  cases rx
  obtain ⟨its, rv, pl, hz⟩ := tupN_at I hq
  have ei := refs_at rv
  subst ei
  rw [List.length_map] at hz
  obtain ⟨prs, rel, hl, hpr⟩ := pairs_of I hp
  have hch : ∀ j : Fin prs.length, ∃ u, ∃ b, ps[j.1]? = some b ∧ IsTup s.heap b #[u, (prs[j.1]).2] ∧ keyIs (prs[j.1]).1 u = true := fun j => by
    obtain ⟨b, u, h1, h2, h3⟩ := hpr j.1 _ (List.getElem?_eq_getElem j.2)
    exact ⟨u, b, h1, h2, h3⟩
  obtain ⟨f, hf⟩ := Classical.axiomOfChoice hch
  have hget : ∀ (j : Nat) (k v : Value), (List.ofFn fun j : Fin prs.length => (f j, (prs[j.1]).2))[j]? = some (k, v) → ∃ b key, ps[j]? = some b ∧ IsTup s.heap b #[k, v] ∧ prs[j]? = some (key, v) ∧ keyIs key k = true := fun j k v e => by
    rw [List.getElem?_ofFn] at e
    split at e
    · rename_i hj
      have e' := Option.some.inj e
      obtain ⟨b, h1, h2, h3⟩ := hf ⟨j, hj⟩
      have ek : f ⟨j, hj⟩ = k := congrArg Prod.fst e'
      have ev : (prs[j]).2 = v := congrArg Prod.snd e'
      rw [ek] at h2 h3
      refine ⟨b, (prs[j]).1, h1, ?_, ?_, h3⟩
      · have h2' : IsTup s.heap b #[k, (prs[j]).2] := h2
        rw [ev] at h2'; exact h2'
      · rw [List.getElem?_eq_getElem hj, ← ev]
    · cases e
  generalize hv : (List.ofFn fun j : Fin prs.length => (f j, (prs[j.1]).2)) = vps at hget
  have hvl : vps.length = prs.length := by rw [← hv]; simp
  have P := PySem.PairArg.tuple (prog := X.prog) (w := X.w) a (ps.map Value.ref).toArray (fun j => ps.getD j 0) vps
  refine PySem.call_dict_pairs (knd := mixKind X.prog X.w) (kvs := prs) P (I.ok.hd hcalm) ⟨pl, ?_, ?_⟩ ⟨hvl.symm, ?_⟩ (by rw [hvl, hl]; exact hz) fun h' tk hd' k => ?_
  · simp [hvl, hl]
  · intro j k v hj
    obtain ⟨b, key, h1, h2, h3, h4⟩ := hget j k v hj
    have hd : ps.getD j 0 = b := by rw [List.getD_eq_getElem?_getD, h1]; rfl
    refine ⟨?_, .inl (by show s.heap.IsTuple (ps.getD j 0) _; rw [hd]; exact h2)⟩
    show _ = some (Value.ref (ps.getD j 0))
    rw [hd]
    simp [h1]
  · intro i key v hr
    obtain ⟨b, kk, h1, h2, h3, h4⟩ := hget i key v hr
    exact ⟨kk, h3, h4⟩
  · have hm : (s.heap.objs.size == sysModules) = false := beq_eq_false_iff_ne.mpr (Nat.ne_of_gt I.big)
    have hlen : (mergeK [] kvs).length ≤ sizeLine := by
      refine Nat.le_trans (length_mergeK kvs []) ?_
      rw [List.length_nil, Nat.zero_add, rel.length, hl]
      exact hz
    exact ⟨.ref s.heap.objs.size, upd H s.heap.objs.size (.dK (mergeK [] kvs)), I.laid (t' := tk) (fun b o e => k b o (by simp) e) (Nat.le_refl _) (show ObjOk X.prog X.w _ _ _ (.dK (mergeK [] kvs)) from ⟨hlen, hm, merged [] prs, KV.merge rel .nil, hd'⟩), rfl, q _ (I.hok.fresh (Nat.le_refl _))⟩
theorem bf_ok (hc : X.calm = true) (hu : X.A.units + 100 < cLine) (f : Bf) : CallR X f.callee (rBf X.w X.K f) := by
  intro pins s σ H vs us Q I r h
  obtain ⟨ds, z, hr, e, q⟩ := h
  unfold bfun at e
  split at e
  · cases e
    obtain ⟨v, B, rfl, r1⟩ := hr.one
    cases r1 with
    | lst e1 rs => rw [← rs.length] at q; exact call_len_seq pins s σ H _ us Q I r ⟨_, _, rfl, .inl (SqL.of e1), q.int⟩
  · cases e
    obtain ⟨v, B, rfl, r1⟩ := hr.one
    cases r1 with
    | tup e1 rs => rw [← rs.length] at q; exact call_len_seq pins s σ H _ us Q I r ⟨_, _, rfl, .inr e1.sq, q.int⟩
  · cases e
    obtain ⟨v, B, rfl, r1⟩ := hr.one
    cases r1 with
    | @ro a ns e1 => refine call_len_seq pins s σ H _ us Q I r ⟨_, _, rfl, .inl e1.sq, ?_⟩; rw [List.length_map]; exact q.int
  · cases e
    obtain ⟨v, B, rfl, r1⟩ := hr.one
    have r2 := r1
    obtain ⟨a, rfl⟩ : ∃ a, v = .ref a := by cases r1 <;> exact ⟨_, rfl⟩
    rw [Vals.ref1 r]
    exact d_size I r2 fun t s' I' => ⟨.int _, H, I', ⟨_, rfl⟩, q.int⟩
  · cases e
    obtain ⟨v, B, rfl, r1⟩ := hr.one
    cases r1 with
    | fz e1 rk =>
      rw [Vals.ref1 r]
      rw [← rk.length] at q
      exact d_len I (.inr ⟨_, e1⟩) fun t s' I' => ⟨.int _, H, I', ⟨_, rfl⟩, q.int⟩
  · cases e
    obtain ⟨v, B, rfl, r1⟩ := hr.one
    cases r1 with
    | @rl a o ns e1 => refine call_len_seq pins s σ H _ us Q I r ⟨_, _, rfl, .inl (.inl (.inr ⟨_, e1⟩)), ?_⟩; rw [List.length_map]; exact q.int
  · split at e
    · cases e
      obtain ⟨v, B, rfl, r1⟩ := hr.one
      cases r1
      exact call_len_str pins s σ H _ us Q I r ⟨_, rfl, by have := lim_line; omega, q.int⟩
    · cases e
  · split at e
    · rename_i hi
      cases e
      obtain ⟨v, B, rfl, r1⟩ := hr.one
      cases r1 with
      | lst e1 rs =>
        rw [Vals.ref1 r]
        obtain ⟨its, r', pl, hz⟩ := I.list (SqL.of e1)
        have hlen := r'.length
        refine call_tuple_list pl.isList (fun h' kp => ?_) (by simp only [List.size_toArray] <;> omega)
        have I1 : Inv X pins σ H { s with heap := h' } := I.kept (t' := s.toks) kp
        exact ⟨.ref h'.objs.size, _, lay_tup I1 r' hz, rfl, q.tup (rs.nil_of hi) _ _ (I1.hok.fresh (Nat.le_refl _)) rfl⟩
    · cases e
  · split at e
    · rename_i hi
      cases e
      obtain ⟨v, B, rfl, r1⟩ := hr.one
      cases r1 with
      | tup e1 rs => exact call_tuple_of pins s σ H _ us Q I r ⟨_, _, rfl, .inr ⟨e1.sq, q.old (.tup e1 (rs.nil_of hi))⟩⟩
    · cases e
  · split at e
    · rename_i hi
      cases e
      obtain ⟨v, B, rfl, r1⟩ := hr.one
      cases r1 with
      | lst e1 rs => exact call_list_of pins s σ H _ us Q I r ⟨_, _, rfl, .inl (SqL.of e1), q.lst (rs.nil_of hi)⟩
    · cases e
  · split at e
    · rename_i hi
      cases e
      obtain ⟨v, B, rfl, r1⟩ := hr.one
      cases r1 with
      | tup e1 rs => exact call_list_of pins s σ H _ us Q I r ⟨_, _, rfl, .inr e1.sq, q.lst (rs.nil_of hi)⟩
    · cases e
  · obtain ⟨ns, hn, e⟩ := Option.bind_eq_some_iff.mp e
    obtain ⟨m, hm, rfl⟩ := Option.map_eq_some_iff.mp e
    have ed := ints_of hn
    subst ed
    obtain ⟨v, B, rfl, r1⟩ := hr.one
    cases r1 with
    | lst e1 rs =>
      have ev := rs.ints
      subst ev
      refine cr_max hc pins s σ H _ us Q I r ⟨_, ns, rfl, SqL.of e1, ?_, fun m' h1 h2 => ?_⟩
      · cases ns with
        | nil => cases hm
        | cons _ _ => simp
      · rw [imax_is h1 h2] at hm; cases hm; exact q.int
  · obtain ⟨ns, hn, e⟩ := Option.bind_eq_some_iff.mp e
    obtain ⟨m, hm, rfl⟩ := Option.map_eq_some_iff.mp e
    have ed := ints_of hn
    subst ed
    obtain ⟨v, B, rfl, r1⟩ := hr.one
    cases r1 with
    | tup e1 rs =>
      have ev := rs.ints
      subst ev
      rw [Vals.ref1 r]
      obtain ⟨its, rv, pl, hz⟩ := I.tuple e1.sq
      refine max_rawT (I.ok.hd hc) pl rv.ints ?_ fun h' tk m' t' hk h1 h2 => ?_
      · cases ns with
        | nil => cases hm
        | cons _ _ => simp
      · rw [imax_is h1 h2] at hm; cases hm; exact ⟨.int _, H, I.kept hk, ⟨_, rfl⟩, q.int⟩
  · obtain ⟨ns, hn, e⟩ := Option.bind_eq_some_iff.mp e
    obtain ⟨m, hm, rfl⟩ := Option.map_eq_some_iff.mp e
    obtain ⟨v, B, rfl, r1⟩ := hr.one
    obtain ⟨a, rfl⟩ : ∃ a, v = .ref a := by cases r1 <;> exact ⟨_, rfl⟩
    have hks := ints_of hn
    obtain ⟨kvs, B', e1, rk, rfl⟩ := dK_at r1 fun p hp => by
      have : p.1 ∈ ns.map D.int := by rw [← hks]; exact List.mem_map.mpr ⟨p, hp, rfl⟩
      obtain ⟨i, _, hi⟩ := List.mem_map.mp this
      rw [← hi]; rfl
    refine cr_maxK hc pins s σ H _ us Q I r ⟨_, kvs, ns, rfl, e1, rk.keysI hks, ?_, fun m' h1 h2 => ?_⟩
    · cases ns with
      | nil => cases hm
      | cons _ _ => simp
    · rw [imax_is h1 h2] at hm; cases hm; exact q.int
  · cases e
    obtain ⟨v, u, B, C, rfl, r1, r2⟩ := hr.two
    cases r1; cases r2
    exact call_max2 hc pins s σ H _ us Q I r ⟨_, _, rfl, q.int⟩
  · cases e
    obtain ⟨v, u, B, C, rfl, r1, r2⟩ := hr.two
    cases r1; cases r2
    exact call_min2 hc pins s σ H _ us Q I r ⟨_, _, rfl, q.int⟩
  · obtain ⟨ns, hn, rfl⟩ := Option.map_eq_some_iff.mp e
    have ed := ints_of hn
    subst ed
    obtain ⟨v, B, rfl, r1⟩ := hr.one
    cases r1 with
    | lst e1 rs =>
      have ev := rs.ints
      subst ev
      exact cr_sum hc pins s σ H _ us Q I r ⟨_, ns, rfl, SqL.of e1, q.int⟩
  · split at e
    rotate_left
    · obtain ⟨v, B, rfl, r1⟩ := hr.one
      cases r1 with
      | lst e1 rs =>
        rw [Vals.ref1 r]
        obtain ⟨its, rv, pl, hz⟩ := I.list (SqL.of e1)
        exact min_run hc hu I pl.isList rs rv e q
    rename_i ns hn
    obtain ⟨m, hm, rfl⟩ := Option.map_eq_some_iff.mp e
    have ed := ints_of hn
    subst ed
    obtain ⟨v, B, rfl, r1⟩ := hr.one
    cases r1 with
    | lst e1 rs =>
      have ev := rs.ints
      subst ev
      refine cr_min hc pins s σ H _ us Q I r ⟨_, ns, rfl, SqL.of e1, ?_, fun m' h1 h2 => ?_⟩
      · cases ns with
        | nil => cases hm
        | cons _ _ => simp
      · rw [imin_is h1 h2] at hm; cases hm; exact q.int
  · split at e
    · rename_i hk
      cases e
      obtain ⟨v, B, rfl, r1⟩ := hr.one
      obtain ⟨a, rfl⟩ : ∃ a, v = .ref a := by cases r1 <;> exact ⟨_, rfl⟩
      rw [Bool.or_eq_true] at hk
      rcases hk with hk | hk
      · obtain ⟨kvs, B', e1, rk, rfl⟩ := dK_at r1 fun p hp => by simpa using List.all_eq_true.mp hk p hp
        exact call_list_dK hc pins s σ H _ us Q I r ⟨_, _, rfl, e1, q.lst rk.keysR⟩
      · cases r1 with
        | dK e1 rk => exact call_list_dK hc pins s σ H _ us Q I r ⟨_, _, rfl, e1, q.lst rk.keysR⟩
        | dT e1 hd nd hz rt => exact call_list_tO hc pins s σ H _ us Q I r ⟨_, _, rfl, e1, hd.1, hz, q.lst rt.keysR⟩
        | dB e1 hd nd rb =>
          cases rb with
          | nil => exact absurd rfl hd.2
          | cons _ _ => simp [D.kd] at hk
    · cases e
  · obtain ⟨ps, hp, rfl⟩ := Option.map_eq_some_iff.mp e
    obtain ⟨v, B, rfl, r1⟩ := hr.one
    cases r1 with
    | lst e1 rs =>
      obtain ⟨as, kvs, rfl, g1, g2⟩ := pairs_rep rs hp
      refine call_dictP hc pins s σ H _ us Q I r ⟨_, as, kvs, rfl, SqL.of e1, g1, ?_⟩
      exact q.dK (RepK.merge g2 rfl .nil List.nodup_nil).1
  · obtain ⟨ps, hp, rfl⟩ := Option.map_eq_some_iff.mp e
    obtain ⟨v, B, rfl, r1⟩ := hr.one
    cases r1 with
    | tup e1 rs =>
      obtain ⟨as, kvs, rfl, g1, g2⟩ := pairs_rep rs hp
      refine call_dictPT hc pins s σ H _ us Q I r ⟨_, as, kvs, rfl, e1, g1, ?_⟩
      exact q.dK (RepK.merge g2 rfl .nil List.nodup_nil).1
  · split at e
    · rename_i hk
      cases e
      obtain ⟨v, B, rfl, r1⟩ := hr.one
      obtain ⟨a, rfl⟩ : ∃ a, v = .ref a := by cases r1 <;> exact ⟨_, rfl⟩
      obtain ⟨kvs, B', e1, rk, rfl⟩ := dK_at r1 fun p hp => by have := List.all_eq_true.mp hk p hp; simp at this; exact this.1
      exact call_dictD pins s σ H _ us Q I r ⟨_, _, rfl, .inl e1, q.dK (rk.nil_of fun p hp => by have := List.all_eq_true.mp hk p hp; simp at this; exact this.2)⟩
    · cases e
  · obtain ⟨ns, hn, rfl⟩ := Option.map_eq_some_iff.mp e
    have ed := ints_of hn
    subst ed
    obtain ⟨v, B, rfl, r1⟩ := hr.one
    cases r1 with
    | lst e1 rs =>
      have ev := rs.ints
      subst ev
      refine cr_sortedI pins s σ H _ us Q I r ⟨_, ns, rfl, SqL.of e1, fun ns' p hp hs np => ?_⟩
      rw [isort_is hp hs] at *
      exact q.lst (reps_ints _) p np
  · split at e
    rotate_left
    · cases e
    rename_i h64
    obtain ⟨ns, hn, rfl⟩ := Option.map_eq_some_iff.mp e
    obtain ⟨v, B, rfl, r1⟩ := hr.one
    obtain ⟨a, rfl⟩ : ∃ a, v = .ref a := by cases r1 <;> exact ⟨_, rfl⟩
    have hks := ints_of hn
    obtain ⟨kvs, B', e1, rk, rfl⟩ := dK_at r1 fun p hp => by
      have : p.1 ∈ ns.map D.int := by rw [← hks]; exact List.mem_map.mpr ⟨p, hp, rfl⟩
      obtain ⟨i, _, hi⟩ := List.mem_map.mp this
      rw [← hi]; rfl
    refine call_sortedDI hc pins s σ H _ us Q I r ⟨_, kvs, ns, rfl, .inl e1, rk.keysI hks, ?_, fun ns' p hp hs np => ?_⟩
    · have := congrArg List.length hks
      simp at this
      omega
    · rw [isort_is hp hs] at *
      exact q.lst (reps_ints _) p np
  · cases e
    obtain ⟨v, B, rfl, r1⟩ := hr.one
    cases r1
    exact call_int1 pins s σ H _ us Q I r (.inr ⟨_, rfl, q.int⟩)
  · cases e
    obtain ⟨v, B, rfl, r1⟩ := hr.one
    cases r1
    exact call_int1 pins s σ H _ us Q I r (.inl ⟨_, rfl, q.int⟩)
  · cases e

/-! ### isinstance -/
def Ty.nm : Ty → String
  | .int => "int" | .bool => "bool" | .tuple => "tuple" | .list => "list" | .str => "str" | .dict => "dict"
theorem Rep.ty {w : World} {K : PySem.W.Frag} {v : V} {d : D} {B : List Addr} (h : Rep w K H v d B) (ok : isiOk d = true) : TyX K H v (.type d.tyN) := by
  cases h with
  | non => exact .base .non
  | bl b => exact .base (.bl b)
  | int i => exact .base (.int i)
  | str x => exact .base (.str x)
  | ro e => simp [isiOk] at ok
  | fz e r => simp [isiOk] at ok
  | obj k s e n r => simp [isiOk] at ok
  | rl e => exact .base (.frz e)
  | lst e r => exact .base (.lst e)
  | tup e r =>
    rcases e with ⟨o, e, _⟩ | ⟨o, its, n, e, hc, _⟩
    · exact .fTuple e
    · exact .kTuple e hc
  | dK e r => simp [isiOk] at ok
  | dT e _ _ _ r => simp [isiOk] at ok
  | dB e _ _ r => simp [isiOk] at ok
  | fnc f => simp [isiOk] at ok
  | ali a => simp [isiOk] at ok
theorem kit_isi {K : PySem.W.Frag} {d : D} (ok : isiOk d = true) (t : Ty) : PySem.W.kitOne K (.type d.tyN) (.type t.nm) = some (isiOne d t) := by
  refine kit_ty ?_
  cases d <;> first | (simp [isiOk] at ok; done) | (cases t <;> simp only [D.tyN, Ty.nm, isiOne] <;> decide +kernel)
theorem kit_isis {K : PySem.W.Frag} {d : D} (ok : isiOk d = true) : ∀ ts : List Ty, PySem.W.kitAny K (.type d.tyN) (ts.map fun t => .type t.nm) = some (isi d ts)
  | [] => rfl
  | t :: ts => by
    unfold isi
    rw [List.any_cons]
    refine kitAny_cons (kit_isi ok t) (fun h => ?_) (fun h => ?_)
    · rw [h, Bool.false_or]; exact kit_isis ok ts
    · rw [h, Bool.true_or]
/-! ### methods -/
theorem index_rule {ys : List D} {y : D} {j : Nat} (h : (ys.findIdx? fun x => eqv x y) = some j) : (ys.map fun x => eqv x y).idxOf true = j ∧ true ∈ ys.map fun x => eqv x y := by
  obtain ⟨hj, h1, h2⟩ := List.findIdx?_eq_some_iff_getElem.mp h
  refine ⟨?_, List.mem_map.mpr ⟨ys[j], List.getElem_mem hj, h1⟩⟩
  rw [List.idxOf, List.findIdx_map]
  have e : (fun x => (fun x => x == true) (eqv x y)) = fun x => eqv x y := by funext x; simp
  show ys.findIdx ((fun x => x == true) ∘ fun x => eqv x y) = j
  rw [show ((fun x => x == true) ∘ fun x => eqv x y) = fun x => eqv x y from by funext x; simp]
  rw [List.findIdx_eq hj]
  exact ⟨h1, fun k hk => by simpa using h2 k hk⟩
theorem items_eq (hu : X.A.units + 100 < cLine) (I : Inv X pins σ H s) {vs : List V} {ds : List D} {us : List Value} {B By : List Addr} {y : D} {vy : V} {uy : Value} (rs : Reps X.w X.K H vs ds B) (rv : Vals vs us) (ry : Rep X.w X.K H vy y By) (ru : RelV vy uy) (p1 : ds.all D.plain = true) (p2 : y.plain = true) :
    SeqAt.ItemsEq X.A.in1 s us (ds.map fun x => eqv x y) uy true := by
  refine ⟨by rw [← rv.length, rs.length, List.length_map], fun j h1 h2 => ?_⟩
  have hl : us.length = ds.length := by rw [← rv.length, rs.length]
  have hjd : j < ds.length := by omega
  obtain ⟨v, A', g1, g2, _⟩ := rs.getD (List.getElem?_eq_getElem hjd)
  obtain ⟨u, g4, g5⟩ := rv.get g1
  have hp : (ds[j]).plain = true := List.all_eq_true.mp p1 _ (List.getElem_mem hjd)
  obtain ⟨as, r1⟩ := Rep.reads I hp g2 g5
  obtain ⟨bs, r2⟩ := Rep.reads I p2 ry ru
  have d1 := plain_py 60 _ hp
  have d2 := plain_py 60 y p2
  have e1 : us[j] = u := by
    obtain ⟨_, e⟩ := List.getElem?_eq_some_iff.mp g4
    exact e
  rw [e1]
  have := SeqAt.eqAt_plain _ _ X.A.in1 s u uy _ _ r1 r2 d1.1 d2.1 (by show X.A.units + 1 + _ < _; have := Nat.min_le_left (toPy ds[j]).depth (toPy y).depth; omega)
  rw [eqv_py] at this
  simpa using this
def rMr (w : World) (K : PySem.W.Frag) (m : Mr) (T : String) : V → List V → Hp → VK → Prop := fun vx vs H Q => ∃ x ds z B, Rep w K H vx x B ∧ x.tyN = T ∧ BReps w K H vs ds ∧ mread m x ds = some z ∧ New w K H z Q
theorem mr_get (hu : X.A.units + 100 < cLine) : MtR X "dict.get" (rMr X.w X.K .get "dict") := by
  intro pins s σ H vx vs v us Q I rx r h
  obtain ⟨x, ds, z, B, h1, ht, h2, e, q⟩ := h
  unfold mread at e
  split at e
  · simp [D.tyN] at ht
  · simp [D.tyN] at ht
  · split at e
    · rename_i hk
      simp only [Bool.and_eq_true, beq_iff_eq] at hk
      split at e
      · rename_i him
        cases e
        obtain ⟨vy, By, rfl, ry⟩ := h2.one
        obtain ⟨hn, hc, hall⟩ := keyOk_kd hk.1
        obtain ⟨k, rfl⟩ := keyD_of hk.2
        obtain ⟨a, rfl⟩ : ∃ a, vx = .ref a := by cases h1 <;> exact ⟨_, rfl⟩
        obtain ⟨kvs, B', e1, rk, rfl⟩ := dK_at h1 (by rw [hk.2] at hall; exact hall)
        have ev := keyD_rep ry
        subst ev
        cases rx
        cases r with
        | cons ru rt =>
          cases rt
          have g : DGet H a (kV k) (valV kvs k) := DGet.k e1
          refine d_get1 (by omega) I g ru fun w' s' I' rw' => ⟨_, H, I', rw', ?_⟩
          rcases rk.find k with ⟨q1, q2⟩ | ⟨dv, vv, A', q1, q2, q3, q4⟩
          · rw [q1, Option.getD_none] at q
            rw [q2]
            exact q.old .non
          · rw [q1, Option.getD_some] at q him
            rw [q2]
            have e0 := q3.immut him
            subst e0
            exact q.old q3
      · cases e
    · cases e
  · cases e
theorem mr_list (hu : X.A.units + 100 < cLine) : MtR X "list.index" (rMr X.w X.K .index "list") := by
  intro pins s σ H vx vs v us Q I rx r h
  obtain ⟨x, ds, z, B, h1, ht, h2, e, q⟩ := h
  unfold mread at e
  split at e
  · split at e
    · rename_i _ _ _ xs y hp
      simp only [Bool.and_eq_true] at hp
      obtain ⟨j, hj, rfl⟩ := Option.map_eq_some_iff.mp e
      obtain ⟨vy, By, rfl, ry⟩ := h2.one
      cases h1 with
      | lst e1 rs =>
        cases rx
        obtain ⟨its, rv, pl, hz⟩ := I.list (SqL.of e1)
        cases r with
        | cons ru rt =>
          cases rt
          obtain ⟨i1, i2⟩ := index_rule hj
          refine SeqAt.call_list_index (k := true) pl.isList (items_eq hu I rs rv ry ru hp.2 hp.1) (by rw [List.length_map, ← rs.length]; exact hz) i2 ?_
          rw [i1]
          exact ⟨.int _, H, I.tok _, ⟨_, rfl⟩, q.int⟩
    · cases e
  · simp [D.tyN] at ht
  · simp [D.tyN] at ht
  · cases e
theorem mr_tuple (hu : X.A.units + 100 < cLine) : MtR X "tuple.index" (rMr X.w X.K .index "tuple") := by
  intro pins s σ H vx vs v us Q I rx r h
  obtain ⟨x, ds, z, B, h1, ht, h2, e, q⟩ := h
  unfold mread at e
  split at e
  · simp [D.tyN] at ht
  · split at e
    · rename_i _ _ _ xs y hp
      simp only [Bool.and_eq_true] at hp
      obtain ⟨j, hj, rfl⟩ := Option.map_eq_some_iff.mp e
      obtain ⟨vy, By, rfl, ry⟩ := h2.one
      cases h1 with
      | tup e1 rs =>
        cases rx
        obtain ⟨its, rv, pl, hz⟩ := I.tuple e1.sq
        cases r with
        | cons ru rt =>
          cases rt
          obtain ⟨i1, i2⟩ := index_rule hj
          refine SeqAt.call_tuple_index (k := true) pl (items_eq hu I rs rv ry ru hp.2 hp.1) i2 ?_
          rw [i1]
          exact ⟨.int _, H, I.tok _, ⟨_, rfl⟩, q.int⟩
    · cases e
  · simp [D.tyN] at ht
  · cases e
end
end Dl
/-! DlIter: what is walked, over data. -/
namespace Dl
open PySem PySem.Spec PyProof.Rows L2
open AutoSeq1 (wpAny_loadPart')

/-! ### enumerate(a tuple) -/
theorem meets_enumT (l : Addr) (items : Array Value) (n : Nat) (dct : Option Addr) (sl : Array (Option Value)) :
    Meets (Builtin.«enumerate.__new__» ⟨[.type "enumerate", .ref l], []⟩) (fun _ R s => s.heap.get? l = some { cls := .type "tuple", dict := dct, data := .seq items n, slots := sl } ∧
      R (.ok (.ret (.ref (s.heap.push { cls := .type "tuple_iterator", data := .fields #[.ref l, .int 0 0] }).objs.size)))
        { s with heap := (s.heap.push { cls := .type "tuple_iterator", data := .fields #[.ref l, .int 0 0] }).push { cls := .type "enumerate", data := .fields #[.none, .bool false, .ref s.heap.objs.size, rawInt 0, .none, .none] } }) :=
  .of_wp fun prog w A R s h => by
    obtain ⟨hp, g, d, tk, os⟩ := s; obtain ⟨hl, h⟩ := h
    have hsub := sub_enumerate
    have hL : Heap.IsTuple (Shared.heap ⟨hp, g, d, tk, os⟩) l items := ⟨_, hl, rfl, n, rfl⟩
    wp_walk using wpAny_loadPart' hl
    refine wpAny_stack_any fun st => wpAny_pure ?_
    split
    · rename_i c _ _ _ _ _
      cases (c == Value.type "enumerate")
      · wp_walk using wpAny_loadPart' hl, wpAny_pyIter_tuple hL
        exact ⟨_, rfl, h⟩
      · wp_walk using wpAny_loadPart' hl, wpAny_pyIter_tuple hL
        exact ⟨_, rfl, h⟩
    · wp_walk using wpAny_loadPart' hl, wpAny_pyIter_tuple hL
      exact ⟨_, rfl, h⟩
theorem call_enumT {prog : Program} {w : World} {A : Around} {E : Value → Shared → Prop} {s : Shared} {l : Addr} {items : Array Value} {Q : Value → Shared → Prop} (hL : s.heap.IsTuple l items)
    (h : ∀ h', IsEnum h' (s.heap.objs.size + 1) s.heap.objs.size 0 .none → h'.IsTupleIter s.heap.objs.size l 0 → h'.objs.size = s.heap.objs.size + 2 →
      (∀ b o, s.heap.get? b = some o → h'.get? b = some o) → Q (.ref (s.heap.objs.size + 1)) { s with heap := h' }) :
    wpAny (model prog w) A (call (.type "enumerate") [.ref l]) Q E s := by
  obtain ⟨⟨c, dct, dt, sl⟩, hl, hc, n, hd⟩ := hL
  replace hc : c = .type "tuple" := hc
  replace hd : dt = .seq items n := hd
  subst hc hd
  refine callType_new F.called_enumerate (by decide) (F.typeCall_enumerate_1 _) (F.newCall_enumerate_1 _) (fun obj => F.args_object_init_2 obj _) F.entry_enumerate_new
    (meets_enumT l items n dct sl) ⟨hl, ?_⟩
  have hz : (s.heap.push { cls := .type "tuple_iterator", data := .fields #[.ref l, .int 0 0] }).objs.size = s.heap.objs.size + 1 := Heap.size_push ..
  show _ ∧ _
  rw [hz]
  have he : IsEnum ((s.heap.push { cls := .type "tuple_iterator", data := .fields #[.ref l, .int 0 0] }).push
      { cls := .type "enumerate", data := .fields #[.none, .bool false, .ref s.heap.objs.size, rawInt 0, .none, .none] }) (s.heap.objs.size + 1) s.heap.objs.size 0 .none := by
    have := Heap.get?_push_size (s.heap.push { cls := .type "tuple_iterator", data := .fields #[.ref l, .int 0 0] })
      (o := { cls := .type "enumerate", data := .fields #[.none, .bool false, .ref s.heap.objs.size, rawInt 0, .none, .none] }) rfl
    rw [hz] at this; exact this
  refine ⟨⟨_, he, rfl⟩, h _ he ⟨_, Heap.get?_push_of_some _ (Heap.get?_push_size _ rfl), rfl, rfl⟩ (by rw [Heap.size_push, hz]) fun b o x => Heap.get?_push_of_some _ (Heap.get?_push_of_some _ x)⟩
/-- a tuple's items in new pairs with their places -/
def ItE (K : PySem.W.Frag) (a : Addr) : L2.It :=
  ⟨fun i H => ∃ (xs : List V) (x : V), SqT K H a xs ∧ xs[i]? = some x, fun i H v H' => ∃ T x, v = .ref T ∧ H T = none ∧ H' = upd H T (.tup [.int (i : Nat), x]) ∧ ∀ xs, SqT K H a xs → xs[i]? = some x, fun i H => ∃ xs : List V, SqT K H a xs ∧ xs.length = i⟩
theorem turn_enumT {P : Program} {w : World} {K : PySem.W.Frag} {elts : List Expr} {kk : Nat} {tpos : Pos} (a e it : Addr) :
    Turn P w K (.Tuple elts kk tpos) (ItE K a) [e, it] e (fun i h => (∃ old, IsEnum h e it ((i : Nat) : Int) old) ∧ h.IsTupleIter it a i ∧ e ≠ it) where
  mem := by simp
  obj := fun i h st b hb => by
    obtain ⟨⟨old, he⟩, ⟨o, ho, hc, hd⟩, _⟩ := st
    have e' : b = e ∨ b = it := by simpa using hb
    rcases e' with z | z
    · rw [z]; exact ⟨_, he, fun v q => nomatch q⟩
    · rw [z]; exact ⟨o, ho, fun v q => by rw [hd] at q; cases q⟩
  keep := fun i h h' st k => let ⟨⟨old, he⟩, hi, hne⟩ := st; ⟨⟨old, k e (by simp) _ he⟩, hi.at fun o q => k it (by simp) o q, hne⟩
  item := by
    intro X hP hw hK hc i pins s σ H E I hf st hg
    subst hP hw hK
    obtain ⟨⟨old, he⟩, hit, hne⟩ := st
    obtain ⟨xs, x, hq, hx⟩ := hg
    obtain ⟨its, rv, p, hz⟩ := I.tuple hq
    obtain ⟨u, hu, ru⟩ := rv.get hx
    have hel : e < s.heap.objs.size := Heap.lt_size he
    have hil : it < s.heap.objs.size := by obtain ⟨_, q, _⟩ := hit; exact Heap.lt_size q
    have hap : s.heap.IsTuple a its.toArray := p
    have hat : a ≠ it := by
      rintro rfl
      obtain ⟨o, h1, h2, _⟩ := hap
      obtain ⟨o', h1', h2', _⟩ := hit
      rw [h1] at h1'; cases h1'; rw [h2] at h2'; exact absurd h2' (by simp)
    have hae : a ≠ e := by
      rintro rfl
      obtain ⟨o, h1, h2, _⟩ := hap
      have he' := he
      unfold IsEnum at he'
      rw [h1] at he'; cases he'; exact absurd h2 (by simp)
    have hil2 : i < its.toArray.size := by
      have := (List.getElem?_eq_some_iff.mp hu).1
      simpa using this
    refine wpAny_pyNext_enum_itemD (Draws.tuple (A := X.A.in1) (I.ok.hd hc) it a hat its.toArray) he ⟨hit, hap⟩ hil2 hne (by simp [hne, Ne.symm hae]) fun x' h' tk hx' ho hst' hT hsz hk => ?_
    have ex : x' = u := by
      have : its.toArray[i]? = some u := by simpa using hu
      rw [this] at hx'; exact (Option.some.inj hx').symm
    subst ex
    refine ⟨_, rfl, wpAny_letOwnedTupleGo_enum (s := { s with heap := h', toks := tk + 1 }) ho fun h'' he' sb => ?_⟩
    have hT2 : h''.get? s.heap.objs.size = some { cls := .type "tuple", data := .seq #[.int i tk, x'] } := (sb.2 _ (Nat.ne_of_gt hel)).trans hT
    have new : ObjOk X.prog X.w (upd H s.heap.objs.size (.tup [.int (i : Nat), x])) h'' s.heap.objs.size (.tup [.int (i : Nat), x]) :=
      ⟨by show 2 ≤ sizeLine; decide, [.int i tk, x'], .cons ⟨_, rfl⟩ (.cons ru .nil), ⟨_, hT2, rfl, _, rfl⟩⟩
    have I1 : Inv X pins σ (upd H s.heap.objs.size (.tup [.int (i : Nat), x])) { s with heap := h'', toks := tk + 1 } :=
      I.turnedNew (ch := [e, it]) (fun b ob hb q => (sb.2 b (fun z => hb (by simp [z]))).trans (hk b ob (fun z => hb (by simp [z])) (fun z => hb (by simp [z])) q)) hf (Nat.le_refl _) new
    refine ⟨.ref s.heap.objs.size, _, I1, rfl, ⟨_, x, rfl, I.hok.fresh (Nat.le_refl _), rfl, fun ys hy => by rw [I.tuple_inj hy hq]; exact hx⟩, ⟨⟨x', ?_⟩, hst'.1.at fun o q => (sb.2 it (Ne.symm hne)).trans q, hne⟩, fun b hb => ?_⟩
    · have e1 : ((i + 1 : Nat) : Int) = (i : Int) + 1 := by omega
      rw [e1]; exact he'
    · have hb' : b < s.heap.objs.size := by
        have e' : b = e ∨ b = it := by simpa using hb
        rcases e' with z | z
        · rw [z]; exact hel
        · rw [z]; exact hil
      rw [upd_ne (Nat.ne_of_lt hb')]
      exact (hf b hb).1
  done := by
    intro X hP hw hK hc i pins s σ H E I hf st hg
    subst hP hw hK
    obtain ⟨⟨old, he⟩, hit, hne⟩ := st
    obtain ⟨xs, hq, hx⟩ := hg
    obtain ⟨its, rv, p, hz⟩ := I.tuple hq
    obtain ⟨f0, f1, f2, f3, f4, f5⟩ := hf it (by simp)
    have hl := rv.length
    have hap : s.heap.IsTuple a its.toArray := p
    have hat : a ≠ it := by
      rintro rfl
      obtain ⟨o, h1, h2, _⟩ := hap
      obtain ⟨o', h1', h2', _⟩ := hit
      rw [h1] at h1'; cases h1'; rw [h2] at h2'; exact absurd h2' (by simp)
    have hi : i = its.toArray.size := by simp; omega
    subst hi
    exact wpAny_pyNext_enum_endD (Draws.tuple (A := X.A.in1) (I.ok.hd hc) it a hat its.toArray) he ⟨hit, hap⟩ fun h' eb => ⟨rfl, I.turned (t' := s.toks) (fun b o hb q => eb b o hb q) f0 f1 f3 f4 f5⟩
  self := fun A i s Q E st h => let ⟨⟨_, he⟩, _⟩ := st; wpAny_pyIter_enum he h

/-! ### lists and tuples, by what stands there -/
section
variable {X : Cx} {tg : Expr}
def iSeq (K : PySem.W.Frag) (tl : TE) : TI := fun σ H R => tl σ H fun x H1 => ∃ a, x = .ref a ∧ (((∃ xs, SqL K H1 a xs) ∧ R (Itl K a) H1) ∨ ((∃ xs, SqT K H1 a xs) ∧ R (Itt K a) H1) ∨ ∃ o kvs, H1 a = some (.frz o (.dK kvs)) ∧ R (Itk a o kvs) H1)
theorem pi_seq {l : Expr} {tl : TE} (hl : PE X l tl) : PI X tg l (iSeq X.K tl) := by
  refine ⟨fun pins s σ H R I h => ?_⟩
  refine thn (hl.run pins s σ H _ I h) fun v s1 ⟨x, H1, I1, r1, q1⟩ => ?_
  obtain ⟨a, e, q⟩ := q1
  subst e
  cases r1
  rcases q with ⟨⟨xs, hq⟩, q⟩ | ⟨⟨xs, hq⟩, q⟩ | ⟨o, kvs, hd, q⟩
  · obtain ⟨its, rv, p, hz⟩ := I1.list hq
    refine wpAny_pyIter_list p.isList ?_
    refine ⟨s1.heap.objs.size, [s1.heap.objs.size], _, _, H1, rfl, I1.kept (t' := s1.toks) fun b o e => Heap.get?_push_of_some _ e, turn_list a _, ⟨_, Heap.get?_push_size _ rfl, rfl, rfl⟩, fun b hb => ?_, q⟩
    have e : b = s1.heap.objs.size := by simpa using hb
    subst e
    exact I1.fpOk (Nat.le_refl _) (I1.hok.fresh (Nat.le_refl _))
  · obtain ⟨its, rv, p, hz⟩ := I1.tuple hq
    refine wpAny_pyIter_tuple p ?_
    refine ⟨s1.heap.objs.size, [s1.heap.objs.size], _, _, H1, rfl, I1.kept (t' := s1.toks) fun b o e => Heap.get?_push_of_some _ e, turn_tuple a _, ⟨_, Heap.get?_push_size _ rfl, rfl, rfl⟩, fun b hb => ?_, q⟩
    have e : b = s1.heap.objs.size := by simpa using hb
    subst e
    exact I1.fpOk (Nat.le_refl _) (I1.hok.fresh (Nat.le_refl _))
  · obtain ⟨hs, hgd, hx, es, ep, vs, hdt, hsz, kv, hm⟩ := I1.frzK hd
    refine iter_keys hs hgd hx hdt (pi_one (tk := s1.toks) I1 _ (turn_keys _ hdt) ⟨_, Heap.get?_push_size _ rfl, rfl, ?_⟩ q)
    rw [hsz] <;> rfl
def iEnumS (K : PySem.W.Frag) (ta : TA) : TI := fun σ H R => ta σ H fun vs H1 => ∃ a, vs = [.ref a] ∧ (((∃ xs, SqL K H1 a xs) ∧ R (Ite K a) H1) ∨ ((∃ xs, SqT K H1 a xs) ∧ R (ItE K a) H1))
theorem pi_enumS {e : Expr} {ta : TA} {p pos tpos : Pos} {elts : List Expr} {kk : Nat} (hg : Gl X "enumerate") (hm : X.mg "enumerate" = none) (ha : PA X [e] ta) (hs : starEach [e] X.env = [(false, eval e X.env)]) :
    PI X (.Tuple elts kk tpos) (.Call (.Name "enumerate" p) [e] [] pos) (iEnumS X.K ta) := by
  refine ⟨fun pins s σ H R I h => ?_⟩
  refine Call_ (ld_blt I hg hm boot_enumerate (PyProof.Rows.callWith_type1 (thn (ha.run pos pins s σ H _ I h) fun us s1 ⟨vs, H1, I1, r1, q1⟩ => ?_) hs rfl))
  obtain ⟨a, ex, q⟩ := q1
  subst ex
  cases r1 with
  | cons r rr =>
    cases rr
    cases r
    rcases q with ⟨⟨xs, hq⟩, q⟩ | ⟨⟨xs, hq⟩, q⟩
    · obtain ⟨its, rv, p', hz⟩ := I1.list hq
      refine call_enumerate_list p'.isList fun h' he hit hsz hk => wpAny_pyIter_enum he ?_
      have I2 : Inv X pins σ H1 { s1 with heap := h' } := I1.kept (t' := s1.toks) hk
      refine ⟨s1.heap.objs.size + 1, [s1.heap.objs.size + 1, s1.heap.objs.size], _, _, H1, rfl, I2, turn_enum a (s1.heap.objs.size + 1) s1.heap.objs.size, ⟨⟨.none, he⟩, hit, Nat.succ_ne_self _⟩, fun b hb => ?_, q⟩
      have e' : b = s1.heap.objs.size + 1 ∨ b = s1.heap.objs.size := by simpa using hb
      have hle : s1.heap.objs.size ≤ b := by
        rcases e' with z | z
        · rw [z]; exact Nat.le_add_right _ _
        · rw [z]; exact Nat.le_refl _
      exact I1.fpOk hle (I1.hok.fresh hle)
    · obtain ⟨its, rv, p', hz⟩ := I1.tuple hq
      refine call_enumT p' fun h' he hit hsz hk => wpAny_pyIter_enum he ?_
      have I2 : Inv X pins σ H1 { s1 with heap := h' } := I1.kept (t' := s1.toks) hk
      refine ⟨s1.heap.objs.size + 1, [s1.heap.objs.size + 1, s1.heap.objs.size], _, _, H1, rfl, I2, turn_enumT a (s1.heap.objs.size + 1) s1.heap.objs.size, ⟨⟨.none, he⟩, hit, Nat.succ_ne_self _⟩, fun b hb => ?_, q⟩
      have e' : b = s1.heap.objs.size + 1 ∨ b = s1.heap.objs.size := by simpa using hb
      have hle : s1.heap.objs.size ≤ b := by
        rcases e' with z | z
        · rw [z]; exact Nat.le_add_right _ _
        · rw [z]; exact Nat.le_refl _
      exact I1.fpOk hle (I1.hok.fresh hle)
end

/-! ### walks over data -/
section
variable {w : World} {K : PySem.W.Frag} {H : Hp}
/-- what a turn gives: a datum, or a new pair -/
def Yd (w : World) (K : PySem.W.Frag) (H : Hp) (v : V) (x : D) (B : List Addr) : Prop := Rep w K H v x B ∨ ∃ a vs ds, v = .ref a ∧ SqT K H a vs ∧ x = .tup ds ∧ Reps w K H vs ds B
/-- while what is in C stays, J gives the data xs, one by one; pr: new pairs -/
def Wk (w : World) (K : PySem.W.Frag) (pr : Bool) (J : L2.It) (xs : List D) (C : Addr → Prop) (H : Hp) : Prop := ∀ H1, Stay C H H1 → ∀ i : Nat,
  (∀ x, xs[i]? = some x → J.go i H1 ∧ ∀ v H2, J.yld i H1 v H2 → Sub H1 H2 ∧ ∃ B, Yd w K H2 v x B ∧ (pr = false → Rep w K H2 v x B) ∧ ∀ a ∈ B, C a) ∧ (i = xs.length → J.stop i H1)
theorem wk_list {a : Addr} {vs : List V} {ds : List D} {B : List Addr} (e : H a = some (.lst vs)) (r : Reps w K H vs ds B) : Wk w K false (Itl K a) ds (fun x => x ∈ a :: B) H := by
  intro H1 sy i
  have e1 : H1 a = some (.lst vs) := sy a _ e fun _ => List.mem_cons_self
  have r1 := r.stay sy fun x hx => List.mem_cons_of_mem _ hx
  refine ⟨fun x hx => ?_, fun hi => ⟨vs, SqL.of e1, by rw [r1.length]; omega⟩⟩
  obtain ⟨v, A, g1, g2, g3⟩ := r1.getD hx
  refine ⟨⟨vs, v, SqL.of e1, g1⟩, fun v' H2 hy => ?_⟩
  obtain ⟨e2, hf⟩ := hy
  subst e2
  have := hf vs (SqL.of e1)
  rw [g1] at this
  cases this
  exact ⟨Sub.refl _, A, .inl g2, fun _ => g2, fun b hb => List.mem_cons_of_mem _ (g3 b hb)⟩
theorem wk_tup {a : Addr} {vs : List V} {ds : List D} {B : List Addr} (e : TupN K H a vs) (r : Reps w K H vs ds B) : Wk w K false (Itt K a) ds (fun x => x ∈ B) H := by
  intro H1 sy i
  have e1 : SqT K H1 a vs := (sy.tupN e).sq
  have r1 := r.stay sy fun x hx => hx
  refine ⟨fun x hx => ?_, fun hi => ⟨vs, e1, by rw [r1.length]; omega⟩⟩
  obtain ⟨v, A, g1, g2, g3⟩ := r1.getD hx
  refine ⟨⟨vs, v, e1, g1⟩, fun v' H2 hy => ?_⟩
  obtain ⟨e2, hf⟩ := hy
  subst e2
  have := hf vs e1
  rw [g1] at this
  cases this
  exact ⟨Sub.refl _, A, .inl g2, fun _ => g2, g3⟩
theorem wk_range (lo hi : Int) (C : Addr → Prop) : Wk w K false (Itr lo (hi - lo).toNat) (rangeD lo hi) C H := by
  intro H1 _ i
  have hl : (rangeD lo hi).length = (hi - lo).toNat := by simp [rangeD]
  refine ⟨fun x hx => ?_, fun hi => ?_⟩
  · have hlt := (List.getElem?_eq_some_iff.mp hx).1
    rw [hl] at hlt
    have ex : x = .int (lo + (i : Int)) := by
      unfold rangeD at hx
      rw [List.getElem?_map, List.getElem?_range hlt] at hx
      exact (Option.some.inj hx).symm
    subst ex
    refine ⟨hlt, fun v H2 hy => ?_⟩
    obtain ⟨e1, e2⟩ := hy
    subst e1 e2
    exact ⟨Sub.refl _, [], .inl (.int _), fun _ => .int _, fun _ h => nomatch h⟩
  · rw [hl] at hi
    show (_ : Nat) ≤ i
    omega
/-- how many turns -/
def rsN (lo hi : Int) (c : Nat) : Nat := if lo < hi then ((hi - lo - 1) / c + 1).toNat else 0
theorem rg_pos {lo hi : Int} {c : Nat} (h1 : -1000000 ≤ lo) (h2 : lo ≤ 1000000) (h3 : -1000000 ≤ hi) (h4 : hi ≤ 1000000) (hc : 0 < c) (hc2 : c ≤ 1000) : RgC lo hi (c : Int) (rsN lo hi c) := by
  have hs : Builtin.Range.rangeSize lo hi (c : Int) = (rsN lo hi c : Nat) := by
    unfold Builtin.Range.rangeSize rsN
    rw [if_pos (by omega)]
    by_cases hlt : lo < hi
    · rw [if_pos hlt, if_pos hlt]
      have : 0 ≤ (hi - lo - 1) / (c : Int) := Int.ediv_nonneg (by omega) (by omega)
      omega
    · rw [if_neg hlt, if_neg hlt]; rfl
  refine ⟨by omega, by omega, ?_, hs⟩
  have hq : ((rsN lo hi c : Nat) : Int) ≤ 2000001 := by
    unfold rsN
    split
    · have : (hi - lo - 1) / (c : Int) ≤ hi - lo - 1 := Int.ediv_le_self _ (by omega)
      have : 0 ≤ (hi - lo - 1) / (c : Int) := Int.ediv_nonneg (by omega) (by omega)
      omega
    · simp
  have hcp : (c : Int) > 0 := by omega
  unfold Builtin.Range.small
  rw [hs]
  simp only [Builtin.Range.rangeFitsLong, Bool.and_eq_true, Bool.or_eq_true, decide_eq_true_eq, beq_iff_eq, hcp, if_true]
  omega
theorem wk_rangeS (lo hi : Int) (c : Nat) (C : Addr → Prop) : Wk w K false (Itc lo (c : Int) (rsN lo hi c)) (rangeS lo hi c) C H := by
  intro H1 _ i
  have hl : (rangeS lo hi c).length = rsN lo hi c := by simp [rangeS, rsN]
  refine ⟨fun x hx => ?_, fun hi => ?_⟩
  · have hlt := (List.getElem?_eq_some_iff.mp hx).1
    rw [hl] at hlt
    have ex : x = .int (lo + (i : Int) * c) := by
      unfold rangeS at hx
      rw [List.getElem?_map, List.getElem?_range (by exact hlt)] at hx
      exact (Option.some.inj hx).symm
    subst ex
    refine ⟨hlt, fun v H2 hy => ?_⟩
    obtain ⟨e1, e2⟩ := hy
    subst e1 e2
    exact ⟨Sub.refl _, [], .inl (.int _), fun _ => .int _, fun _ h => nomatch h⟩
  · rw [hl] at hi
    show (_ : Nat) ≤ i
    omega
theorem enum_get {ds : List D} {i : Nat} {x : D} (h : (enumD ds)[i]? = some x) : ∃ d, ds[i]? = some d ∧ x = .tup [.int (i : Int), d] := by
  unfold enumD at h
  rw [List.getElem?_mapIdx, Option.map_eq_some_iff] at h
  obtain ⟨d, h1, h2⟩ := h
  exact ⟨d, h1, h2.symm⟩
theorem wk_enumL {a : Addr} {vs : List V} {ds : List D} {B : List Addr} (e : H a = some (.lst vs)) (r : Reps w K H vs ds B) : Wk w K true (Ite K a) (enumD ds) (fun x => x ∈ a :: B) H := by
  intro H1 sy i
  have e1 : H1 a = some (.lst vs) := sy a _ e fun _ => List.mem_cons_self
  have r1 := r.stay sy fun x hx => List.mem_cons_of_mem _ hx
  refine ⟨fun x hx => ?_, fun hi => ⟨vs, SqL.of e1, by rw [r1.length]; rw [hi]; simp [enumD]⟩⟩
  obtain ⟨d, hd, rfl⟩ := enum_get hx
  obtain ⟨v, A, g1, g2, g3⟩ := r1.getD hd
  refine ⟨⟨vs, v, SqL.of e1, g1⟩, fun v' H2 hy => ?_⟩
  obtain ⟨T, y, rfl, hT, e2, hf⟩ := hy
  subst e2
  have := hf vs (SqL.of e1)
  rw [g1] at this
  cases this
  refine ⟨Sub.new hT, A, .inr ⟨_, _, _, rfl, SqT.of upd_same, rfl, ?_⟩, (fun z => nomatch z), fun b hb => List.mem_cons_of_mem _ (g3 b hb)⟩
  have q : Reps w K (upd H1 T (.tup [.int (i : Nat), v])) [.int (i : Nat), v] [.int (i : Int), d] ([] ++ (A ++ [])) := .cons (.int _) (.cons (g2.sub (Sub.new hT)) .nil)
  simpa using q
theorem wk_enumT {a : Addr} {vs : List V} {ds : List D} {B : List Addr} (e : TupN K H a vs) (r : Reps w K H vs ds B) : Wk w K true (ItE K a) (enumD ds) (fun x => x ∈ B) H := by
  intro H1 sy i
  have e1 : SqT K H1 a vs := (sy.tupN e).sq
  have r1 := r.stay sy fun x hx => hx
  refine ⟨fun x hx => ?_, fun hi => ⟨vs, e1, by rw [r1.length]; rw [hi]; simp [enumD]⟩⟩
  obtain ⟨d, hd, rfl⟩ := enum_get hx
  obtain ⟨v, A, g1, g2, g3⟩ := r1.getD hd
  refine ⟨⟨vs, v, e1, g1⟩, fun v' H2 hy => ?_⟩
  obtain ⟨T, y, rfl, hT, e2, hf⟩ := hy
  subst e2
  have := hf vs e1
  rw [g1] at this
  cases this
  refine ⟨Sub.new hT, A, .inr ⟨_, _, _, rfl, SqT.of upd_same, rfl, ?_⟩, (fun z => nomatch z), g3⟩
  have q : Reps w K (upd H1 T (.tup [.int (i : Nat), v])) [.int (i : Nat), v] [.int (i : Int), d] ([] ++ (A ++ [])) := .cons (.int _) (.cons (g2.sub (Sub.new hT)) .nil)
  simpa using q
/-- the container of a datum's walk -/
theorem wk_seq {v : V} {d : D} {xs : List D} {B : List Addr} (r : Rep w K H v d B) (hi : items? d = some xs) : ∃ a, v = .ref a ∧
    (((∃ ys, SqL K H a ys) ∧ Wk w K false (Itl K a) xs (fun x => x ∈ B) H ∧ Wk w K true (Ite K a) (enumD xs) (fun x => x ∈ B) H) ∨ ((∃ ys, SqT K H a ys) ∧ Wk w K false (Itt K a) xs (fun x => x ∈ B) H ∧ Wk w K true (ItE K a) (enumD xs) (fun x => x ∈ B) H)) := by
  cases r <;> simp only [items?, Option.some.injEq, reduceCtorEq] at hi
  · rename_i a vs ds e r
    subst hi
    exact ⟨_, rfl, .inr ⟨⟨_, e.sq⟩, wk_tup e r, wk_enumT e r⟩⟩
  · rename_i a vs ds B e r
    subst hi
    exact ⟨_, rfl, .inl ⟨⟨_, SqL.of e⟩, wk_list e r, wk_enumL e r⟩⟩
theorem RepK.keyAt {kvs : List (Key × V)} {ds : List (D × D)} {B : List Addr} (r : RepK w K H kvs ds B) : ∀ {i : Nat} {k : Key} {v : V}, kvs[i]? = some (k, v) → (ds.map (·.1))[i]? = some (keyD k) := by
  intro i k v h
  have key : ∀ (kvs : List (Key × V)) (ds : List (D × D)) (B : List Addr), RepK w K H kvs ds B → ∀ (i : Nat), kvs[i]? = some (k, v) → (ds.map (·.1))[i]? = some (keyD k) := by
    intro kvs
    induction kvs with
    | nil => intro ds B r i h; simp at h
    | cons p kvs ih =>
      intro ds B r i h
      cases r with
      | cons r1 r2 =>
        cases i with
        | zero => simp at h; simp [h.1]
        | succ i => simp at h; simpa using ih _ _ r2 i h
  exact key _ _ _ r i h
theorem keyD_is {k : Key} : Rep w K H (kV k) (keyD k) [] := by
  cases k with
  | inl i => exact .int i
  | inr x => exact .str x
theorem wk_keys {a : Addr} {o : Obj} {kvs : List (Key × V)} {ds : List (D × D)} (e : H a = some (.frz o (.dK kvs))) (r : RepK w K H kvs ds []) : Wk w K false (Itk a o kvs) (ds.map (·.1)) (fun x => x ∈ ([] : List Addr)) H := by
  intro H1 sy i
  have e1 : H1 a = some (.frz o (.dK kvs)) := sy a _ e fun z => z.elim
  have hl : kvs.length = ds.length := r.length
  refine ⟨fun x hx => ?_, fun hi => ⟨e1, by rw [List.length_map] at hi; omega⟩⟩
  have hlt := (List.getElem?_eq_some_iff.mp hx).1
  rw [List.length_map] at hlt
  refine ⟨⟨e1, by omega⟩, fun v H2 hy => ?_⟩
  obtain ⟨rfl, k, vv, hk, rfl⟩ := hy
  rw [r.keyAt hk] at hx
  cases hx
  exact ⟨Sub.refl _, [], .inl keyD_is, fun _ => keyD_is, fun _ z => nomatch z⟩
theorem wk_frz {a : Addr} {o : Obj} {ns : List Int} (e : H a = some (.frz o (.lst (ns.map V.int)))) : Wk w K false (Itl K a) (ns.map D.int) (fun x => x ∈ ([] : List Addr)) H := by
  intro H1 sy i
  have e1 : SqL K H1 a (ns.map V.int) := .inl (.inr ⟨o, sy a _ e fun z => z.elim⟩)
  refine ⟨fun x hx => ?_, fun hi => ⟨_, e1, by rw [List.length_map] at hi ⊢; omega⟩⟩
  rw [List.getElem?_map] at hx
  obtain ⟨n, hn, rfl⟩ := Option.map_eq_some_iff.mp hx
  have g1 : (ns.map V.int)[i]? = some (.int n) := by rw [List.getElem?_map, hn]; rfl
  refine ⟨⟨_, _, e1, g1⟩, fun v' H2 hy => ?_⟩
  obtain ⟨e2, hf⟩ := hy
  subst e2
  have := hf _ e1
  rw [g1] at this
  cases this
  exact ⟨Sub.refl _, [], .inl (.int n), fun _ => .int n, fun _ z => nomatch z⟩
/-- .. of what may be walked -/
theorem wk_walk {v : V} {d : D} {xs : List D} {B : List Addr} (r : Rep w K H v d B) (hi : walk? d = some xs) : ∃ a, v = .ref a ∧
    (((∃ ys, SqL K H a ys) ∧ Wk w K false (Itl K a) xs (fun x => x ∈ B) H) ∨ ((∃ ys, SqT K H a ys) ∧ Wk w K false (Itt K a) xs (fun x => x ∈ B) H) ∨ ∃ o kvs, H a = some (.frz o (.dK kvs)) ∧ Wk w K false (Itk a o kvs) xs (fun x => x ∈ B) H) := by
  cases d with
  | rl ns =>
    cases r with
    | rl e =>
      cases hi
      exact ⟨_, rfl, .inl ⟨⟨_, .inl (.inr ⟨_, e⟩)⟩, wk_frz e⟩⟩
  | fz ds =>
    cases r with
    | fz e rk =>
      cases hi
      exact ⟨_, rfl, .inr (.inr ⟨_, _, e, wk_keys e rk⟩)⟩
  | _ =>
    obtain ⟨a, ha, z⟩ := wk_seq r (by simpa only [walk?] using hi)
    refine ⟨a, ha, ?_⟩
    rcases z with ⟨z1, z2, _⟩ | ⟨z1, z2, _⟩
    · exact .inl ⟨z1, z2⟩
    · exact .inr (.inl ⟨z1, z2⟩)
end
end Dl
/-! DlImp: what is wanted of data gives what the layer's rules ask. -/
namespace Dl
open PySem PySem.Spec PyProof.Rows L2
section
variable [Tab] {w : World} {K : PySem.W.Frag} {Φ : Phi} {R : Addr → Prop} {H H' : Hp} {σ : L2.St} {ρ st : DS} {fp : Fp}
def Es.len : Es → Nat
  | .nil => 0 | .cons _ es => es.len + 1 | .nm _ es => es.len + 1 | .pl _ es => es.len + 1 | .tp _ es => es.len + 1 | .at _ _ es => es.len + 1
/-- places have two parts -/
def Es.ok : Es → Bool
  | .nil => true | .cons _ es => es.ok | .nm _ es => es.ok | .pl xs es => decide (xs.len = 2) && xs.ok && es.ok | .tp xs es => xs.ok && es.ok | .at _ _ es => es.ok
def tPl (w : World) (K : PySem.W.Frag) : List TE → TE
  | [t1, t2] => tOp (rIxB w K) t1 t2
  | _ => fun _ _ _ => False
def tTupN (t : TA) : TE := fun σ H Q => t σ H fun xs H1 => xs.length ≤ sizeLine ∧ ∀ p o, H1 p = none → o.dict = none → Q (.ref p) (upd H1 p (.frz o (.tup xs)))
def trs (w : World) (K : PySem.W.Frag) (Φ : Phi) : Es → List TE
  | .nil => []
  | .cons e es => tE w K (wE Φ e) :: trs w K Φ es
  | .nm i es => tVar i :: trs w K Φ es
  | .pl xs es => tPl w K (trs w K Φ xs) :: trs w K Φ es
  | .tp xs es => tTupN (seqT (trs w K Φ xs)) :: trs w K Φ es
  | .at i f es => tFld K (tVar i) (Str.ofString f) :: trs w K Φ es
theorem trs_len : ∀ es : Es, (trs w K Φ es).length = es.len
  | .nil => rfl
  | .cons _ es => by simp [trs, Es.len, trs_len es]
  | .nm _ es => by simp [trs, Es.len, trs_len es]
  | .pl _ es => by simp [trs, Es.len, trs_len es]
  | .tp _ es => by simp [trs, Es.len, trs_len es]
  | .at _ _ es => by simp [trs, Es.len, trs_len es]

theorem tmp_out {fp1 fp2 : Fp} {H1 H2 : Hp} {M : Addr → Prop} {B : List Addr} (e2 : Ext (Mine fp1) H1 H2 (fun x => Mine fp2 x ∨ M x)) (hB : ∀ x ∈ B, H1 x ≠ none) (hd : ∀ x ∈ B, ¬ Mine fp1 x) : ∀ x ∈ B, ¬ Mine fp2 x := fun x hx m => by
  rcases e2.from_ x (.inl m) with z | z
  · exact hd x hx z
  · exact hB x hx z
theorem Own.stayOut (o : Own w K R H σ st fp) {M' : Addr → Prop} (x : Ext (Mine fp) H H' M') : Stay (fun a => ¬ Mine fp a) H H' := x.stay fun a ha => o.chg ha
theorem Rep.out {v : V} {d : D} {B : List Addr} (r : Rep w K H v d B) (o : Own w K R H σ st fp) {M' : Addr → Prop} (x : Ext (Mine fp) H H' M') (hd : ∀ y ∈ B, ¬ Mine fp y) : Rep w K H' v d B := r.stay (o.stayOut x) hd

/-- the slots as they were, the tables as they are now -/
def backF (fp fp2 : Fp) : Fp := fun i => if i = tabI then fp2 i else fp i
/-- behind a while in which all was only looked at -/
theorem Own.over {R : Addr → Prop} {H1 H2 : Hp} {st1 st2 : DS} {fp1 fp2 : Fp} {T : Addr → Prop} (o1 : Own w K R H1 σ st1 fp1) (o2 : Own w K (fun x => R x ∨ Slot_ fp1 x) H2 σ st2 fp2) (x : Ext (Mine (tabF fp1)) H1 H2 (fun x => Mine fp2 x ∨ T x)) (hT : ∀ x, T x → ¬ Mine fp2 x) :
    Own w K R H2 σ st1 (backF fp1 fp2) ∧ (∀ x, T x → ¬ Mine (backF fp1 fp2) x) ∧ Ext (Mine fp1) H1 H2 (fun x => Mine (backF fp1 fp2) x ∨ T x) := by
  have nt : ∀ {i : Nat} {y : Addr}, i ≠ tabI → y ∈ fp1 i → ¬ Mine (tabF fp1) y := fun {i y} hi hy ⟨j, hj⟩ => by
    obtain ⟨rfl, hj⟩ := tabF_mem hj
    exact hi (o1.dis i tabI y hy hj)
  have sy : Stay (fun a => ¬ Mine (tabF fp1) a) H1 H2 := x.stay fun a ⟨j, hj⟩ => by
    obtain ⟨rfl, hj⟩ := tabF_mem hj
    exact o1.tabc a hj
  have bt : backF fp1 fp2 tabI = fp2 tabI := if_pos rfl
  have bn : ∀ {i : Nat}, i ≠ tabI → backF fp1 fp2 i = fp1 i := fun h => if_neg h
  have mem : ∀ {i : Nat} {y : Addr}, y ∈ backF fp1 fp2 i → (i = tabI ∧ y ∈ fp2 tabI) ∨ (i ≠ tabI ∧ y ∈ fp1 i) := fun {i y} h => by
    by_cases hi : i = tabI
    · rw [hi, bt] at h; exact .inl ⟨hi, h⟩
    · rw [bn hi] at h; exact .inr ⟨hi, h⟩
  refine ⟨⟨o1.len, fun i d e => ?_, fun i j y h1 h2 => ?_, fun i hi h => by rw [bn hi]; exact o1.off i hi h, fun y i hR h => ?_, o1.short, by rw [bt]; exact o2.tabc, by rw [bt]; exact o2.tabs, fun y u e => ⟨(o1.base y u e).1, (o2.base y u e).2⟩⟩, fun y hy ⟨i, h⟩ => ?_, ⟨fun y u e hm => x.keep y u e fun ⟨j, hj⟩ => ?_, fun y hy => ?_⟩⟩
  · obtain ⟨v, g1, g2, g3⟩ := o1.at_ i d e
    rw [bn (o1.ne e)]
    exact ⟨v, g1, g2.stay sy fun y hy => nt (o1.ne e) hy, g3⟩
  · rcases mem h1 with ⟨rfl, h1⟩ | ⟨n1, h1⟩ <;> rcases mem h2 with ⟨rfl, h2⟩ | ⟨n2, h2⟩
    · rfl
    · exact absurd h1 (o2.out y _ (.inr ⟨j, n2, h2⟩))
    · exact absurd h2 (o2.out y _ (.inr ⟨i, n1, h1⟩))
    · exact o1.dis i j y h1 h2
  · rcases mem h with ⟨rfl, h⟩ | ⟨n1, h⟩
    · exact o2.out y _ (.inl hR) h
    · exact o1.out y i hR h
  · rcases mem h with ⟨rfl, h⟩ | ⟨n1, h⟩
    · exact hT y hy ⟨_, h⟩
    · rcases x.from_ y (.inr hy) with z | z
      · exact nt n1 h z
      · exact o1.there ⟨i, h⟩ z
  · obtain ⟨rfl, hj⟩ := tabF_mem hj
    exact hm ⟨_, hj⟩
  · rcases hy with ⟨i, h⟩ | hy
    · rcases mem h with ⟨rfl, h⟩ | ⟨n1, h⟩
      · rcases x.from_ y (.inl ⟨_, h⟩) with ⟨j, hj⟩ | z
        · exact .inl ⟨_, (tabF_mem hj).2⟩
        · exact .inr z
      · exact .inl ⟨i, h⟩
    · rcases x.from_ y (.inr hy) with ⟨j, hj⟩ | z
      · exact .inl ⟨_, (tabF_mem hj).2⟩
      · exact .inr z
/-- each stands for its datum, apart from F -/
abbrev BRepsA (w : World) (K : PySem.W.Frag) (H : Hp) (F : List Addr) : List V → List D → Prop := Paired fun v d => ∃ B, Rep w K H v d B ∧ ∀ x ∈ B, x ∉ F
theorem BRepsA.br {H : Hp} {F : List Addr} {vs : List V} {ds : List D} (h : BRepsA w K H F vs ds) : BReps w K H vs ds := by
  induction h with
  | nil => exact .nil
  | cons a _ ih => obtain ⟨B, r, _⟩ := a; exact .cons ⟨B, r⟩ ih
theorem BRepsA.cast {H : Hp} {F F' : List Addr} {vs : List V} {ds : List D} (h : BRepsA w K H F vs ds) (e : F' = F) : BRepsA w K H F' vs ds := by rw [e]; exact h
theorem BRepsA.two {H : Hp} {F : List Addr} {vs : List V} {d e : D} (h : BRepsA w K H F vs [d, e]) : ∃ v u B C, vs = [v, u] ∧ Rep w K H v d B ∧ Rep w K H u e C ∧ ∀ x ∈ B, x ∉ F := by
  cases h with
  | cons r t =>
    obtain ⟨u, C, rfl, r2⟩ := BReps.one (BRepsA.br t)
    obtain ⟨B, r, n⟩ := r
    exact ⟨_, _, B, C, rfl, r, r2, n⟩
theorem Own.peek_tab (o : Own w K R H σ st fp) {i : Nat} {d : D} {B : List Addr} (h : (st[i]? = some (some d) ∧ B = fp i) ∨ ∀ x ∈ B, R x) : ∀ x ∈ B, x ∉ fp tabI := fun x hx z => by
  rcases h with ⟨h1, rfl⟩ | h
  · exact o.ne h1 (o.dis i tabI x hx z)
  · exact o.out x _ (h x hx) z
theorem BRepsA.reps {H : Hp} {F : List Addr} {vs : List V} {ds : List D} (h : BRepsA w K H F vs ds) : ∃ B, Reps w K H vs ds B ∧ ∀ x ∈ B, x ∉ F := by
  induction h with
  | nil => exact ⟨[], .nil, fun _ z => nomatch z⟩
  | cons a _ ih =>
    obtain ⟨A, r, n⟩ := a
    obtain ⟨B, rs, m⟩ := ih
    exact ⟨A ++ B, .cons r rs, fun x hx => (List.mem_append.mp hx).elim (n x) (m x)⟩
/-- THE OPERANDS -/
theorem impAsA : ∀ (es : Es), es.ok = true → ∀ {H : Hp} {st : DS} {fp : Fp} {R : Addr → Prop} {ρ : DS} {Qd : List D → DS → Prop} {Qv : List V → Hp → Prop}, Env w K R H σ ρ → Own w K R H σ st fp → wAs Φ es ρ st Qd →
    (∀ ds st' vs H' fp' T, Qd ds st' → Ext (Mine fp) H H' (fun x => Mine fp' x ∨ T x) → Own w K R H' σ st' fp' → (∀ x, T x → ¬ Mine fp' x) → BRepsA w K H' (fp' tabI) vs ds → (es.noPl = true → OpOk w K T H' σ ρ st' es vs ds) → Qv vs H') → seqT (trs w K Φ es) σ H Qv
  | .nil, _, H, st, fp, R, ρ, Qd, Qv, e, o, h, k => by
    rw [wAs] at h
    exact k [] st [] H fp (fun _ => False) h ((Ext.refl _ _).mono fun x hx => hx.elim id False.elim) o (fun _ z => z.elim) .nil fun _ => .nil
  | .cons ex es, ok, H, st, fp, R, ρ, Qd, Qv, e, o, h, k => by
    rw [wAs] at h
    show tE w K (wE Φ ex) σ H fun v H1 => seqT (trs w K Φ es) σ H1 fun vs H2 => Qv (v :: vs) H2
    refine tE_at e o h fun d st1 v H1 fp1 B q x1 o1 r nd dj => ?_
    have e1 := e.keep' o x1
    refine impAsA es (by simpa [Es.ok] using ok) e1 o1 q fun ds st2 vs H2 fp2 T q2 x2 o2 hT br2 ok2 => ?_
    have hB : ∀ x ∈ B, H1 x ≠ none := fun x hx => r.there hx
    refine k (d :: ds) st2 (v :: vs) H2 fp2 (fun x => x ∈ B ∨ T x) q2 ?_ o2 (fun x hx => ?_) (.cons ⟨B, r.out o1 x2 dj, fun x hx z => tmp_out x2 hB dj x hx ⟨_, z⟩⟩ br2) fun np => .cons (r.out o1 x2 dj) (fun x hx => .inl hx) ((ok2 (by simpa [Es.noPl] using np)).mono fun x hx => .inr hx)
    · refine ⟨fun x u hx hm => x2.keep x u (x1.keep x u hx hm) fun m => ?_, fun x hx => ?_⟩
      · rcases x1.from_ x (.inl m) with z | z
        · exact hm z
        · rw [hx] at z; cases z
      · rcases hx with hx | hx | hx
        · rcases x2.from_ x (.inl hx) with z | z
          · exact x1.from_ x (.inl z)
          · by_cases hm : Mine fp x
            · exact .inl hm
            · right
              cases q : H x with
              | none => rfl
              | some u => rw [x1.keep x u q hm] at z; cases z
        · exact x1.from_ x (.inr hx)
        · rcases x2.from_ x (.inr hx) with z | z
          · exact x1.from_ x (.inl z)
          · by_cases hm : Mine fp x
            · exact .inl hm
            · right
              cases q : H x with
              | none => rfl
              | some u => rw [x1.keep x u q hm] at z; cases z
    · rcases hx with hx | hx
      · exact tmp_out x2 hB dj x hx
      · exact hT x hx
  | .nm i es, ok, H, st, fp, R, ρ, Qd, Qv, e, o, h, k => by
    rw [wAs] at h
    obtain ⟨h0, h⟩ := h
    obtain ⟨d0, hd0⟩ := Option.isSome_iff_exists.mp h0
    obtain ⟨v, B, hv, _, _⟩ := peek_of o e hd0
    show ∃ v, σ[i]? = some (some v) ∧ seqT (trs w K Φ es) σ H fun vs H2 => Qv (v :: vs) H2
    refine ⟨v, hv, impAsA es (by simpa [Es.ok] using ok) e o h fun ds st2 vs H2 fp2 T q2 x2 o2 hT br2 ok2 => ?_⟩
    cases hp : peek ρ st2 i with
    | none => rw [hp] at q2; exact q2.elim
    | some x =>
      rw [hp] at q2
      obtain ⟨v', B', hv', r', hw'⟩ := peek_of o2 (e.keep' o x2) hp
      rw [hv] at hv'
      cases hv'
      exact k (x :: ds) st2 (v :: vs) H2 fp2 T q2 x2 o2 hT (.cons ⟨B', r', fun y hy z => o2.peek_tab hw' y hy z⟩ br2) fun np => .nm hv hp (ok2 (by simpa [Es.noPl] using np))
  | .pl xs es, ok, H, st, fp, R, ρ, Qd, Qv, e, o, h, k => by
    rw [wAs] at h
    simp only [Es.ok, Bool.and_eq_true, decide_eq_true_eq] at ok
    obtain ⟨t1, t2, ht⟩ : ∃ t1 t2, trs w K Φ xs = [t1, t2] := by
      have := trs_len (w := w) (K := K) (Φ := Φ) xs
      rw [ok.1.1] at this
      match h2 : trs w K Φ xs, this with
      | [t1, t2], _ => exact ⟨t1, t2, rfl⟩
    show tPl w K (trs w K Φ xs) σ H fun v H1 => seqT (trs w K Φ es) σ H1 fun vs H2 => Qv (v :: vs) H2
    have key := impAsA xs ok.1.2 e o h (Qv := fun vs H2 => match vs with | [x, y] => rIxB w K x y H2 (fun v H3 => seqT (trs w K Φ es) σ H3 fun vs H4 => Qv (v :: vs) H4) | _ => False) ?_
    · rw [ht] at key ⊢
      exact key
    intro ds st1 vs H1 fp1 T q x1 o1 hT br _
    have e1 := e.keep' o x1
    match ds, q with
    | [x, y], q =>
      obtain ⟨vx, vy, Bx, By, rfl, rx, ry, nx⟩ := br.two
      cases hz : index x y with
      | none => simp only [hz] at q
      | some z =>
        simp only [hz] at q
        refine ⟨x, y, z, Bx, By, rx, ry, hz, fun v B r hB => ?_⟩
        have xx : Ext (Mine fp) H H1 (Mine fp1) := x1.mono fun x m => .inl m
        by_cases him : z.immut = true
        · rw [if_pos him] at q
          have hB0 : B = [] := r.immut him
          subst hB0
          refine impAsA es ok.2 e1 o1 q fun ds2 st2 vs2 H2 fp2 T2 q2 x2 o2 hT2 br2 ok2 => ?_
          exact k (z :: ds2) st2 (v :: vs2) H2 fp2 T2 q2 (xx.trans x2) o2 hT2 (.cons ⟨[], r.out o1 x2 (fun _ h => nomatch h), fun _ h => nomatch h⟩ br2) fun np => by simp [Es.noPl] at np
        · rw [if_neg him] at q
          refine impAsA es ok.2 (e1.lockAll o1) o1.none q fun ds2 st2 vs2 H2 fp2 T2 q2 x2 o2 hT2 br2 ok2 => ?_
          obtain ⟨o3, hT3, x3⟩ := o1.over o2 x2 hT2
          refine k (z :: ds2) st1 (v :: vs2) H2 (backF fp1 fp2) T2 q2 (xx.trans x3) o3 hT3 (.cons ⟨B, r.out o1.none x2 fun y hy m => ?_, fun y hy z => ?_⟩ (br2.cast (if_pos rfl))) fun np => by simp [Es.noPl] at np
          · obtain ⟨j, hj⟩ := m
            obtain ⟨rfl, hj⟩ := tabF_mem hj
            exact nx y (hB y hy) hj
          · have z : y ∈ fp2 tabI := by unfold backF at z; rw [if_pos rfl] at z; exact z
            rcases x2.from_ y (.inl ⟨_, z⟩) with ⟨j, hj⟩ | hn
            · exact nx y (hB y hy) (tabF_mem hj).2
            · exact r.there hy hn
    | [], q => exact q.elim
    | [_], q => exact q.elim
    | _ :: _ :: _ :: _, q => exact q.elim
  | .at i f es, ok, H, st, fp, R, ρ, Qd, Qv, e, o, h, k => by
    rw [wAs] at h
    simp only [Es.ok] at ok
    show tFld K (tVar i) (Str.ofString f) σ H fun v H1 => seqT (trs w K Φ es) σ H1 fun vs H2 => Qv (v :: vs) H2
    split at h
    rotate_left
    · exact h.elim
    rename_i c fs hp
    split at h
    rotate_left
    · exact h.elim
    rename_i z hz
    obtain ⟨v, B, hv, r, hw⟩ := peek_of o e hp
    have hnt := o.peek_tab hw
    cases r with
    | @obj a dx _ fv _ B' ck sub ea nn rs =>
      obtain ⟨vz, A, g1, g2, g3, _, p, hp1, hp2⟩ := obj_get nn rs hz
      have hfa : f ∈ atsOf c := by rw [← hp2]; exact sub p hp1
      refine ⟨_, hv, a, _, dx, fv, vz, rfl, ea, ck.1, ck.2 f hfa, g1, ?_⟩
      have nx : ∀ x ∈ A, x ∉ fp tabI := fun x hx => hnt x (List.mem_cons_of_mem _ (g3 x hx))
      by_cases him : z.immut = true
      · rw [if_pos him] at h
        have hB0 : A = [] := g2.immut him
        subst hB0
        refine impAsA es ok e o h fun ds2 st2 vs2 H2 fp2 T2 q2 x2 o2 hT2 br2 ok2 => ?_
        exact k (z :: ds2) st2 (vz :: vs2) H2 fp2 T2 q2 x2 o2 hT2 (.cons ⟨[], g2.out o x2 (fun _ h => nomatch h), fun _ h => nomatch h⟩ br2) fun np => by simp [Es.noPl] at np
      · rw [if_neg him] at h
        refine impAsA es ok (e.lockAll o) o.none h fun ds2 st2 vs2 H2 fp2 T2 q2 x2 o2 hT2 br2 ok2 => ?_
        obtain ⟨o3, hT3, x3⟩ := o.over o2 x2 hT2
        refine k (z :: ds2) st (vz :: vs2) H2 (backF fp fp2) T2 q2 x3 o3 hT3 (.cons ⟨A, g2.out o.none x2 fun y hy m => ?_, fun y hy z => ?_⟩ (br2.cast (if_pos rfl))) fun np => by simp [Es.noPl] at np
        · obtain ⟨j, hj⟩ := m
          obtain ⟨rfl, hj⟩ := tabF_mem hj
          exact nx y hy hj
        · have z : y ∈ fp2 tabI := by unfold backF at z; rw [if_pos rfl] at z; exact z
          rcases x2.from_ y (.inl ⟨_, z⟩) with ⟨j, hj⟩ | hn
          · exact nx y hy (tabF_mem hj).2
          · exact g2.there hy hn
  | .tp xs es, ok, H, st, fp, R, ρ, Qd, Qv, e, o, h, k => by
    rw [wAs] at h
    simp only [Es.ok, Bool.and_eq_true] at ok
    show tTupN (seqT (trs w K Φ xs)) σ H fun v H1 => seqT (trs w K Φ es) σ H1 fun vs H2 => Qv (v :: vs) H2
    refine impAsA xs ok.1 e o h fun ds st1 vs H1 fp1 T q x1 o1 hT br _ => ?_
    obtain ⟨B, rs, nx⟩ := br.reps
    refine ⟨by rw [rs.length]; exact Nat.le_trans q.1 lim_line, fun p ob hp ho => ?_⟩
    have s : Sub H1 (upd H1 p (.frz ob (.tup vs))) := Sub.new hp
    have q := q.2
    have r : Rep w K (upd H1 p (.frz ob (.tup vs))) (.ref p) (.tup ds) B := .tup (.inl ⟨ob, upd_same, ho⟩) (rs.sub s)
    have xx : Ext (Mine fp) H (upd H1 p (.frz ob (.tup vs))) (Mine fp1) := (x1.trans (Ext.sub s)).mono fun x m => .inl m
    have e1 := e.keep' o xx
    have o1 := o1.sub s
    generalize upd H1 p (.frz ob (.tup vs)) = H3 at *
    refine impAsA es ok.2 (e1.lockAll o1) o1.none q fun ds2 st2 vs2 H2 fp2 T2 q2 x2 o2 hT2 br2 ok2 => ?_
    obtain ⟨o3, hT3, x3⟩ := o1.over o2 x2 hT2
    refine k (.tup ds :: ds2) st1 (.ref p :: vs2) H2 (backF fp1 fp2) T2 q2 (xx.trans x3) o3 hT3 (.cons ⟨B, r.out o1.none x2 fun y hy m => ?_, fun y hy z => ?_⟩ (br2.cast (if_pos rfl))) fun np => by simp [Es.noPl] at np
    · obtain ⟨j, hj⟩ := m
      obtain ⟨rfl, hj⟩ := tabF_mem hj
      exact nx y hy hj
    · have z : y ∈ fp2 tabI := by unfold backF at z; rw [if_pos rfl] at z; exact z
      rcases x2.from_ y (.inl ⟨_, z⟩) with ⟨j, hj⟩ | hn
      · exact nx y hy (tabF_mem hj).2
      · exact r.there hy hn

theorem impAs : ∀ (es : Es), es.ok = true → ∀ {H : Hp} {st : DS} {fp : Fp} {R : Addr → Prop} {ρ : DS} {Qd : List D → DS → Prop} {Qv : List V → Hp → Prop}, Env w K R H σ ρ → Own w K R H σ st fp → wAs Φ es ρ st Qd →
    (∀ ds st' vs H' fp' T, Qd ds st' → Ext (Mine fp) H H' (fun x => Mine fp' x ∨ T x) → Own w K R H' σ st' fp' → (∀ x, T x → ¬ Mine fp' x) → BReps w K H' vs ds → (es.noPl = true → OpOk w K T H' σ ρ st' es vs ds) → Qv vs H') → seqT (trs w K Φ es) σ H Qv :=
  fun es ok _ _ _ _ _ _ _ e o h k => impAsA es ok e o h fun ds st' vs H' fp' T q x o' hT br ok => k ds st' vs H' fp' T q x o' hT br.br ok

/-! ### values one behind the other -/
theorem impVs : ∀ (es : Es), ∀ {H : Hp} {st : DS} {fp : Fp} {R : Addr → Prop} {ρ : DS} {Qd : List D → DS → Prop} {Qv : List V → Hp → Prop}, Env w K R H σ ρ → Own w K R H σ st fp → wVs Φ es ρ st Qd →
    (∀ ds st' vs H' fp' B, Qd ds st' → Ext (Mine fp) H H' (fun x => Mine fp' x ∨ x ∈ B) → Own w K R H' σ st' fp' → Reps w K H' vs ds B → B.Nodup → (∀ x ∈ B, ¬ Mine fp' x) → Qv vs H') → seqT (trs w K Φ es) σ H Qv
  | .nil, H, st, fp, R, ρ, Qd, Qv, e, o, h, k => by
    rw [wVs] at h
    exact k [] st [] H fp [] h ((Ext.refl _ _).mono fun x hx => hx.elim id fun z => nomatch z) o .nil List.nodup_nil (fun _ z => nomatch z)
  | .cons ex es, H, st, fp, R, ρ, Qd, Qv, e, o, h, k => by
    rw [wVs] at h
    show tE w K (wE Φ ex) σ H fun v H1 => seqT (trs w K Φ es) σ H1 fun vs H2 => Qv (v :: vs) H2
    refine tE_at e o h fun d st1 v H1 fp1 B q x1 o1 r nd dj => ?_
    have e1 := e.keep' o x1
    refine impVs es e1 o1 q fun ds st2 vs H2 fp2 B2 q2 x2 o2 rs nd2 dj2 => ?_
    have hB : ∀ x ∈ B, H1 x ≠ none := fun x hx => r.there hx
    have dB : ∀ x ∈ B, ¬ Mine fp2 x := tmp_out (M := fun x => x ∈ B2) x2 hB dj
    refine k (d :: ds) st2 (v :: vs) H2 fp2 (B ++ B2) q2 ?_ o2 (.cons (r.out o1 x2 dj) rs) ?_ (fun x hx => ?_)
    · refine ⟨fun x u hx hm => x2.keep x u (x1.keep x u hx hm) fun m => ?_, fun x hx => ?_⟩
      · rcases x1.from_ x (.inl m) with z | z
        · exact hm z
        · rw [hx] at z; cases z
      · have back : ∀ x, (Mine fp2 x ∨ x ∈ B2) → Mine fp x ∨ H x = none := fun x hx => by
          rcases x2.from_ x hx with z | z
          · exact x1.from_ x (.inl z)
          · by_cases hm : Mine fp x
            · exact .inl hm
            · right
              cases q : H x with
              | none => rfl
              | some u => rw [x1.keep x u q hm] at z; cases z
        rcases hx with hx | hx
        · exact back x (.inl hx)
        · rcases List.mem_append.mp hx with hx | hx
          · exact x1.from_ x (.inr hx)
          · exact back x (.inr hx)
    · rw [List.nodup_append]
      refine ⟨nd, nd2, fun a ha b hb z => ?_⟩
      subst z
      rcases x2.from_ a (.inr hb) with z | z
      · exact dj a ha z
      · exact hB a ha z
    · rcases List.mem_append.mp hx with hx | hx
      · exact dB x hx
      · exact dj2 x hx
  | .nm _ _, H, st, fp, R, ρ, Qd, Qv, e, o, h, k => by rw [wVs] at h; exact h.elim
  | .pl _ _, H, st, fp, R, ρ, Qd, Qv, e, o, h, k => by rw [wVs] at h; exact h.elim
  | .tp _ _, H, st, fp, R, ρ, Qd, Qv, e, o, h, k => by rw [wVs] at h; exact h.elim
  | .at _ _ _, H, st, fp, R, ρ, Qd, Qv, e, o, h, k => by rw [wVs] at h; exact h.elim
end
end Dl
/-! DlChk: whether a piece of a program's text is a piece of the small language; the context. -/
namespace Dl
open PySem PySem.Spec PyProof.Rows L2

abbrev s_ (x : String) : Str := Str.ofString x
/-- marks: lambdas may be made here -/
def lamM : Str := "<lambda>"
/-- marks: what was handed in may be called here -/
def actM : Str := "<act>"
def mkM : Str := s_ "<new>"
def visB (sc : Scope) (x : Str) : Bool := match sc.names.lookup x with
  | some .local => true | some .cell => true | some .free => true | _ => false
def glB (sc : Scope) (x : Str) : Bool := match sc.names.lookup x with
  | some .globalImplicit => true | _ => false
/-- a name that may be stored: a local one, or a cell that was made at the entry -/
def locB (sc : Scope) (fn : Str → Bool) (x : Str) : Bool := match sc.names.lookup x with
  | some .local => true | some .cell => fn x | _ => false
def isLocal (sc : Scope) (x : Str) : Bool := match sc.names.lookup x with
  | some .local => true | _ => false
def okNm (x : Str) : Bool := !(x == ("__debug__" : Str)) && !(x == ("__classdict__" : Str)) && decide (x ≠ "__name__")
def notStar : Expr → Bool
  | .Starred _ _ => false | _ => true
def noSlice : Expr → Bool
  | .Slice _ _ _ _ => false | _ => true
def noSet : Expr → Bool
  | .Set _ _ _ => false | _ => true
/-- no super() -/
def noSup : Expr → Bool
  | .Call (.Name _ _) [] [] _ => false | _ => true
def chkNm (N : List Str) (sc : Scope) (i : Nat) : Expr → Bool
  | .Name x _ => decide (N[i]? = some x) && visB sc x && okNm x
  | _ => false
def isIntK (c : Nat) : Expr → Bool
  | .Constant (.int k) _ _ => decide (k = (c : Int)) | _ => false
theorem isIntK_of {c : Nat} {z : Expr} (h : isIntK c z = true) : ∃ j p, z = .Constant (.int (c : Int)) j p := by
  unfold isIntK at h
  split at h
  · exact ⟨_, _, by rw [of_decide_eq_true h]⟩
  · cases h
def chkGl (sc : Scope) (f : String) : Expr → Bool
  | .Name x _ => decide (x = s_ f) && glB sc x && okNm x
  | _ => false
def chkK : K0 → Const → Bool
  | .non, .none => true
  | .bl b, .bool c => b == c
  | .int i, .int j => i == j
  | .str s, .str x => decide (x = s_ s)
  | _, _ => false
def Bf.nm : Bf → String
  | .len => "len" | .tuple => "tuple" | .list => "list" | .max1 => "max" | .max2 => "max" | .min2 => "min" | .sum1 => "sum" | .min1 => "min" | .dict1 => "dict" | .sorted1 => "sorted" | .int1 => "int"
def Mr.nm : Mr → String
  | .index => "index" | .get => "get"
def Mm.nm : Mm → String
  | .append => "append" | .pop1 => "pop" | .insert => "insert" | .extend => "extend" | .update => "update"
def chkTy (sc : Scope) : List Ty → Expr → Bool
  | [t], .Name x p => chkGl sc t.nm (.Name x p)
  | ts, .Tuple es _ _ => decide (ts.length = es.length) && decide (ts.length ≤ 8) && (ts.zip es).all fun p => chkGl sc p.1.nm p.2 && notStar p.2
  | _, _ => false
def chkTgs (N : List Str) (sc : Scope) (fn : Str → Bool) (fx : List Nat) : List Nat → List Expr → Bool
  | [], [] => true
  | i :: is, .Name x _ :: es => decide (N[i]? = some x) && locB sc fn x && decide (i ∉ fx) && chkTgs N sc fn fx is es
  | _, _ => false
def chkTg (N : List Str) (sc : Scope) (fn : Str → Bool) (fx : List Nat) : Tg → Expr → Bool
  | .nm i, e => chkTgs N sc fn fx [i] [e]
  | .tp is, .Tuple es _ _ => chkTgs N sc fn fx is es
  | _, _ => false
def isTuple : Expr → Bool
  | .Tuple _ _ _ => true | _ => false
def fnOf (scope : Scope) : Str → Bool := fun x => scope.names.lookup x == some .cell && !(x == lamM) && !(x == actM) && !(x == mkM)
def few (es : List Expr) : Bool := decide (es.length < 29)
def It.root : It → Option Nat
  | .seqN i => some i | .enumN i => some i | .seqA i _ => some i | _ => none
/-- a walk over whole numbers -/
def It.rg : It → Bool
  | .rng1 _ => true | .rng2 _ _ => true | .rng3 _ _ _ => true | _ => false
/-- a loop's names that must stay: none if it walks over whole numbers -/
def It.keep (it : It) (tg : Tg) : List Nat := if it.rg then [] else tg.slots
/-- the block's own names -/
def ownS (own : List (String × Nat)) : List (Str × Nat) := own.map fun p => (s_ p.1, p.2)
theorem ownS_slots (own : List (String × Nat)) : (ownS own).map (·.2) = own.map (·.2) := by simp [ownS, List.map_map, Function.comp_def]
/-- what may be frozen as it is made -/
def frzB : Expr → Bool
  | .Call _ _ _ _ => true | .BinOp _ _ _ _ => true | .List _ _ => true | _ => false
mutual
def chkE (N : List Str) (cs : List (String × K0)) (sc : Scope) (fn : Str → Bool) : E → Expr → Bool
  | .v i, e => chkNm N sc i e
  | .c k, .Constant c _ _ => chkK k c
  | .g x k, e => chkGl sc x e && cs.any fun p => decide (p = (x, k))
  | .bin op es, .BinOp a o b _ => decide (o = op.op) && chkEs N cs sc fn es [a, b]
  | .neg a, .UnaryOp .USub x _ => chkE N cs sc fn a x
  | .cmp op es, .Compare a [o] [b] _ => decide (o = op.op) && noSet b && chkEs N cs sc fn es [a, b]
  | .chain o1 o2 a b c, .Compare x [p1, p2] [y, z] _ => decide (p1 = o1.op) && decide (p2 = o2.op) && noSet z && chkE N cs sc fn a x && chkE N cs sc fn b y && chkE N cs sc fn c z
  | .isN neg es, .Compare a [o] [.Constant .none _ _] _ => decide (o = if neg then .IsNot else .Is) && chkEs N cs sc fn es [a]
  | .lenS es, .Call f [.Call g [x] [] _] [] _ => chkGl sc "len" f && chkGl sc "set" g && chkEs N cs sc fn es [x]
  | .sortS es, .Call f [.Call g [x] [] _] [] _ => chkGl sc "sorted" f && chkGl sc "set" g && chkEs N cs sc fn es [x]
  | .lrev es, .Call f [.Call g [x] [] _] [] _ => chkGl sc "list" f && chkGl sc "reversed" g && chkEs N cs sc fn es [x]
  | .ap i es, .Call g (x :: xs) [] _ => fn actM && chkNm N sc i g && chkEs N cs sc fn es (x :: xs)
  | .and a b, .BoolOp .And (x :: r) p => chkE N cs sc fn a x && (match r with
    | [] => false
    | [y] => chkE N cs sc fn b y
    | _ :: _ :: _ => chkE N cs sc fn b (.BoolOp .And r p))
  | .or a b, .BoolOp .Or (x :: r) p => chkE N cs sc fn a x && (match r with
    | [] => false
    | [y] => chkE N cs sc fn b y
    | _ :: _ :: _ => chkE N cs sc fn b (.BoolOp .Or r p))
  | .not a, .UnaryOp .Not x _ => chkE N cs sc fn a x
  | .ite c a b, .IfExp x y z _ => chkE N cs sc fn c x && chkE N cs sc fn a y && chkE N cs sc fn b z
  | .tup es, .Tuple xs _ _ => chkEs N cs sc fn es xs
  | .tupM i es, .Tuple (x :: xs) _ _ => chkNm N sc i x && chkEs N cs sc fn es xs
  | .lst es, .List xs _ => chkEs N cs sc fn es xs
  | .dct0, .Dict [] [] _ => true
  | .idx es, .Subscript a b _ => noSlice b && chkEs N cs sc fn es [a, b]
  | .idxT e k, .Subscript a b _ => noSlice b && chkE N cs sc fn e a && chkE N cs sc fn k b
  | .isi ts es, .Call f [x, c] [] _ => chkGl sc "isinstance" f && chkTy sc ts c && chkEs N cs sc fn es [x]
  | .bf f es, .Call g (x :: xs) [] _ => chkGl sc f.nm g && chkEs N cs sc fn es (x :: xs)
  | .mr m i es, .Call (.Attribute o nm ap) (x :: xs) [] cp => decide (nm = s_ m.nm) && noSup o && (ap.endLine == cp.line) && few xs && chkNm N sc i o && chkEs N cs sc fn es (x :: xs)
  | .mm m i es, .Call (.Attribute o nm ap) (x :: xs) [] cp => decide (nm = s_ m.nm) && noSup o && (ap.endLine == cp.line) && few xs && chkNm N sc i o && chkEs N cs sc fn es (x :: xs)
  | .fn f es, .Call g xs [] _ => chkGl sc f g && chkEs N cs sc fn es xs && (decide (f ≠ "@") && !isM f)
  | .comp elt tg it ifs own, .ListComp elt' [⟨tgE, iter, ifs', ia⟩] scope _ => decide (ia = 0) && noSet iter && chkIt N cs sc fn it tgE iter && blkC N sc scope (ownS own) &&
      chkTg N (relS scope sc) (fnOf scope) [] tg tgE && (tg.slots.all fun i => decide (i ∈ own.map (·.2))) && decide (ifs'.length ≤ 1) && chkEs N cs (relS scope sc) (fnOf scope) ifs ifs' && chkE N cs (relS scope sc) (fnOf scope) elt elt' && decide (tabI ∉ it.root.toList ++ own.map (·.2))
  | .slc l h es, .Subscript a (.Slice lo hi none _) _ => decide (l = lo.isSome) && decide (h = hi.isSome) && chkEs N cs sc fn es (a :: (lo.toList ++ hi.toList))
  | .lrng tp two es, .Call f [.Call g xs [] _] [] _ => chkGl sc (if tp then "tuple" else "list") f && chkGl sc "range" g && decide (xs.length = if two then 2 else 1) && chkEs N cs sc fn es xs
  | .dct1 k v, .Dict [some kx] [vx] _ => chkE N cs sc fn k kx && chkE N cs sc fn v vx
  | .dctT k v, .Dict [some kx] [vx] _ => chkE N cs sc fn k kx && chkE N cs sc fn v vx
  | .mmd i k c, .Call (.Attribute (.Subscript o (.Constant (.int k') _ _) _) nm ap) [.Constant c' _ _] [] cp => decide (nm = s_ "append") && decide (k' = k) && (ap.endLine == cp.line) && chkNm N sc i o && chkK c c'
  | .av i f, .Attribute o nm _ => decide (nm = s_ f) && noSup o && chkNm N sc i o
  | .mth k c m i es, .Call (.Attribute o nm ap) xs [] cp => decide (k ≠ "@") && isM k && decide (spl k = (c, m)) && decide (nm = s_ m) && noSup o && (ap.endLine == cp.line) && few xs && chkNm N sc i o && chkEs N cs sc fn es xs
  | .new k c es, .Call g xs [] _ => fn mkM && decide (k ≠ "@") && isM k && decide (spl k = (c, "__init__")) && chkGl sc c g && chkEs N cs sc fn es xs
  | .mrA m i f es, .Call (.Attribute (.Attribute o fn' fp) nm ap) (x :: xs) [] cp => decide (nm = s_ m.nm) && decide (fn' = s_ f) && noSup o && (ap.endLine == cp.line) && few xs && chkNm N sc i o && chkEs N cs sc fn es (x :: xs)
  | .frz e, ex => frzB ex && chkE N cs sc fn e ex
  | _, _ => false
def chkEs (N : List Str) (cs : List (String × K0)) (sc : Scope) (fn : Str → Bool) : Es → List Expr → Bool
  | .nil, [] => true
  | .cons e es, x :: xs => notStar x && chkE N cs sc fn e x && chkEs N cs sc fn es xs
  | .nm i es, x :: xs => chkNm N sc i x && chkEs N cs sc fn es xs
  | .pl ps es, .Subscript a b _ :: xs => noSlice b && chkEs N cs sc fn ps [a, b] && chkEs N cs sc fn es xs
  | .at i f es, .Attribute o nm _ :: xs => decide (nm = s_ f) && noSup o && chkNm N sc i o && chkEs N cs sc fn es xs
  | .tp ps es, .Tuple ys _ _ :: xs => chkEs N cs sc fn ps ys && chkEs N cs sc fn es xs
  | _, _ => false
def chkIt (N : List Str) (cs : List (String × K0)) (sc : Scope) (fn : Str → Bool) : It → Expr → Expr → Bool
  | .rng1 a, _, .Call f [x] [] _ => chkGl sc "range" f && notStar x && chkE N cs sc fn a x
  | .rng2 a b, _, .Call f [x, y] [] _ => chkGl sc "range" f && notStar x && notStar y && chkE N cs sc fn a x && chkE N cs sc fn b y
  | .rng3 a b c, _, .Call f [x, y, z] [] _ => chkGl sc "range" f && notStar x && notStar y && isIntK c z && chkE N cs sc fn a x && chkE N cs sc fn b y
  | .seq e, _, x => chkE N cs sc fn e x
  | .seqN i, _, x => chkNm N sc i x
  | .seqA i f, _, .Attribute o nm _ => decide (nm = s_ f) && noSup o && chkNm N sc i o
  | .enum e, tg, .Call f [x] [] _ => isTuple tg && chkGl sc "enumerate" f && notStar x && chkE N cs sc fn e x
  | .enumN i, tg, .Call f [x] [] _ => isTuple tg && chkGl sc "enumerate" f && chkNm N sc i x
  | _, _, _ => false
end

/-! ### defs by what they are worth -/
section
variable [Tab]
/-- F: where the tables of code objects stand, and what they tell -/
structure Args (w : World) (K : PySem.W.Frag) (H : Hp) (F : List Addr) (io : List Bool) (vs : List V) (ds : List D) (bs : List (List Addr)) : Prop where
  lv : vs.length = io.length
  ld : ds.length = io.length
  lb : bs.length = io.length
  rep : ∀ (j : Nat) (v : V) (d : D) (b : List Addr), vs[j]? = some v → ds[j]? = some d → bs[j]? = some b → Rep w K H v d b
  nd : ∀ (j : Nat) (b : List Addr), io[j]? = some true → bs[j]? = some b → b.Nodup
  dis : ∀ (j k : Nat) (b c : List Addr) (x : Addr), j ≠ k → io[j]? = some true → bs[j]? = some b → bs[k]? = some c → x ∈ b → x ∉ c
  tabc : ∀ x ∈ F, Chg (H x)
  tabs : ∀ p ∈ Tab.tt, TabIn H F p.1 p.2
  tout : ∀ (j : Nat) (b : List Addr) (x : Addr), bs[j]? = some b → x ∈ b → x ∉ F
/-- what a def may change -/
def IoSet (io : List Bool) (bs : List (List Addr)) (x : Addr) : Prop := ∃ (j : Nat) (b : List Addr), io[j]? = some true ∧ bs[j]? = some b ∧ x ∈ b
/-- .. the tables too -/
def IoT (io : List Bool) (bs : List (List Addr)) (F : List Addr) (x : Addr) : Prop := IoSet io bs x ∨ x ∈ F
/-- a def's end: the answer and what stands in its parameters -/
structure Outs (w : World) (K : PySem.W.Frag) (H H' : Hp) (F F' : List Addr) (io : List Bool) (vs : List V) (bs : List (List Addr)) (r : D) (ds' : List D) (v : V) (bs' : List (List Addr)) (B : List Addr) : Prop where
  lb : bs'.length = io.length
  ld : ds'.length = io.length
  ext : Ext (IoT io bs F) H H' (fun x => IoT io bs' F' x ∨ x ∈ B)
  rep : ∀ (j : Nat) (u : V) (d : D) (b : List Addr), io[j]? = some true → vs[j]? = some u → ds'[j]? = some d → bs'[j]? = some b → Rep w K H' u d b ∧ b.Nodup
  dis : ∀ (j k : Nat) (b c : List Addr) (x : Addr), j ≠ k → io[j]? = some true → io[k]? = some true → bs'[j]? = some b → bs'[k]? = some c → x ∈ b → x ∉ c
  ret : Rep w K H' v r B
  nd : B.Nodup
  out : ∀ x ∈ B, ¬ IoT io bs' F' x
  sep : ∀ x ∈ F', ¬ IoSet io bs' x
  tabc : ∀ x ∈ F', Chg (H' x)
  tabs : ∀ p ∈ Tab.tt, TabIn H' F' p.1 p.2
def spD (w : World) (K : PySem.W.Frag) (sp : Spec) : Sp := fun vs H Q _ => ∃ ds bs Qd F, Args w K H F sp.io vs ds bs ∧ sp.run ds Qd ∧
  ∀ r ds' v H' bs' B F', Qd r ds' → Outs w K H H' F F' sp.io vs bs r ds' v bs' B → Q v H'

def bnames : List String := ["len", "tuple", "list", "max", "min", "isinstance", "range", "enumerate", "int", "bool", "str", "dict", "sum", "sorted", "set", "reversed", "zip"]
def K0.v : K0 → V
  | .non => .non | .bl b => .bl b | .int i => .int i | .str s => .str (s_ s)
/-- what is handed in at f: it can be called wherever what stood at H stands; its code object at c bears the name q -/
def LamOk (P : Program) (w : World) (K : PySem.W.Frag) (mg : Str → Option Value) (base : Heap) (outer : List PySem.Env) (s : Shared) (H : Hp) (k : Nat) (f : Addr) (n : Nat) (step : Run) : Prop :=
  (∀ (s1 : Shared) (HZ : Hp), Un (frs outer) [] H HZ s.heap s1.heap → PySem.W.FnAt f s1.heap) ∧
  ∀ (A' : Around) (outer' : List PySem.Env) (s1 : Shared) (HZ : Hp) (us : List Value) (vs : List V) (Q : VK), Room k A' → Env0 P w K mg base A' outer' s1 HZ → s1.heap.NoLimit → Un (frs outer) [] H HZ s.heap s1.heap → Sub H HZ → Vals vs us →
    @spD ⟨[], fun _ => none⟩ w K { io := List.replicate n false, run := step } vs HZ Q E0 → codeAny (model P w) A' (.call (.ref f) ⟨us, []⟩) (CR (L2.CX P w) outer' P w HZ s1 Q E0) s1
/-- a def that calls what is handed in first -/
def HoOk (P : Program) (w : World) (K : PySem.W.Frag) (mg : Str → Option Value) (base : Heap) (g : Addr) (io : List Bool) (n : Nat) (h : Nat → Run → Run) : Prop :=
  ∀ (k : Nat) (A : Around) (outer : List PySem.Env) (s : Shared) (H : Hp) (us : List Value) (vs : List V) (Q : VK) (f : Addr) (step : Run), Room (k + 1) A → Env0 P w K mg base A outer s H → Vals (.ref f :: vs) us → LamOk P w K mg base outer s H k f n step →
    @spD ⟨[], fun _ => none⟩ w K { io := io, run := h f step } (.ref f :: vs) H Q E0 → codeAny (model P w) A (.call (.ref g) ⟨us, []⟩) (CR CX0 outer P w H s Q E0) s
/-- where a def stands: a name of the module, a method of a class -/
def StdAt (K : PySem.W.Frag) (mg : Str → Option Value) (f : String) (a : Addr) : Prop :=
  (isM f = false → mg (s_ f) = some (.ref a) ∧ PySem.W.keepIn K (.ref a) = true) ∧ (isM f = true → Meth K (He.ga K (s_ (spl f).1)) (s_ (spl f).2) a ∧ ((spl f).2 = "__init__" → ClsOk K (spl f).1 ∧ mg (s_ (spl f).1) = some (.ref (He.ga K (s_ (spl f).1))) ∧ Mk K (He.ga K (s_ (spl f).1)) a))
/-- what the making of lambdas asks -/
structure Good (w : World) (K : PySem.W.Frag) (Φ : Phi) (N : List Str) (cs : List (String × K0)) (lv : Nat) (sc : Scope) (fn : Str → Bool) (X : Cx) : Prop where
  w_ : X.w = w
  K_ : X.K = K
  N_ : X.N = N
  sc_ : X.env.scope = sc
  fn_ : ∀ x, fn x = true → X.fn x = true
  calm : X.calm = true
  nd : N.Nodup
  room : Room lv X.A
  room1 : fn mkM = true → Room (lv + 1) X.A
  kind : sc.kind = .function
  lam : fn lamM = true → (∃ c P : Addr, LamX.TabB X.base X.mg c P ∧ X.env.code = .ref c ∧ (P, X.env.qual ++ "<lambda>") ∈ Tab.tt ∧ ∀ p ∈ Tab.tt, p.1 = P → p.2 = X.env.qual ++ "<lambda>") ∧ Room (lv + 6) X.A
  blt : ∀ x ∈ bnames, X.mg (s_ x) = none
  cst : ∀ p ∈ cs, ∃ u, X.mg (s_ p.1) = some u ∧ RelV p.2.v u
  fns : ∀ f sp, Φ f = some sp → f ≠ "@" → ∃ (a : Addr) (fd : FuncData) (ps : List Str), FnOk X.prog w K X.mg X.base CX0 lv a fd ps (spD w K sp) ∧ StdAt K X.mg f a ∧ Binds K fd ps [] ∧ (sp.pure = true → FnOk X.prog w K X.mg X.base CX0 lv a fd ps (@spD ⟨[], fun _ => none⟩ w K sp)) ∧
    ∀ n h, sp.ho = some (n, h) → HoOk X.prog w K X.mg X.base a sp.io n h
  act : fn actM = true → ∀ sp, Φ "@" = some sp → ∃ (fa : Addr) (n : Nat), sp.id = some fa ∧ sp.io = List.replicate n false ∧ ∀ (i : Nat) (a : Str) (x : Expr) (es : List Expr) (p1 p2 : Pos) (t : TA), N[i]? = some a → Vis sc a → (a == ("__debug__" : Str)) = false → (a == ("__classdict__" : Str)) = false → PA X (x :: es) t →
    starEach (x :: es) X.env = (false, eval x X.env) :: starEach es X.env → (∀ pos, (backTo pos (starEach es X.env)).any (·.1) = false) →
    PE X (.Call (.Name a p1) (x :: es) [] p2) (fun σ H Q => σ[i]? = some (some (.ref fa)) ∧ t σ H fun vs H1 => Sub Tab.h0 H1 ∧ @spD ⟨[], fun _ => none⟩ w K sp vs H1 Q E0)
theorem Good.hu {w : World} {K : PySem.W.Frag} {Φ : Phi} {N : List Str} {cs : List (String × K0)} {lv : Nat} {sc : Scope} {fn : Str → Bool} {X : Cx} (G : Good w K Φ N cs lv sc fn X) : X.A.units + 100 < cLine := by have := G.room.un; omega
end
end Dl
/-! DlSetN: set(a list) of tuples of whole numbers and None that all differ. -/
namespace Dl
open PySem PySem.Spec PyProof.Rows L2
/-- a thing that is carried by value: None, a whole number -/
def ByV (v : Value) : Prop := v = .none ∨ ∃ i t, v = .int i t
/-- an element: the tuple at x, its key -/
structure El (h : Heap) (x : Addr) (k : NestedKey) : Prop where
  key : NestedIs h k (.ref x)
  dep : k.depth ≤ 8
  flat : ∃ o vs n, h.get? x = some o ∧ o.cls = .type "tuple" ∧ o.data = .seq vs n ∧ ∀ v ∈ vs.toList, ByV v
section
variable {P : Program} {w : World} {A : Around} {E : Value → Shared → Prop} {s : Shared}
theorem El.on {h h' : Heap} {x : Addr} {k : NestedKey} (e : El h x k) (hk : ∀ a o vs n, h.get? a = some o → o.data = .seq vs n → h'.get? a = some o) : El h' x k := by
  obtain ⟨o, vs, n, h1, h2, h3, h4⟩ := e.flat
  exact ⟨NestedIs.at hk _ _ e.key, e.dep, o, vs, n, hk _ _ _ _ h1 h3, h2, h3, h4⟩
theorem El.ty {x : Addr} {k : NestedKey} (e : El s.heap x k) : s.TypeIs (.ref x) "tuple" := by
  obtain ⟨o, vs, n, h1, h2, h3, h4⟩ := e.flat
  exact ⟨o, h1, h2⟩
theorem El.nk {x : Addr} {k : NestedKey} (e : El s.heap x k) : (nestedKind P w).is s.heap k x := ⟨e.key, e.dep⟩
theorem El.cls {x : Addr} {k : NestedKey} {Q : Bool → Shared → Prop} (e : El s.heap x k) (h : Q false s) : wpAny (model P w) A (ofAClassStatement 8 (.ref x)) Q E s := by
  have hT := e.ty
  obtain ⟨o, vs, n, h1, h2, h3, h4⟩ := e.flat
  unfold ofAClassStatement
  refine wpAny_bind (wpAny_typeOf hT ?_)
  dsimp only
  have e : (("tuple" : String) == "tuple") = true := by decide
  simp only [e, if_true, Bool.not_true, Bool.false_eq_true, if_false]
  try refine wpAny_bind (wpAny_pure ?_)
  try simp only [Bool.not_true, Bool.false_eq_true, if_false]
  show wpAny _ _ (seqItems? (.ref x) >>= _) _ _ s
  refine wpAny_bind (wpAny_seqItems h1 h3 ?_)
  dsimp only
  refine wpAny_bind ?_
  show wpAny _ _ (forIn vs _ _) _ _ s
  rw [← Array.forIn_toList]
  refine wpAny_forIn_list _ (fun rest r s' => r.1 = none ∧ s' = s ∧ ∀ v ∈ rest, ByV v) _ ?_ ?_ _ _ ⟨rfl, rfl, h4⟩
  · rintro v rest r s' ⟨hr, rfl, hall⟩
    have ev : ofAClassStatement 7 v = pure false := by
      rcases hall v List.mem_cons_self with rfl | ⟨i, t, rfl⟩ <;> rfl
    rw [ev]
    refine wpAny_bind (wpAny_pure ?_)
    simp only [Bool.false_eq_true, if_false]
    exact wpAny_pure ⟨rfl, rfl, fun u hu' => hall u (List.mem_cons_of_mem _ hu')⟩
  · rintro ⟨r1, r2⟩ s' ⟨hr, rfl, _⟩
    simp only at hr
    subst hr
    exact wpAny_pure h
theorem El.hby {x : Addr} {k : NestedKey} {Q : Bool → Shared → Prop} (e : El s.heap x k) (h : Q true s) : wpAny (model P w) A (hashByValue 8 (.ref x)) Q E s := by
  have hT := e.ty
  obtain ⟨o, vs, n, h1, h2, h3, h4⟩ := e.flat
  unfold hashByValue
  refine wpAny_bind (wpAny_specialOf hT F.slot_tuple_hash.lookup ?_)
  show wpAny _ _ (seqItems? (.ref x) >>= _) _ _ s
  refine wpAny_bind (wpAny_seqItems h1 h3 ?_)
  refine wpAny_bind ?_
  show wpAny _ _ (forIn vs _ _) _ _ s
  rw [← Array.forIn_toList]
  refine wpAny_forIn_list _ (fun rest r s' => r.1 = none ∧ s' = s ∧ ∀ v ∈ rest, ByV v) _ ?_ ?_ _ _ ⟨rfl, rfl, h4⟩
  · rintro v rest r s' ⟨hr, rfl, hall⟩
    have ev : hashByValue 7 v = pure true := by
      rcases hall v List.mem_cons_self with rfl | ⟨i, t, rfl⟩ <;> rfl
    rw [ev]
    refine wpAny_bind (wpAny_pure ?_)
    simp only [Bool.not_true, Bool.false_eq_true, if_false]
    exact wpAny_pure ⟨rfl, rfl, fun u hu' => hall u (List.mem_cons_of_mem _ hu')⟩
  · rintro ⟨r1, r2⟩ s' ⟨hr, rfl, _⟩
    simp only at hr
    subst hr
    exact wpAny_pure h
/-- looking for one shows nothing -/
theorem El.seen {x : Addr} {k : NestedKey} {Q : Bool → Shared → Prop} (e : El s.heap x k) {ys : List Value} (hy : ∀ y ∈ ys, ∃ c k', y = Value.ref c ∧ El s.heap c k') (h : Q false s) :
    wpAny (model P w) A (searchCouldBeSeen (.ref x) ys) Q E s := by
  unfold searchCouldBeSeen
  refine wpAny_bind (wpAny_forIn_list _ (fun rest r s' => r.1 = none ∧ s' = s ∧ ∀ y ∈ rest, ∃ c k', y = Value.ref c ∧ El s.heap c k') _ ?_ ?_ _ _ ⟨rfl, rfl, hy⟩)
  · rintro v rest r s' ⟨hr, rfl, hall⟩
    obtain ⟨c, k', rfl, hc⟩ := hall v List.mem_cons_self
    have rest' : ∀ y ∈ rest, ∃ c k', y = Value.ref c ∧ El s'.heap c k' := fun u hu' => hall u (List.mem_cons_of_mem _ hu')
    dsimp only
    by_cases hv : (x == c || (carriedByValue (.ref x) && carriedByValue (.ref c))) = true
    · exact wp_if_pos hv (wpAny_pure ⟨rfl, rfl, rest'⟩)
    · refine wp_if_neg hv (wpAny_bind ((nestedKind P w).quiet e.nk ?_))
      simp only [Bool.not_true, Bool.false_eq_true, if_false]
      refine wpAny_bind ((nestedKind P w).quiet hc.nk ?_)
      simp only [Bool.not_true, Bool.false_eq_true, if_false]
      refine wpAny_bind (e.cls ?_)
      simp only [Bool.false_eq_true, if_false]
      refine wpAny_bind (hc.cls ?_)
      simp only [Bool.false_eq_true, if_false]
      exact wpAny_pure ⟨rfl, rfl, rest'⟩
  · rintro ⟨r1, r2⟩ s' ⟨hr, rfl, _⟩
    simp only at hr
    subst hr
    exact wpAny_pure h
/-! ### the set: L its elements, in the order of the table -/
abbrev ehs (w : World) (L : List (Addr × NestedKey)) : List Int := L.map fun p => p.2.hash w
abbrev erows (w : World) (L : List (Addr × NestedKey)) : List (Int × Value) := L.map fun p => (p.2.hash w, Value.ref p.1)
structure SN (w : World) (h : Heap) (a : Addr) (L : List (Addr × NestedKey)) (es : Array (Int × Value)) (ep : Nat) (t : SetTable) : Prop where
  ob : ∃ o, h.get? a = some o ∧ o.ExactSet ∧ o.data = .set es ep t
  rows : es.toList = erows w L
  tab : TabOk t (ehs w L)
  el : ∀ p ∈ L, El h p.1 p.2
  plain : t.plain = true
  room : L.length * 5 < t.mask * 3
variable {a : Addr} {L : List (Addr × NestedKey)} {es : Array (Int × Value)} {ep : Nat} {t : SetTable}
theorem rows_size {L : List (Addr × NestedKey)} {es : Array (Int × Value)} (h : es.toList = erows w L) : es.size = L.length := by
  have h := congrArg List.length h
  rw [Array.length_toList, List.length_map] at h
  exact h
theorem fits_of {n : Nat} {es : Array (Int × Value)} {t : SetTable} (h1 : es.size = n) (h2 : t.place.size = n) (h3 : t.dummies = #[]) (h4 : n ≤ t.mask) : t.fits es.size = true := by
  unfold SetTable.fits SetTable.fill
  rw [h3, Bool.and_eq_true, beq_iff_eq, decide_eq_true_eq]
  show t.place.size = es.size ∧ t.place.size + 0 ≤ t.mask
  omega
theorem SN.sz (R : SN w s.heap a L es ep t) : t.place.size = L.length := by
  have h := R.tab.sz
  rwa [List.length_map] at h
theorem SN.fits (R : SN w s.heap a L es ep t) : t.fits es.size = true := fits_of (rows_size R.rows) R.sz R.tab.dm (by have := R.room; omega)
theorem SN.at_ (R : SN w s.heap a L es ep t) {i : Nat} {p : Addr × NestedKey} (h : L[i]? = some p) : es[i]? = some (p.2.hash w, Value.ref p.1) := by
  rw [← Array.getElem?_toList, R.rows, List.getElem?_map, h]; rfl
/-- what isn't in it isn't found: the first free slot on the way -/
theorem SN.look (R : SN w s.heap a L es ep t) {x : Addr} {k : NestedKey} (hx : El s.heap x k) (hm : ∀ p ∈ L, p.2 ≠ k) (hu : A.units + 8 < cLine) {K : Nat} (hKf : K < 10 * SetTable.turns t.mask)
    (hK : way t.mask (k.hash w) K ∉ t.place.toList) (hKb : ∀ c, c < K → way t.mask (k.hash w) c ∈ t.place.toList) {Q : SetFound → Shared → Prop} (hQ : Q (.free (way t.mask (k.hash w) K) false) s) :
    ∀ (f c : Nat) (stand : Option SetTable.Probe), stand.getD (t.probeStart (k.hash w)) = nth t.mask (runAt t.mask (SetTable.bits (k.hash w) % (t.mask + 1)) (SetTable.bits (k.hash w))) c → c ≤ K → K - c < f →
      wpAny (model P w) A (setSearchFrom a (.ref x) (k.hash w) true f stand) Q E s
  | 0, c, stand, _, _, hf => absurd hf (Nat.not_lt_zero _)
  | f + 1, c, stand, hst, hc, hf => by
    obtain ⟨o, ho, hex, hd⟩ := R.ob
    rw [setSearchFrom_succ]
    refine wpAny_bind (wpAny_setState_of ho hd R.fits ?_)
    dsimp only
    refine wp_if_neg (by unfold SetTable.gaveWay; rw [mask_odd R.tab.mok]; decide) ?_
    try refine wpAny_bind (wpAny_pure ?_)
    generalize hr0 : runAt t.mask (SetTable.bits (k.hash w) % (t.mask + 1)) (SetTable.bits (k.hash w)) = r0 at hst
    have hw : ∀ c, way t.mask (k.hash w) c = (nth t.mask r0 c).j := fun c => by rw [← hr0]
    have hnd : (nth t.mask r0 c).dummy = none := by
      have key : ∀ (n : Nat) (p : SetTable.Probe), p.dummy = none → (nth t.mask p n).dummy = none := by
        intro n
        induction n with
        | zero => exact fun p h => h
        | succ n ih => exact fun p h => ih (adv t.mask p) (by unfold adv; split <;> exact h)
      exact key c _ (by rw [← hr0]; rfl)
    have sh : ∀ q, nth t.mask (nth t.mask r0 c) q = nth t.mask r0 (c + q) := fun q => (nth_add t.mask c _ q).symm
    have spec := go_spec t R.tab.ris R.tab.dm (fun i => (es[i]?.map (·.1)).getD 0) (k.hash w) (10 * SetTable.turns t.mask) (K - c) _ hnd (by omega)
      (fun q hq => by rw [sh, ← hw]; exact hKb (c + q) (by omega)) (by rw [sh, ← hw, show c + (K - c) = K by omega]; exact hK)
    simp only [sh] at spec
    rcases spec with ⟨q, i, hq, hi, hh, hno, hpr⟩ | ⟨hno, hpr⟩
    · have hpr' : t.probe (fun i => (es[i]?.map (·.1)).getD 0) (k.hash w) (stand.getD (t.probeStart (k.hash w))) = some (.candidate (nth t.mask r0 (c + q)).j i (nth t.mask r0 (c + (q + 1)))) := by
        rw [hst]; exact hpr
      rw [hpr']
      dsimp only
      have hil : i < L.length := by
        have h1 : i < t.place.toList.length := (List.getElem?_eq_some_iff.mp hi).1
        rw [Array.length_toList, R.sz] at h1
        exact h1
      have hp : L[i]? = some L[i] := List.getElem?_eq_getElem hil
      generalize hpe : L[i] = p at hp
      have hmem : p ∈ L := List.mem_of_getElem? hp
      have hkk : ¬ p.2 = k := hm p hmem
      have rest : wpAny (model P w) A (searchRest a (.ref x) (k.hash w) true f es t (nth t.mask r0 (c + q)).j i (nth t.mask r0 (c + (q + 1)))) Q E s := by
        unfold searchRest
        rw [R.at_ hp]
        dsimp only
        refine wpAny_bind (wpAny_holding ((nestedKind P w).eqBool hu (R.el p hmem).nk hx.nk ?_))
        refine wpAny_bind (wpAny_setState_of ho hd R.fits ?_)
        dsimp only
        refine wp_if_neg (by simp [hkk]) ?_
        try refine wpAny_bind (wpAny_pure ?_)
        rw [sameMem]
        dsimp only
        have hsl : t.slot (nth t.mask r0 (c + q)).j = .live i := slot_live R.tab.ris hi
        simp only [if_true, hsl, R.at_ hp]
        refine wpAny_bind (wpAny_isSame_ref_self (wpAny_bind (wpAny_pure ?_)))
        simp only [if_true]
        refine wp_if_neg (by simp [hkk]) ?_
        exact SN.look R hx hm hu hKf hK hKb hQ f (c + (q + 1)) _ (by rw [hr0]; rfl) (by omega) (by omega)
      by_cases hl : t.led = true
      · refine wp_if_neg (by simp [hl]) ?_
        try refine wpAny_bind (wpAny_pure ?_)
        exact rest
      · refine wp_if_pos (by simp [hl]) ?_
        refine wpAny_bind (hx.seen (fun y hy => ?_) ?_)
        · obtain ⟨e, he, ee⟩ := List.mem_map.mp hy
          have he1 : e ∈ es ∧ e.1 = k.hash w := by simpa using he
          have he2 : e ∈ es.toList := by simpa using he1.1
          rw [R.rows] at he2
          obtain ⟨p2, hp2, e2⟩ := List.mem_map.mp he2
          exact ⟨p2.1, p2.2, by rw [← ee, ← e2], R.el p2 hp2⟩
        · refine wp_if_neg (by decide) ?_
          try refine wpAny_bind (wpAny_pure ?_)
          exact rest
    · have hpr' : t.probe (fun i => (es[i]?.map (·.1)).getD 0) (k.hash w) (stand.getD (t.probeStart (k.hash w))) = some (.empty (way t.mask (k.hash w) K) none) := by
        rw [hst, hw, show K = c + (K - c) by omega]; exact hpr
      rw [hpr']
      dsimp only
      exact wpAny_pure hQ
/-- the elements by another order -/
theorem erows_order {L : List (Addr × NestedKey)} {es : Array (Int × Value)} {order : Array Nat} (hr : es.toList = erows w L) (hp : order.toList.Perm (List.range L.length)) :
    ∃ L2, (order.filterMap (es[·]?)).toList = erows w L2 ∧ L2.Perm L ∧ ehs w L2 = order.toList.map fun i => (es.map (·.1)).getD i 0 := by
  have ent : ∀ i (h : i < L.length), es[i]? = some ((L[i]).2.hash w, Value.ref (L[i]).1) := fun i h => by
    rw [← Array.getElem?_toList, hr, List.getElem?_map, List.getElem?_eq_getElem h]; rfl
  have key : ∀ l : List Nat, (∀ i ∈ l, i < L.length) → l.filterMap (fun i => es[i]?) = erows w (l.filterMap fun i => L[i]?) ∧ ehs w (l.filterMap fun i => L[i]?) = l.map fun i => (es.map (·.1)).getD i 0 := by
    intro l
    induction l with
    | nil => exact fun _ => ⟨rfl, rfl⟩
    | cons i l ih =>
      intro hl
      have hi := hl i List.mem_cons_self
      obtain ⟨e1, e2⟩ := ih fun j hj => hl j (List.mem_cons_of_mem _ hj)
      rw [List.filterMap_cons_some (ent i hi), List.filterMap_cons_some (List.getElem?_eq_getElem hi)]
      refine ⟨by rw [e1]; rfl, ?_⟩
      show (L[i]).2.hash w :: ehs w _ = _
      rw [e2, List.map_cons]
      congr 1
      have e5 : (es.map (·.1))[i]? = some ((L[i]).2.hash w) := by rw [Array.getElem?_map, ent i hi]; rfl
      simp [Array.getD_eq_getD_getElem?, e5]
  obtain ⟨e1, e2⟩ := key order.toList fun i hi => List.mem_range.mp (hp.mem_iff.mp hi)
  refine ⟨order.toList.filterMap fun i => L[i]?, by first | (rw [Array.toList_filterMap]; exact e1) | simpa using e1, ?_, e2⟩
  have h1 := hp.filterMap fun i => L[i]?
  have h2 : ∀ n, n ≤ L.length → (List.range n).filterMap (fun i => L[i]?) = L.take n := by
    intro n
    induction n with
    | zero => intro _; simp
    | succ n ih =>
      intro hn
      rw [List.range_succ, List.filterMap_append, ih (by omega), List.take_succ, List.filterMap_cons_some (List.getElem?_eq_getElem (show n < L.length by omega)), List.getElem?_eq_getElem (show n < L.length by omega)]
      rfl
  rw [h2 L.length (Nat.le_refl _), List.take_length] at h1
  exact h1
theorem el_same {h h' : Heap} {a : Addr} {o : Obj} {es : Array (Int × Value)} {ep : Nat} {t : SetTable} (ho : h.get? a = some o) (hd : o.data = .set es ep t) (hs : Heap.SameBut a h h') {x : Addr} {k : NestedKey} (e : El h x k) : El h' x k :=
  e.on fun b ob vs n hb hv => by
    refine (hs.2 b fun z => ?_).trans hb
    subst z
    rw [ho] at hb
    cases hb
    rw [hd] at hv
    cases hv
/-- laid anew, larger -/
theorem SN.relay {o : Obj} (ho : s.heap.get? a = some o) (hex : o.ExactSet) (hd : o.data = .set es ep t) (hrows : es.toList = erows w L) (T0 : TabOk t (ehs w L)) (hfl : L.length ≤ t.mask) (el : ∀ p ∈ L, El s.heap p.1 p.2) (pl : t.plain = true) {wanted M : Nat}
    (hw : SetTable.sizeAbove wanted - 1 = M) (hM : MaskOk M) (hw2 : SetTable.sizeAbove wanted ≤ 128) (hn : L.length * 5 < M * 3) {Q : Unit → Shared → Prop}
    (hQ : ∀ h' L' es' ep' t', Heap.SameBut a s.heap h' → SN w h' a L' es' ep' t' → L'.Perm L → Q () { s with heap := h' }) : wpAny (model P w) A (setRelay a wanted) Q E s := by
  have hsl := rows_size hrows
  have hsz : t.place.size = L.length := by have h := T0.sz; rwa [List.length_map] at h
  obtain ⟨t', order, e, hp, T, em, el', ep', ed⟩ := relaid_ok t (hs := es.map (·.1)) (wanted := wanted) hw hM (by rw [Array.size_map, hsl]; omega)
  rw [Array.size_map, hsl] at hp
  obtain ⟨L2, r1, r2, r3⟩ := erows_order hrows hp
  rw [← r3] at T
  have hs2 : (order.filterMap (es[·]?)).size = es.size := by rw [rows_size r1, r2.length_eq, hsl]
  rw [setRelay_eq]
  refine wpAny_bind (wpAny_setState_of ho hd (fits_of hsl hsz T0.dm hfl) ?_)
  dsimp only
  refine wp_if_neg (by rw [sizeLine_eq]; omega) ?_
  try refine wpAny_bind (wpAny_pure ?_)
  rw [e]
  dsimp only
  refine wpAny_bind (wp_if_neg (by rw [hs2]; simp) ?_)
  try refine wpAny_bind (wpAny_pure ?_)
  refine wpAny_pure ?_
  dsimp only
  have hm128 : M ≤ 127 := by rcases hM with e | e | e <;> omega
  refine wpAny_storeSet_of ho hd ?_ (by rw [hs2, hsl, sizeLine_eq]; omega)
  have sb : Heap.SameBut a s.heap (s.heap.update a (Obj.putSet (order.filterMap (es[·]?)) t')) := Heap.SameBut.update ..
  exact hQ _ L2 (order.filterMap (es[·]?)) (ep + 1) t' sb ⟨⟨_, store_at ho hd, ⟨hex.1, hex.2.1, hex.2.2⟩, rfl⟩, r1, T, fun p hpm => el_same ho hd sb (el p (r2.mem_iff.mp hpm)), by rw [ep']; exact pl, by rw [r2.length_eq, em]; exact hn⟩ r2
/-- one more -/
theorem SN.add (R : SN w s.heap a L es ep t) {x : Addr} {k : NestedKey} (hx : El s.heap x k) (hm : ∀ p ∈ L, p.2 ≠ k) (hu : A.units + 8 < cLine) (hfew : L.length + 1 < 64) {Q : Bool → Shared → Prop}
    (hQ : ∀ b h' L' es' ep' t', Heap.SameBut a s.heap h' → SN w h' a L' es' ep' t' → L'.Perm ((x, k) :: L) → Q b { s with heap := h' }) :
    wpAny (model P w) A (setAddHashed a (.ref x) (k.hash w)) Q E s := by
  obtain ⟨o, ho, hex, hd⟩ := R.ob
  have hsl := rows_size R.rows
  have hroom := R.room
  unfold setAddHashed
  refine wpAny_holding ?_
  rw [show (100000 : Nat) = 99999 + 1 from rfl, setAddHashedIn_succ]
  refine wpAny_bind (wpAny_setState_of ho hd R.fits ?_)
  dsimp only
  refine wp_if_neg (by simp [byScan, Value.scannable]) ?_
  try refine wpAny_bind (wpAny_pure ?_)
  obtain ⟨K, hKf, hK, hb⟩ := R.tab.first (by rw [List.length_map]; omega) (k.hash w)
  have hbig : 10 * SetTable.turns t.mask ≤ 1420 := by
    unfold SetTable.turns
    rcases R.tab.mok with e | e | e <;> omega
  refine wpAny_bind (SN.look R hx hm hu hKf hK hb ?_ 100000 0 none rfl (Nat.zero_le _) (by omega))
  dsimp only
  refine wpAny_bind (wpAny_setState_of ho hd R.fits ?_)
  dsimp only
  obtain ⟨q1, q2, q3, q4, q5, q6, q7, q8, q9⟩ := R.tab.put hK hb
  have hp1 : (t.put (way t.mask (k.hash w) K)).1.plain = true := by rw [q6]; exact R.plain
  generalize hpt : t.put (way t.mask (k.hash w) K) = pt at q1 q3 q4 q5 q6 q7 q8 q9 hp1 ⊢
  obtain ⟨t1, p⟩ := pt
  dsimp only at q1 q3 q4 q5 q6 q7 q8 q9 hp1 ⊢
  subst q1
  first
    | (refine wpAny_bind ?_; refine wp_if_pos hp1 ?_; refine hx.hby ?_)
    | refine wp_if_pos hp1 (wpAny_bind (hx.hby ?_))
  simp only [if_true]
  generalize hpp : SetTable.below t.place (way t.mask (k.hash w) K) = p at q2 q3 ⊢
  have hin : (SetTable.insertAt es p (k.hash w, Value.ref x)).toList = erows w (L.take p ++ (x, k) :: L.drop p) := by
    rw [SetTable.toList_insertAt, R.rows]
    simp [erows, List.map_take, List.map_drop]
  have hhs : ehs w (L.take p ++ (x, k) :: L.drop p) = (ehs w L).take p ++ k.hash w :: (ehs w L).drop p := by
    simp [ehs, List.map_take, List.map_drop]
  rw [← hhs] at q3
  have pm : (L.take p ++ (x, k) :: L.drop p).Perm ((x, k) :: L) := by
    have h : (L.take p ++ (x, k) :: L.drop p).Perm ((x, k) :: (L.take p ++ L.drop p)) := List.perm_middle
    rwa [List.take_append_drop] at h
  have hlen := pm.length_eq
  rw [List.length_cons] at hlen
  have hes := rows_size hin
  rw [hlen] at hes
  generalize SetTable.insertAt es p (k.hash w, Value.ref x) = es1 at hin hes ⊢
  generalize L.take p ++ (x, k) :: L.drop p = L1 at pm hlen q3 hin hhs
  refine wpAny_bind (wpAny_storeSet_of ho hd ?_ (by rw [hes, sizeLine_eq]; omega))
  have sb : Heap.SameBut a s.heap (s.heap.update a (Obj.putSet es1 t1)) := Heap.SameBut.update ..
  have ho1 := store_at (es' := es1) (t' := t1) ho hd
  generalize s.heap.update a (Obj.putSet es1 t1) = h1 at sb ho1 ⊢
  have el1 : ∀ p ∈ L1, El h1 p.1 p.2 := fun p hp => by
    rcases List.mem_cons.mp (pm.mem_iff.mp hp) with e | hp
    · rw [e]; exact el_same ho hd sb hx
    · exact el_same ho hd sb (R.el p hp)
  have hfe : t1.tooFull = decide ((L.length + 1) * 5 ≥ t1.mask * 3) := by
    unfold SetTable.tooFull
    rw [q9, List.length_map]
  by_cases hf : t1.tooFull = true
  · first
      | (refine wpAny_bind ?_; refine wp_if_pos (by simp [hf]) ?_)
      | (refine wp_if_pos (by simp [hf]) ?_; refine wpAny_bind ?_)
    rw [hfe, decide_eq_true_eq] at hf
    rw [hsl]
    have cases2 : (t.mask = 7 ∧ L.length = 4) ∨ (t.mask = 31 ∧ L.length = 18) := by
      rcases R.tab.mok with e | e | e
      · left; rw [q4, e] at hf; rw [e] at hroom; exact ⟨e, by omega⟩
      · right; rw [q4, e] at hf; rw [e] at hroom; exact ⟨e, by omega⟩
      · exfalso; rw [q4, e] at hf; omega
    have go : ∀ M, SetTable.sizeAbove (SetTable.grown (L.length + 1)) - 1 = M → MaskOk M → SetTable.sizeAbove (SetTable.grown (L.length + 1)) ≤ 128 → (L.length + 1) * 5 < M * 3 →
        wpAny (model P w) A (setRelay a (SetTable.grown (L.length + 1))) (fun _ s' => wpAny (model P w) A (pure true) Q E s') E { s with heap := h1 } := fun M h1' h2' h3' h4' =>
      SN.relay (s := { s with heap := h1 }) ho1 ⟨hex.1, hex.2.1, hex.2.2⟩ rfl hin q3 (by rw [hlen, q4]; rcases cases2 with ⟨e, e2⟩ | ⟨e, e2⟩ <;> omega) el1 hp1 h1' h2' h3' (by rw [hlen]; exact h4')
        fun h2 L2 es2 ep2 t2 sb2 R2 pm2 => wpAny_pure (hQ true h2 L2 es2 ep2 t2 (sb.trans sb2) R2 (pm2.trans pm))
    rcases cases2 with ⟨_, e2⟩ | ⟨_, e2⟩
    · exact go 31 (by rw [e2, size_20]) (.inr (.inl rfl)) (by rw [e2, size_20]; decide) (by omega)
    · exact go 127 (by rw [e2, size_76]) (.inr (.inr rfl)) (by rw [e2, size_76]; decide) (by omega)
  · first
      | refine wp_if_neg (by simp [hf]) ?_
      | (refine wpAny_bind ?_; refine wp_if_neg (by simp [hf]) ?_; refine wpAny_pure ?_)
    rw [hfe, decide_eq_true_eq] at hf
    exact wpAny_pure (hQ true h1 L1 es1 (ep + 1) t1 sb ⟨⟨_, ho1, ⟨hex.1, hex.2.1, hex.2.2⟩, rfl⟩, hin, q3, el1, hp1, by rw [hlen]; omega⟩ pm)
theorem SN.keep {h h' : Heap} {a : Addr} {L : List (Addr × NestedKey)} {es : Array (Int × Value)} {ep : Nat} {t : SetTable} (R : SN w h a L es ep t) (ha : ∀ o, h.get? a = some o → h'.get? a = some o) (el : ∀ p ∈ L, El h' p.1 p.2) : SN w h' a L es ep t := by
  obtain ⟨o, ho, r⟩ := R.ob
  exact ⟨⟨o, ha o ho, r⟩, R.rows, R.tab, el, R.plain, R.room⟩
abbrev setN0 (w : World) : Obj := { cls := .type "set", dict := none, data := .set #[] 0 (.fresh 0 0 (!w.params.followText "set-order")) }
theorem SN.fresh {h : Heap} {a : Addr} (ho : h.get? a = some (setN0 w)) : SN w h a [] #[] 0 (.fresh 0 0 (!w.params.followText "set-order")) :=
  ⟨⟨_, ho, ⟨rfl, rfl, rfl⟩, rfl⟩, rfl, ⟨List.Pairwise.nil, rfl, rfl, .inl rfl, fun x hx => (by cases hx), fun i h j hi => (by simp at hi)⟩, fun p hp => (by cases hp), rfl, by show 0 * 5 < 7 * 3; decide⟩
/-- the loop: one by one -/
theorem SN.loop {I : Addr} {fp wr : List Addr} {G : Array GenState → Array GenState → Prop} {n : Nat} {Pv : Nat → Value → Prop} {St : Nat → Shared → Prop} {R : Result → Shared → Prop}
    (W : WalksS P w A.in1 I fp wr G n Pv St) (S : Addr) (hSf : S ∉ fp) (ks : List (Addr × NestedKey)) (hn : n = ks.length) (hfew : ks.length < 64) (hnd : (ks.map (·.2)).Nodup) (hval : ∀ i v, Pv i v → ∃ p, ks[i]? = some p ∧ v = .ref p.1)
    (h0 : Heap) (hk : ∀ p ∈ ks, El h0 p.1 p.2) (hS0 : h0.get? S = none) (hw0 : ∀ b ∈ wr, h0.get? b = none) (hu : A.in1.units + 8 < cLine) :
    ∀ (k i : Nat) (s : Shared), n - i = k → i ≤ n → St i s → (∀ b o, h0.get? b = some o → s.heap.get? b = some o) → (∃ L es ep t, SN w s.heap S L es ep t ∧ L.Perm (ks.take i)) →
      (∀ s' L es ep t, Moved (S :: wr) G s s' → SN w s'.heap S L es ep t → L.Perm ks → (∀ b o, h0.get? b = some o → s'.heap.get? b = some o) → R (.ok (.ret .none)) s') →
      codeAny (model P w) A (.builtin "set.update.loop" ⟨[.ref S, .ref I], []⟩) R s := by
  have hSw : S ∉ wr := fun h => hSf (W.sub _ h)
  have hsub : ∀ b ∈ wr, b ∈ S :: wr := fun b hb => List.mem_cons_of_mem _ hb
  have keepM : ∀ {s s' : Shared}, Moved wr G s s' → (∀ b o, h0.get? b = some o → s.heap.get? b = some o) → ∀ b o, h0.get? b = some o → s'.heap.get? b = some o := fun hm hkp b o e =>
    hm.heap b o (fun hb => by rw [hw0 b hb] at e; cases e) (hkp b o e)
  intro k
  induction k with
  | zero =>
    intro i s hk' hi hst hkp ⟨L, es, ep, t, hS, g⟩ hR
    have hin : i = n := by omega
    subst hin
    refine codeAny_builtin F.entry_set_update_loop ?_
    rw [Around.under_plainId F.plain_set_update_loop _]
    show wpAny _ A.in1 (pyNext (.ref I) >>= _) _ _ s
    refine wpAny_bind (W.done s _ _ hst fun s' hm => ?_)
    show wpAny _ A.in1 (ret Value.none) _ _ s'
    have hkp' := keepM hm hkp
    rw [hn, List.take_length] at g
    exact wpAny_pure (hR s' L es ep t (hm.mono hsub) (hS.keep (fun o e => hm.heap S o hSw e) fun p hp => (hk p (g.mem_iff.mp hp)).on fun b o vs m e _ => hkp' b o e) g hkp')
  | succ k ih =>
    intro i s hk' hi hst hkp ⟨L, es, ep, t, hS, g⟩ hR
    have hlt : i < n := by omega
    refine codeAny_builtin F.entry_set_update_loop ?_
    rw [Around.under_plainId F.plain_set_update_loop _]
    show wpAny _ A.in1 (pyNext (.ref I) >>= _) _ _ s
    refine wpAny_bind (W.item i s _ _ hlt hst fun v s' hP hst' hm => ?_)
    obtain ⟨p, hp, rfl⟩ := hval i v hP
    have hkp' := keepM hm hkp
    have stays : ∀ {h' : Heap}, (∀ b o, h0.get? b = some o → h'.get? b = some o) → ∀ q ∈ ks, El h' q.1 q.2 := fun hh q hq => (hk q hq).on fun b o vs m e _ => hh b o e
    have hS' : SN w s'.heap S L es ep t := hS.keep (fun o e => hm.heap S o hSw e) fun q hq => stays hkp' q (List.mem_of_mem_take (g.mem_iff.mp hq))
    have hx : El s'.heap p.1 p.2 := stays hkp' p (List.mem_of_getElem? hp)
    have hpi : i < ks.length := by omega
    have hnew : ∀ q ∈ L, q.2 ≠ p.2 := fun q hq z => by
      obtain ⟨j, hj, e⟩ := List.getElem_of_mem (g.mem_iff.mp hq)
      rw [List.length_take] at hj
      have e1 : (ks.map (·.2))[j]? = some p.2 := by
        rw [List.getElem?_map, List.getElem?_eq_getElem (show j < ks.length by omega)]
        rw [List.getElem_take] at e
        rw [e, ← z]; rfl
      have e2 : (ks.map (·.2))[i]? = some p.2 := by rw [List.getElem?_map, hp]; rfl
      have := (List.getElem?_inj (by rw [List.length_map]; omega) hnd).mp (e1.trans e2.symm)
      omega
    show wpAny _ A.in1 (holding [Value.ref p.1] (setAdd S (.ref p.1)) >>= _) _ _ s'
    refine wpAny_bind (wpAny_holding ?_)
    unfold setAdd
    refine wpAny_holding ?_
    refine wpAny_bind ((nestedKind P w).pyHash hu hx.nk ?_)
    refine SN.add (s := { s' with toks := s'.toks + (nestedKind P w).draws p.2 }) hS' hx hnew hu (by have := g.length_eq; rw [List.length_take] at this; omega) fun b h' L' es' ep' t' hsb hS2 c2 => ?_
    have g' : L'.Perm (ks.take (i + 1)) := by
      rw [List.take_succ, hp]
      exact c2.trans ((g.cons _).trans (List.perm_append_singleton _ _).symm)
    have hkp2 : ∀ b o, h0.get? b = some o → h'.get? b = some o := fun b o e => (hsb.2 b (fun z => by rw [z, hS0] at e; cases e)).trans (hkp' b o e)
    refine wpAny_pure ⟨plainId_quiet F.plain_set_update_loop _, ih (i + 1) _ (by omega) hlt (W.frame _ s' _ _ hst' (Nat.le_add_right _ _) fun b hb o e => ?_) hkp2 ⟨L', es', ep', t', hS2, g'⟩ fun s'' L2 es2 ep2 t2 hm'' hS'' g'' hkp'' => ?_⟩
    · rw [hsb.2 b (fun h : b = S => hSf (by rw [← h]; exact hb))]; exact e
    · refine hR s'' L2 es2 ep2 t2 (Moved.trans W.gtrans ((hm.mono hsub).then_heap (Nat.le_add_right _ _) fun b o hb e => ?_) hm'') hS'' g'' hkp''
      rw [hsb.2 b (fun h : b = S => hb (by rw [h]; exact List.mem_cons_self))]; exact e
set_option maxHeartbeats 3200000 in
/-- set(a list) -/
theorem call_setN {l : Addr} {items : Array Value} (ks : List (Addr × NestedKey)) {Q : Value → Shared → Prop} (hh : A.handled = none) (hl : s.heap.IsList l items) (hit : items.toList = ks.map fun p => Value.ref p.1)
    (hk : ∀ p ∈ ks, El s.heap p.1 p.2) (hfew : ks.length < 64) (hnd : (ks.map (·.2)).Nodup) (hu : A.units + 12 < cLine)
    (h : ∀ (h' : Heap) (tk : Nat) L es ep t, SN w h' s.heap.objs.size L es ep t → L.Perm ks → (∀ b o, s.heap.get? b = some o → h'.get? b = some o) → Q (.ref s.heap.objs.size) { s with heap := h', toks := tk }) :
    wpAny (model P w) A (call (.type "set") [.ref l]) Q E s := by
  have hisz : items.size = ks.length := by
    have q := congrArg List.length hit
    rw [Array.length_toList, List.length_map] at q
    exact q
  obtain ⟨c, tl, hmro⟩ := F.called_set.mro
  have hmade := F.called_set.made
  have hsub := F.called_set.sub
  refine wpAny_call (codeAny_of_tree ?_)
  show wpAny _ _ (callAny (.type "set") _) _ _ _
  refine wpAny_pure ⟨Code.quiet_builtin _ (by decide +kernel), codeAny_builtin F.entry_type_call ?_⟩
  rw [Around.under_plain (weight_type_call_type "set" [.ref l] []) rfl]
  have h1 := F.called_set.notType
  have h2 := F.called_set.canCreate
  have hct := F.typeCall_set_1 (.ref l)
  repeat (any_goals (first | assumption | wp_step))
  refine codeAny_mono (code_set_led1 (.ref l) (E := E) (Q₁ := fun obj s₁ => obj = .ref s.heap.objs.size ∧ s₁ = { s with heap := s.heap.push (setN0 w) }) ⟨rfl, rfl⟩) fun r s₁ hr => ?_
  cases r with
  | error e => exact hr
  | ok fl =>
    cases fl with
    | ret obj =>
      obtain ⟨rfl, rfl⟩ := hr
      have hS : (s.heap.push (setN0 w)).get? s.heap.objs.size = some (setN0 w) := Heap.get?_push_size _ rfl
      have hT : Shared.TypeIs { s with heap := s.heap.push (setN0 w) } (.ref s.heap.objs.size) "set" := ⟨_, hS, rfl⟩
      have hli := F.called_set.init.lookup
      have hbi := F.called_set.init.bind (.ref s.heap.objs.size)
      repeat (any_goals (first | assumption | wp_step))
      refine codeAny_mono (codeAny_call_builtin (R := wants (fun r s₂ => r = .none ∧ ∃ h' tk L es ep t, s₂ = { s with heap := h', toks := tk } ∧
        SN w h' s.heap.objs.size L es ep t ∧ L.Perm ks ∧ (∀ b o, s.heap.get? b = some o → h'.get? b = some o)) E) F.called_set.init.plain F.entry_set_init (check_set_init_1 hT ?_)) fun r₂ s₂ hr₂ => ?_
      · obtain ⟨ol, hol, hcl, nl, hdl⟩ := hl
        obtain ⟨ocls, odict, odata, oslots⟩ := ol
        simp only at hcl hdl
        subst hcl
        subst hdl
        have hol' : (s.heap.push (setN0 w)).get? l = some { cls := .type "list", dict := odict, data := .seq items nl, slots := oslots } := Heap.get?_push_of_some _ hol
        have hsls := F.sub_list_set
        have hslf := F.sub_list_frozenset
        have hne : (Value.type "list" == Value.type "dict") = false := by decide
        have hl1 : (s.heap.push (setN0 w)).IsList l items := ⟨_, hol', rfl, nl, rfl⟩
        unfold Builtin.«set.__init__» noKeywords Builtin.Frozenset.updateFrom
        generalize hPI : pyIter = PI
        wp_walk
        subst hPI
        refine wpAny_pyIter_list hl1 ?_
        refine wpAny_bind (wpAny_runValue ?_)
        have hlS : l < s.heap.objs.size := Heap.lt_size hol
        have hh3 : A.in1.in1.in1.handled = none := by simp [hh]
        have hz1 : (s.heap.push (setN0 w)).objs.size = s.heap.objs.size + 1 := Heap.size_push ..
        have hneI : l ≠ (s.heap.push (setN0 w)).objs.size := by rw [hz1]; exact Nat.ne_of_lt (Nat.lt_succ_of_lt hlS)
        have hSf : s.heap.objs.size ∉ [(s.heap.push (setN0 w)).objs.size, l] := by
          rw [hz1]
          intro z
          rcases List.mem_cons.mp z with z | z
          · exact Nat.ne_of_lt (Nat.lt_succ_self _) z
          · exact Nat.ne_of_gt hlS (List.mem_singleton.mp z)
        have hval : ∀ (i : Nat) (v : Value), items[i]? = some v → ∃ p, ks[i]? = some p ∧ v = .ref p.1 := fun i v hv => by
          have q : items.toList[i]? = some v := by rw [Array.getElem?_toList]; exact hv
          rw [hit, List.getElem?_map] at q
          obtain ⟨p, hp, e⟩ := Option.map_eq_some_iff.mp q
          exact ⟨p, hp, e.symm⟩
        have none_of : ∀ b, s.heap.objs.size ≤ b → s.heap.get? b = none := fun b hb => by
          cases q : s.heap.get? b with
          | none => rfl
          | some o => exact absurd (Nat.lt_of_lt_of_le (Heap.lt_size q) hb) (Nat.lt_irrefl _)
        refine SN.loop ((Walks.list hh3 _ l hneI items).toS) s.heap.objs.size hSf ks hisz hfew hnd hval s.heap hk (none_of _ (Nat.le_refl _)) (fun b hb => none_of b (by rw [List.mem_singleton.mp hb, hz1]; exact Nat.le_succ _)) (by show A.units + 1 + 1 + 1 + 8 < cLine; omega) (items.size - 0) 0 _ (by omega) (Nat.zero_le _)
          ⟨⟨_, Heap.get?_push_size _ rfl, rfl, rfl⟩, (hl1.push _)⟩ (fun b o e => Heap.get?_push_of_some _ (Heap.get?_push_of_some _ e)) ⟨[], #[], 0, _, SN.fresh (Heap.get?_push_of_some _ hS), by simp⟩ ?_
        intro s' L es ep t hm hS' g' hkp
        obtain ⟨h', g2, d', tk', os'⟩ := s'
        have eg : g2 = s.gens := hm.gens
        have ed : d' = s.drawn := hm.drawn
        have eo : os' = s.os := hm.os
        subst eg
        subst ed
        subst eo
        show wpAny _ _ _ _ _ _
        refine wpAny_pure ?_
        show wpAny _ _ (ret Value.none) _ _ _
        exact wpAny_pure ⟨rfl, h', tk', L, es, ep, t, rfl, hS', g', hkp⟩
      · cases r₂ with
        | error e => exact hr₂
        | ok fl₂ =>
          cases fl₂ with
          | ret v =>
            obtain ⟨rfl, h', tk, L, es, ep, t, rfl, g1, g2, g3⟩ := hr₂
            repeat (any_goals (first | assumption | wp_step))
            exact h h' tk L es ep t g1 g2 g3
          | _ => exact hr₂.elim
    | _ => exact hr.elim
end
/-! ### out of the data -/
section
variable {X : Cx} {pins : List (Addr × Obj)} {σ : L2.St} {H : Hp} {s : Shared}
theorem rs_flat {w : World} {K : PySem.W.Frag} : ∀ {ds : List D} {vs : List V} {us : List Value} {B : List Addr}, Reps w K H vs ds B → Vals vs us → (ds.all fun | .int _ => true | .non => true | _ => false) = true → ∀ v ∈ us, ByV v
  | _, _, _, _, .nil, .nil, _ => fun v hv => nomatch hv
  | d :: ds, _, _, _, .cons r t, .cons r1 r2, hd => by
    rw [List.all_cons, Bool.and_eq_true] at hd
    intro v hv
    rcases List.mem_cons.mp hv with rfl | hv
    · have := hd.1
      cases r <;> simp at this
      · exact .inl r1
      · obtain ⟨t, e⟩ := r1; exact .inr ⟨_, t, e⟩
    · exact rs_flat t r2 hd.2 v hv
theorem row_el (I : Inv X pins σ H s) {d : D} {v : V} {u : Value} {B : List Addr} (r : Rep X.w X.K H v d B) (ru : RelV v u) (hd : isRow0 d = true) : ∃ x k, u = .ref x ∧ Dl.nk d = some k ∧ El s.heap x k := by
  cases d <;> simp only [isRow0, Bool.false_eq_true] at hd
  rename_i xs
  have hd' : keyN 7 (.tup xs) = true := by
    simp only [keyN]
    clear r
    induction xs with
    | nil => rfl
    | cons x xs ih =>
      rw [List.all_cons, Bool.and_eq_true] at hd
      simp only [keyAllN, Bool.and_eq_true]
      refine ⟨?_, ih hd.2⟩
      have := hd.1
      cases x <;> simp at this <;> rfl
  obtain ⟨k, hk, hdep⟩ := nk_of hd'
  have hkey := Rep.key I hk r ru
  cases r with
  | @tup a us _ _ e1 rs =>
    cases ru
    obtain ⟨its, rv, ⟨o, n, g1, g2, g3, g4⟩, _⟩ := tupN_at I e1
    refine ⟨a, k, rfl, hk, hkey, by omega, o, its.toArray, n, g1, g2, g4, ?_⟩
    simp only [List.toList_toArray]
    exact rs_flat rs rv hd
theorem rows_el (I : Inv X pins σ H s) : ∀ {ds : List D} {vs : List V} {us : List Value} {B : List Addr}, Reps X.w X.K H vs ds B → Vals vs us → ds.all isRow0 = true → noTwo ds = true →
    ∃ ks : List (Addr × NestedKey), us = ks.map (fun p => Value.ref p.1) ∧ ks.length = ds.length ∧ (∀ p ∈ ks, El s.heap p.1 p.2) ∧ (ks.map (·.2)).Nodup ∧ ds.map Dl.nk = ks.map fun p => some p.2
  | _, _, _, _, .nil, .nil, _, _ => ⟨[], rfl, rfl, fun p hp => (nomatch hp), List.nodup_nil, rfl⟩
  | d :: ds, _, _, _, .cons r t, .cons ru rt, h1, h2 => by
    rw [List.all_cons, Bool.and_eq_true] at h1
    simp only [noTwo, Bool.and_eq_true] at h2
    obtain ⟨x, k, rfl, hk, he⟩ := row_el I r ru h1.1
    obtain ⟨ks, rfl, g1, g2, g3, g4⟩ := rows_el I t rt h1.2 h2.2
    refine ⟨(x, k) :: ks, rfl, by simp [g1], fun p hp => ?_, ?_, by simp [hk, g4]⟩
    · rcases List.mem_cons.mp hp with rfl | hp
      · exact he
      · exact g2 p hp
    · rw [List.map_cons, List.nodup_cons]
      refine ⟨fun hm => ?_, g3⟩
      obtain ⟨p, hp, e⟩ := List.mem_map.mp hm
      have : some p.2 ∈ ds.map Dl.nk := by rw [g4]; exact List.mem_map.mpr ⟨p, hp, rfl⟩
      obtain ⟨y, hy, ey⟩ := List.mem_map.mp this
      have h3 := List.all_eq_true.mp h2.1 y hy
      rw [nk_eqv ey hk] at h3
      simp at h3
      exact h3 e
end
end Dl
/-! DlSet: len(set(..)). -/
namespace Dl
open PySem PySem.Spec PyProof.Rows L2
theorem met_dd (ns : List Int) : firstMet (fun i => ns.getD i 0) ns.length = ddI ns := by
  unfold firstMet ddI
  have e : (List.range ns.length).map (fun i => ns.getD i 0) = ns := by
    refine List.ext_getElem? fun j => ?_
    rw [List.getElem?_map]
    by_cases hj : j < ns.length
    · rw [List.getElem?_range hj, List.getElem?_eq_getElem hj]; simp [hj]
    · rw [List.getElem?_eq_none (by simpa using hj), List.getElem?_eq_none (by omega)]; rfl
  rw [e]
  rfl
def tLenS (K : PySem.W.Frag) (ta : TE) : TE := fun σ H Q => ta σ H fun x H1 => ∃ (l : Addr) (ns : List Int), x = .ref l ∧ SqL K H1 l (ns.map V.int) ∧ ns.length ≤ 4000 ∧ Q (.int ((ddI ns).length : Nat)) H1
theorem pe_lenS {X : Cx} {a : Expr} {ta : TE} {p p2 q pos : Pos} (hg : Gl X "len") (hm : X.mg "len" = none) (hg2 : Gl X "set") (hm2 : X.mg "set" = none) (ha : PE X a ta) (hc : X.calm = true)
    (na : starEach [a] X.env = (false, eval a X.env) :: starEach [] X.env) : PE X (.Call (.Name "len" p) [.Call (.Name "set" p2) [a] [] q] [] pos) (tLenS X.K ta) := by
  refine ⟨fun pins s σ H Q I h => ?_⟩
  refine Call_ (ld_blt I hg hm boot_len ?_)
  refine PyProof.Rows.callWith_builtin1 (PyProof.Rows.args_cons ?_ rfl) rfl rfl
  refine Call_ (ld_blt I hg2 hm2 boot_set ?_)
  refine PyProof.Rows.callWith_type1 (PyProof.Rows.args_cons (thn (ha.run pins s σ H _ I h) fun v s1 ⟨x, H1, I1, r1, q1⟩ => PyProof.Rows.args_nil ?_) na) na rfl
  obtain ⟨l, ns, rfl, hq, hl, q1⟩ := q1
  cases r1
  obtain ⟨its, r, pl, hz⟩ := I1.list hq
  have hlen : its.toArray.size = ns.length := by rw [List.size_toArray, ← r.length, List.length_map]
  refine call_set_list (I1.ok.hd hc) pl.isList (by simpa using RZ.intsAre_vals r) (by rw [hlen]; unfold scanBound; omega) fun h' tk hS hk => ?_
  refine PyProof.Rows.args_nil ?_
  rw [hlen, met_dd] at hS
  obtain ⟨o, es, ep, t, ho, hex, hd, _, _, _, hf, hn⟩ := hS
  have I2 : Inv X pins σ H1 { s1 with heap := h', toks := tk } := I1.kept fun b o e => hk b o (Heap.lt_size e) e
  have hdl : (ddI ns).length ≤ ns.length := by rw [← met_dd]; exact firstMet_length_le _ _
  exact call_len_set ho hex hd hf (by rw [hn]; omega) ⟨.int ((ddI ns).length : Nat), H1, I2.tok _, ⟨_, by rw [hn]⟩, q1⟩
/-! ### list(reversed(a list)) -/
section
variable {prog : Program} {w : World} {A : Around} {E : Value → Shared → Prop} {s : Shared}
abbrev rvP (items : Array Value) : Nat → Value → Prop := fun i v => items[items.size - 1 - i]? = some v
/-- an empty list at S is filled from the iterator -/
theorem rev_fill {it l S : Addr} {items : Array Value} {R : Result → Shared → Prop} {c0 : Nat} (hh : A.handled = none) (hit : s.heap.IsRevIter it l ((items.size : Int) - 1)) (hl : s.heap.IsList l items) (hne : l ≠ it) (hn : items.size ≤ sizeLine)
    (nS : S ≠ it) (nl : S ≠ l) (gS : s.heap.get? S = some { cls := .type "list", data := .seq #[] c0 })
    (hR : ∀ h' tk acc c, (∀ b o, b ≠ S → b ≠ it → s.heap.get? b = some o → h'.get? b = some o) → h'.get? S = some { cls := .type "list", dict := none, data := .seq acc c, slots := #[] } → ItemsOf (rvP items) acc items.size → R (.ok (.ret .none)) { s with heap := h', toks := tk }) :
    wpAny (model prog w) A.in1 (Builtin.List.listExtendWith (.ref S) (.ref it) .none)
      (fun fin s' => match fin with
        | .done f => R (.ok f) s'
        | .again c' => c'.quiet = true ∧ codeAny (model prog w) A c' R s') (fun e s' => R (.error e) s') s := by
  have W := (Walks.listRev (prog := prog) (w := w) (A := A.in1) hh it l hne items).toS
  have nf : S ∉ [it, l] := by simp [nS, nl]
  have hT : s.TypeIs (.ref it) "list_reverseiterator" := hit.typeIs
  have h1 : Builtin.List.listSameRef (.ref S) (.ref it) = false := by simp [Builtin.List.listSameRef, nS]
  unfold Builtin.List.listExtendWith
  refine wpAny_bind (wpAny_typeOf hT ?_)
  rw [if_neg (by rw [h1]; decide)]
  refine wpAny_bind (wpAny_pyIter_revIter hit ?_)
  refine wpAny_bind (wpAny_holding ?_)
  unfold Builtin.List.listLengthHint
  refine wpAny_bind (wpAny_specialOf hT RT.nolen_lri ?_)
  show wpAny _ _ (specialOf (Value.ref it) (Str.ofString "__length_hint__") >>= _) _ _ _
  refine wpAny_bind (wpAny_specialOf hT RT.hint_lri ?_)
  generalize hid : ("list_reverseiterator.__length_hint__" : String) = id0
  wp_delta
  rw [show splitId id0 = some ("list_reverseiterator", "__length_hint__") from by subst hid; decide +kernel]
  subst hid
  refine wpAny_bind (wpAny_isInstance (b := true) hT (by rw [isSubtype_type]; kernel_rfl) ?_)
  refine wpAny_pure ?_
  rw [if_neg (by decide)]
  have e0 : ((items.size : Nat) : Int) - 1 - ((0 : Nat) : Int) = (items.size : Int) - 1 := by omega
  refine wpAny_pure ⟨plainId_quiet F.plain_extend_loop _, codeAny_extend_loopS W hn S nf .none items.size 0 s #[] c0 rfl (Nat.zero_le _) ⟨Nat.zero_le _, by rw [e0]; exact hit, hl⟩ gS (ItemsOf.nil _) fun s' acc' c' hm hS' hacc => ?_⟩
  rw [Moved.eq_with hm]
  refine hR s'.heap s'.toks acc' c' (fun b o h2 h3 e => hm.heap b o (fun hmem => ?_) e) hS' hacc
  rcases List.mem_cons.mp hmem with e' | hmem
  · exact h2 e'
  · exact h3 (List.mem_singleton.mp hmem)
theorem rev_init {it l S : Addr} {items : Array Value} {R : Result → Shared → Prop} (hh : A.handled = none) (hit : s.heap.IsRevIter it l ((items.size : Int) - 1)) (hl : s.heap.IsList l items) (hne : l ≠ it) (hn : items.size ≤ sizeLine)
    (nS : S ≠ it) (nl : S ≠ l) (gS : s.heap.get? S = some { cls := .type "list", data := .seq #[] })
    (hR : ∀ h' tk acc c, (∀ b o, b ≠ S → b ≠ it → s.heap.get? b = some o → h'.get? b = some o) → h'.get? S = some { cls := .type "list", dict := none, data := .seq acc c, slots := #[] } → ItemsOf (rvP items) acc items.size → R (.ok (.ret .none)) { s with heap := h', toks := tk }) :
    wpAny (model prog w) A.in1 (Builtin.«list.__init__» ⟨[.ref S, .ref it], []⟩)
      (fun fin s' => match fin with
        | .done f => R (.ok f) s'
        | .again c' => c'.quiet = true ∧ codeAny (model prog w) A c' R s') (fun e s' => R (.error e) s') s := by
  show wpAny _ _ (do
    let old ← Builtin.List.listItems (.ref S)
    Builtin.List.listUpdate (.ref S) (fun _ => #[])
    letGo old.toList.reverse
    Builtin.List.listExtendWith (.ref S) (.ref it) .none) _ _ s
  refine wpAny_bind ?_
  unfold Builtin.List.listItems
  refine wpAny_bind (wpAny_seqItems gS rfl (wpAny_pure ?_))
  show wpAny _ _ (updateSeq S (fun _ => #[]) >>= fun _ =>
    letGo (#[] : Array Value).toList.reverse >>= fun _ => Builtin.List.listExtendWith (.ref S) (.ref it) .none) _ _ s
  refine wpAny_bind (wpAny_updateSeq gS rfl ?_)
  have g2 := Heap.get?_update_self (Obj.mapSeq (fun _ => (#[] : Array Value))) gS rfl
  have oth : ∀ b o, b ≠ S → s.heap.get? b = some o → (s.heap.update S (Obj.mapSeq (fun _ => (#[] : Array Value)))).get? b = some o := fun b o hb e =>
    (Heap.get?_update_other _ _ (Ne.symm hb)).trans e
  refine wpAny_bind (wpAny_letGo ?_)
  refine rev_fill hh (hit.at fun o e => oth it o (Ne.symm nS) e) ?_ hne hn nS nl g2 fun h' tk acc c hk hS' hacc => ?_
  · obtain ⟨o, h1, h2⟩ := hl
    exact ⟨o, oth l o (Ne.symm nl) h1, h2⟩
  · exact hR h' tk acc c (fun b o h1 h2 e => hk b o h1 h2 (oth b o h1 e)) hS' hacc
theorem call_list_rev {it l : Addr} {items : Array Value} {Q : Value → Shared → Prop} (hh : A.handled = none) (hit : s.heap.IsRevIter it l ((items.size : Int) - 1)) (hl : s.heap.IsList l items) (hne : l ≠ it) (hn : items.size ≤ sizeLine)
    (hQ : ∀ h' tk acc c, (∀ b o, b ≠ it → s.heap.get? b = some o → h'.get? b = some o) → h'.get? s.heap.objs.size = some { cls := .type "list", dict := none, data := .seq acc c, slots := #[] } → ItemsOf (rvP items) acc items.size → Q (.ref s.heap.objs.size) { s with heap := h', toks := tk }) :
    wpAny (model prog w) A (call (.type "list") [.ref it]) Q E s := by
  refine callType_codes (Q₁ := fun obj s₁ => obj = .ref s.heap.objs.size ∧
    s₁ = { s with heap := s.heap.push { cls := .type "list", data := .seq #[] } }) PySem.F.called_list (PySem.F.typeCall_list_1 _) PySem.F.entry_list_init
    (code_list_new _ ⟨rfl, rfl⟩) fun obj s₁ h₁ => ?_
  obtain ⟨rfl, rfl⟩ := h₁
  obtain ⟨oi, hoi, _⟩ := id hit
  obtain ⟨ol, hol, _⟩ := id hl
  have gS : (s.heap.push { cls := .type "list", data := .seq #[] }).get? s.heap.objs.size = some { cls := .type "list", data := .seq #[] } := Heap.get?_push_size _ rfl
  refine ⟨⟨_, gS, rfl⟩, PySem.F.args_list_init_2 _ _, rev_init (A := A.in1) hh (hit.at fun o e => Heap.get?_push_of_some _ e) (hl.push _) hne hn (Nat.ne_of_gt (Heap.lt_size hoi)) (Nat.ne_of_gt (Heap.lt_size hol)) gS fun h' tk acc c hk hS' hacc => ?_⟩
  exact ⟨rfl, hQ h' tk acc c (fun b o hb e => hk b o (Nat.ne_of_lt (Heap.lt_size e)) hb (Heap.get?_push_of_some _ e)) hS' hacc⟩
end
def tLRev (K : PySem.W.Frag) (ta : TE) : TE := fun σ H Q => ta σ H fun x H1 => ∃ (l : Addr) (xs : List V), x = .ref l ∧ SqL K H1 l xs ∧ ∀ q, H1 q = none → Q (.ref q) (upd H1 q (.lst xs.reverse))
theorem pe_lrev {X : Cx} {a : Expr} {ta : TE} {p p2 q pos : Pos} (hg : Gl X "list") (hm : X.mg "list" = none) (hg2 : Gl X "reversed") (hm2 : X.mg "reversed" = none) (ha : PE X a ta) (hc : X.calm = true)
    (na : starEach [a] X.env = (false, eval a X.env) :: starEach [] X.env) : PE X (.Call (.Name "list" p) [.Call (.Name "reversed" p2) [a] [] q] [] pos) (tLRev X.K ta) := by
  refine ⟨fun pins s σ H Q I h => ?_⟩
  refine Call_ (ld_blt I hg hm boot_list ?_)
  refine PyProof.Rows.callWith_type1 (PyProof.Rows.args_cons ?_ rfl) rfl rfl
  refine Call_ (ld_blt I hg2 hm2 PyProof.Rows.boot_reversed ?_)
  refine PyProof.Rows.callWith_type1 (PyProof.Rows.args_cons (thn (ha.run pins s σ H _ I h) fun v s1 ⟨x, H1, I1, r1, q1⟩ => PyProof.Rows.args_nil ?_) na) na rfl
  obtain ⟨l, xs, rfl, hq, q1⟩ := q1
  cases r1
  obtain ⟨its, rv, pl, hz⟩ := I1.list hq
  refine call_reversed_list pl.isList ?_
  refine PyProof.Rows.args_nil ?_
  have I2 : Inv X pins σ H1 { s1 with heap := s1.heap.push (revObj l ((its.toArray.size : Int) - 1)) } := I1.kept (t' := s1.toks) fun b o e => Heap.get?_push_of_some _ e
  obtain ⟨f0, f1, f2, f3, f4, f5⟩ := I1.fpOk (H' := H1) (b := s1.heap.objs.size) (Nat.le_refl _) (I1.hok.fresh (Nat.le_refl _))
  have hl := pl.isList
  obtain ⟨ol, hol, _⟩ := id hl
  have hne : l ≠ s1.heap.objs.size := Nat.ne_of_lt (Heap.lt_size hol)
  have hn : its.toArray.size ≤ sizeLine := by rw [List.size_toArray, ← rv.length]; exact hz
  refine call_list_rev (s := { s1 with heap := s1.heap.push (revObj l ((its.toArray.size : Int) - 1)) }) (I1.ok.hd hc) ⟨_, Heap.get?_push_size _ rfl, rfl, rfl⟩ (hl.push _) hne hn fun h' tk acc c hk hS hi => ?_
  have hsz : (s1.heap.push (revObj l ((its.toArray.size : Int) - 1))).objs.size = s1.heap.objs.size + 1 := Heap.size_push ..
  have hfr : H1 (s1.heap.push (revObj l ((its.toArray.size : Int) - 1))).objs.size = none := I1.hok.fresh (by rw [hsz]; omega)
  refine ⟨.ref (s1.heap.push (revObj l ((its.toArray.size : Int) - 1))).objs.size, upd H1 _ (.lst xs.reverse), ?_, rfl, q1 _ hfr⟩
  have kp : ∀ b o, s1.heap.get? b = some o → h'.get? b = some o := fun b o e => hk b o (Nat.ne_of_lt (Heap.lt_size e)) (Heap.get?_push_of_some _ e)
  exact I1.laid (t' := tk) kp (by rw [hsz]; omega) (show ObjOk X.prog X.w _ _ _ (.lst xs.reverse) from ⟨by rw [List.length_reverse]; exact hz, acc.toList, c, RT.vals_rev rv hi, by rw [Array.toArray_toList]; exact hS⟩)
/-! ### sorted(set(a list)) -/
section
variable {P : Program} {w : World} {A : Around} {E : Value → Shared → Prop} {s : Shared}
/-- a set as it is made -/
abbrev set0 (w : World) : Obj := { cls := .type "set", dict := none, data := .set #[] 0 (.fresh 0 0 (!w.params.followText "set-order")) }
set_option maxHeartbeats 3200000 in
theorem call_set_lstI {l : Addr} {items : Array Value} (ns : List Int) {Q : Value → Shared → Prop} (hh : A.handled = none) (hl : s.heap.IsList l items) (hit : IntsAre items.toList ns) (hb : ns.length + 1 < scanBound)
    (h : ∀ (h' : Heap) (tk c : Nat), SetR w h' s.heap.objs.size (fun j => decide (j ∈ ns)) c → c ≤ ns.length →
      (∀ b o, s.heap.get? b = some o → h'.get? b = some o) → Q (.ref s.heap.objs.size) { s with heap := h', toks := tk }) :
    wpAny (model P w) A (call (.type "set") [.ref l]) Q E s := by
  have hisz : items.size = ns.length := by have q := IntsAre.length hit; rwa [Array.length_toList] at q
  obtain ⟨c, tl, hmro⟩ := F.called_set.mro
  have hmade := F.called_set.made
  have hsub := F.called_set.sub
  refine wpAny_call (codeAny_of_tree ?_)
  show wpAny _ _ (callAny (.type "set") _) _ _ _
  refine wpAny_pure ⟨Code.quiet_builtin _ (by decide +kernel), codeAny_builtin F.entry_type_call ?_⟩
  rw [Around.under_plain (weight_type_call_type "set" [.ref l] []) rfl]
  have h1 := F.called_set.notType
  have h2 := F.called_set.canCreate
  have hct := F.typeCall_set_1 (.ref l)
  repeat (any_goals (first | assumption | wp_step))
  refine codeAny_mono (code_set_led1 (.ref l) (E := E) (Q₁ := fun obj s₁ => obj = .ref s.heap.objs.size ∧ s₁ = { s with heap := s.heap.push (set0 w) }) ⟨rfl, rfl⟩) fun r s₁ hr => ?_
  cases r with
  | error e => exact hr
  | ok fl =>
    cases fl with
    | ret obj =>
      obtain ⟨rfl, rfl⟩ := hr
      have hS : (s.heap.push (set0 w)).get? s.heap.objs.size = some (set0 w) := Heap.get?_push_size _ rfl
      have hT : Shared.TypeIs { s with heap := s.heap.push (set0 w) } (.ref s.heap.objs.size) "set" := ⟨_, hS, rfl⟩
      have hli := F.called_set.init.lookup
      have hbi := F.called_set.init.bind (.ref s.heap.objs.size)
      repeat (any_goals (first | assumption | wp_step))
      refine codeAny_mono (codeAny_call_builtin (R := wants (fun r s₂ => r = .none ∧ ∃ h' tk c, s₂ = { s with heap := h', toks := tk } ∧
        SetR w h' s.heap.objs.size (fun j => decide (j ∈ ns)) c ∧ c ≤ ns.length ∧ (∀ b o, s.heap.get? b = some o → h'.get? b = some o)) E) F.called_set.init.plain F.entry_set_init (check_set_init_1 hT ?_)) fun r₂ s₂ hr₂ => ?_
      · obtain ⟨ol, hol, hcl, nl, hdl⟩ := hl
        obtain ⟨ocls, odict, odata, oslots⟩ := ol
        simp only at hcl hdl
        subst hcl
        subst hdl
        have hol' : (s.heap.push (set0 w)).get? l = some { cls := .type "list", dict := odict, data := .seq items nl, slots := oslots } := Heap.get?_push_of_some _ hol
        have hsls := F.sub_list_set
        have hslf := F.sub_list_frozenset
        have hne : (Value.type "list" == Value.type "dict") = false := by decide
        have hl1 : (s.heap.push (set0 w)).IsList l items := ⟨_, hol', rfl, nl, rfl⟩
        unfold Builtin.«set.__init__» noKeywords Builtin.Frozenset.updateFrom
        generalize hPI : pyIter = PI
        wp_walk
        subst hPI
        refine wpAny_pyIter_list hl1 ?_
        refine wpAny_bind (wpAny_runValue ?_)
        have hlS : l < s.heap.objs.size := Heap.lt_size hol
        have hh3 : A.in1.in1.in1.handled = none := by simp [hh]
        have hz1 : (s.heap.push (set0 w)).objs.size = s.heap.objs.size + 1 := Heap.size_push ..
        have hneI : l ≠ (s.heap.push (set0 w)).objs.size := by rw [hz1]; exact Nat.ne_of_lt (Nat.lt_succ_of_lt hlS)
        have hSf : s.heap.objs.size ∉ [(s.heap.push (set0 w)).objs.size, l] := by
          rw [hz1]
          intro z
          rcases List.mem_cons.mp z with z | z
          · exact Nat.ne_of_lt (Nat.lt_succ_self _) z
          · exact Nat.ne_of_gt hlS (List.mem_singleton.mp z)
        have hval : ∀ (i : Nat) (v : Value), items[i]? = some v → ∃ k t, ns[i]? = some k ∧ v = .int k t := fun i v hv => by
          have hi : i < ns.length := by rw [← hisz]; exact (Array.getElem?_eq_some_iff.mp hv).1
          obtain ⟨t, e⟩ := PyProof.Rows.IntsAre.int_at hit i v (by rw [Array.getElem?_toList]; exact hv)
          exact ⟨ns[i], t, List.getElem?_eq_getElem hi, by rw [e, List.getD_eq_getElem?_getD, List.getElem?_eq_getElem hi]; rfl⟩
        refine set_update_ints ((Walks.list hh3 _ l hneI items).toS) s.heap.objs.size hSf ns hisz hb hval (items.size - 0) 0 _ (by omega) (Nat.zero_le _)
          ⟨⟨_, Heap.get?_push_size _ rfl, rfl, rfl⟩, (hl1.push _)⟩ ⟨0, Nat.le_refl 0, setR_new_at (Heap.get?_push_of_some _ hS)⟩ ?_
        intro s' c' hm hc' hS'
        obtain ⟨h', g2, d', tk', os'⟩ := s'
        have eg : g2 = s.gens := hm.gens
        have ed : d' = s.drawn := hm.drawn
        have eo : os' = s.os := hm.os
        subst eg
        subst ed
        subst eo
        show wpAny _ _ _ _ _ _
        refine wpAny_pure ?_
        show wpAny _ _ (ret Value.none) _ _ _
        rw [hisz] at hc'
        refine wpAny_pure ⟨rfl, h', tk', c', rfl, hS', hc', fun b o e => ?_⟩
        have hb0 : b < s.heap.objs.size := Heap.lt_size e
        refine hm.heap b o ?_ (Heap.get?_push_of_some _ (Heap.get?_push_of_some _ e))
        rw [hz1]
        intro z
        rcases List.mem_cons.mp z with z | z
        · exact Nat.ne_of_lt hb0 z
        · exact Nat.ne_of_lt (Nat.lt_succ_of_lt hb0) (List.mem_singleton.mp z)
      · cases r₂ with
        | error e => exact hr₂
        | ok fl₂ =>
          cases fl₂ with
          | ret v =>
            obtain ⟨rfl, h', tk, c2, rfl, g1, g2, g3⟩ := hr₂
            repeat (any_goals (first | assumption | wp_step))
            exact h h' tk c2 g1 g2 g3
          | next => exact hr₂.elim
          | brk => exact hr₂.elim
          | cont => exact hr₂.elim
    | next => exact hr.elim
    | brk => exact hr.elim
    | cont => exact hr.elim
end
/-- risen, all of ns, each once -/
theorem sortS_is {ns out : List Int} (h1 : out.Pairwise (· < ·)) (h2 : ∀ k : Int, k ∈ out ↔ k ∈ ns) : out = isort (ddI ns) := by
  have n1 : out.Nodup := h1.imp fun h => by omega
  have dd : ∀ (ns acc : List Int), acc.Nodup → (ns.foldl (fun acc x => if acc.any (· == x) then acc else acc ++ [x]) acc).Nodup ∧ ∀ k, k ∈ ns.foldl (fun acc x => if acc.any (· == x) then acc else acc ++ [x]) acc ↔ k ∈ acc ∨ k ∈ ns := by
    intro ns
    induction ns with
    | nil => intro acc h; exact ⟨h, by simp⟩
    | cons x ns ih =>
      intro acc h
      rw [List.foldl_cons]
      by_cases hx : acc.any (· == x) = true
      · rw [if_pos hx]
        obtain ⟨g1, g2⟩ := ih acc h
        refine ⟨g1, fun k => ?_⟩
        rw [g2]
        obtain ⟨y, hy, he⟩ := List.any_eq_true.mp hx
        have : y = x := by simpa using he
        subst this
        constructor
        · rintro (z | z)
          · exact .inl z
          · exact .inr (List.mem_cons_of_mem _ z)
        · rintro (z | z)
          · exact .inl z
          · rcases List.mem_cons.mp z with rfl | z
            · exact .inl hy
            · exact .inr z
      · rw [if_neg hx]
        have hnx : x ∉ acc := fun z => hx (List.any_eq_true.mpr ⟨x, z, by simp⟩)
        obtain ⟨g1, g2⟩ := ih (acc ++ [x]) (by
          rw [List.nodup_append]
          exact ⟨h, by simp, fun a ha b hb e => hnx (by rw [List.mem_singleton] at hb; rw [← hb, ← e]; exact ha)⟩)
        refine ⟨g1, fun k => ?_⟩
        rw [g2]
        simp [or_assoc]
  obtain ⟨d1, d2⟩ := dd ns [] List.nodup_nil
  have d2 : ∀ k, k ∈ ddI ns ↔ k ∈ ns := fun k => by have := d2 k; simpa [ddI] using this
  have hp : (isort (ddI ns)).Perm (ddI ns) := List.mergeSort_perm _ _
  have hs : (isort (ddI ns)).Pairwise (fun a b => a ≤ b) := by
    have := List.pairwise_mergeSort (le := fun a b : Int => decide (a ≤ b)) (by intro a b c; simp; omega) (by intro a b; simp; omega) (ddI ns)
    exact this.imp fun h => by simpa using h
  have hpp : out.Perm (isort (ddI ns)) := (List.perm_ext_iff_of_nodup n1 (hp.nodup_iff.mpr d1)).mpr fun k => by rw [h2, hp.mem_iff, d2]
  exact hpp.eq_of_pairwise (le := fun a b => a ≤ b) (fun a b _ _ h3 h4 => by omega) (h1.imp fun h => by omega) hs
def tSortS (K : PySem.W.Frag) (ta : TE) : TE := fun σ H Q => ta σ H fun x H1 => ∃ (l : Addr) (ns : List Int), x = .ref l ∧ SqL K H1 l (ns.map V.int) ∧ ns.length < 64 ∧ ∀ q, H1 q = none → Q (.ref q) (upd H1 q (.lst ((isort (ddI ns)).map V.int)))
theorem pe_sortS {X : Cx} {a : Expr} {ta : TE} {p p2 q pos : Pos} (hg : Gl X "sorted") (hm : X.mg "sorted" = none) (hg2 : Gl X "set") (hm2 : X.mg "set" = none) (ha : PE X a ta) (hc : X.calm = true)
    (na : starEach [a] X.env = (false, eval a X.env) :: starEach [] X.env) : PE X (.Call (.Name "sorted" p) [.Call (.Name "set" p2) [a] [] q] [] pos) (tSortS X.K ta) := by
  refine ⟨fun pins s σ H Q I h => ?_⟩
  refine Call_ (ld_blt I hg hm boot_sorted ?_)
  refine PyProof.Rows.callWith_builtin1 (PyProof.Rows.args_cons ?_ rfl) rfl rfl
  refine Call_ (ld_blt I hg2 hm2 boot_set ?_)
  refine PyProof.Rows.callWith_type1 (PyProof.Rows.args_cons (thn (ha.run pins s σ H _ I h) fun v s1 ⟨x, H1, I1, r1, q1⟩ => PyProof.Rows.args_nil ?_) na) na rfl
  obtain ⟨l, ns, rfl, hq, hl, q1⟩ := q1
  cases r1
  obtain ⟨its, r, pl, hz⟩ := I1.list hq
  have hi : IntsAre its.toArray.toList ns := by simpa using RZ.intsAre_vals r
  refine call_set_lstI ns (I1.ok.hd hc) pl.isList hi (by unfold scanBound; omega) fun h' tk c hS hcl hk => ?_
  refine PyProof.Rows.args_nil ?_
  have I2 : Inv X pins σ H1 { s1 with heap := h', toks := tk } := I1.kept hk
  have hd := I1.ok.hd hc
  have hS' : SetR X.w ({ s1 with heap := h', toks := tk } : Shared).heap s1.heap.objs.size (fun j => decide (j ∈ ns)) c := hS
  generalize ({ s1 with heap := h', toks := tk } : Shared) = s2 at I2 hS' ⊢
  refine sorted_set (s := s2) hS' hd (by omega) fun s' p out c' ms k g o hp hg hi2 hs hm hl2 => ?_
  have e1 := sortS_is (ns := ns) hs fun k => by rw [hm, decide_eq_true_iff]
  have hlen : (ms.map V.int).length ≤ sizeLine := by rw [List.length_map, hl2, sizeLine_eq]; omega
  have hn : H1 p = none := I2.hok.fresh hp
  have J : Inv X pins σ (upd H1 p (.lst (ms.map V.int))) { s2 with heap := s'.heap, gens := s'.gens, drawn := s'.drawn, toks := s'.toks } :=
    I2.call (ch := []) (Un.laid k hp hn) (I2.hok.laid k hp ⟨hlen, out.toList, c', vals_of_ints hi2, hg⟩) (by rw [g]; exact I2.bare) (fun _ z => nomatch z)
  have e : s' = { s2 with heap := s'.heap, gens := s'.gens, drawn := s'.drawn, toks := s'.toks } := by
    cases s'
    cases s2
    cases o
    rfl
  rw [e]
  refine ⟨.ref p, _, J, rfl, ?_⟩
  rw [e1]
  exact q1 p hn
/-! ### len(set(a tuple)) -/
def tLenT (w : World) (K : PySem.W.Frag) (ta : TE) : TE := fun σ H Q => ta σ H fun x H1 => ∃ l : Addr, x = .ref l ∧
  ((∃ ns : List Int, ((SqL K H1 l (ns.map V.int) ∧ ns.length ≤ 4000) ∨ (SqT K H1 l (ns.map V.int) ∧ ns.length ≤ 1000)) ∧ Q (.int ((ddI ns).length : Nat)) H1) ∨
   ∃ (vs : List V) (ds : List D) (B : List Addr), SqL K H1 l vs ∧ Reps w K H1 vs ds B ∧ ds.all isRow0 = true ∧ noTwo ds = true ∧ ds.length < 64 ∧ Q (.int (ds.length : Nat)) H1)
theorem nd_len {a b : List Int} (h1 : a.Nodup) (h2 : b.Nodup) (h : ∀ k, k ∈ a ↔ k ∈ b) : a.length = b.length := ((List.perm_ext_iff_of_nodup h1 h2).mpr h).length_eq
theorem ddI_spec (ns : List Int) : (ddI ns).Nodup ∧ ∀ k, k ∈ ddI ns ↔ k ∈ ns := by
  have dd : ∀ (ns acc : List Int), acc.Nodup → (ns.foldl (fun acc x => if acc.any (· == x) then acc else acc ++ [x]) acc).Nodup ∧ ∀ k, k ∈ ns.foldl (fun acc x => if acc.any (· == x) then acc else acc ++ [x]) acc ↔ k ∈ acc ∨ k ∈ ns := by
    intro ns
    induction ns with
    | nil => intro acc h; exact ⟨h, by simp⟩
    | cons x ns ih =>
      intro acc h
      rw [List.foldl_cons]
      by_cases hx : acc.any (· == x) = true
      · rw [if_pos hx]
        obtain ⟨g1, g2⟩ := ih acc h
        refine ⟨g1, fun k => ?_⟩
        rw [g2]
        obtain ⟨y, hy, he⟩ := List.any_eq_true.mp hx
        have : y = x := by simpa using he
        subst this
        constructor
        · rintro (z | z)
          · exact .inl z
          · exact .inr (List.mem_cons_of_mem _ z)
        · rintro (z | z)
          · exact .inl z
          · rcases List.mem_cons.mp z with rfl | z
            · exact .inl hy
            · exact .inr z
      · rw [if_neg hx]
        have hnx : x ∉ acc := fun z => hx (List.any_eq_true.mpr ⟨x, z, by simp⟩)
        obtain ⟨g1, g2⟩ := ih (acc ++ [x]) (by
          rw [List.nodup_append]
          exact ⟨h, by simp, fun a ha b hb e => hnx (by rw [List.mem_singleton] at hb; rw [← hb, ← e]; exact ha)⟩)
        refine ⟨g1, fun k => ?_⟩
        rw [g2]
        simp [or_assoc]
  obtain ⟨d1, d2⟩ := dd ns [] List.nodup_nil
  exact ⟨d1, fun k => by have := d2 k; simpa [ddI] using this⟩
theorem pe_lenT {X : Cx} (hu : X.A.units + 100 < cLine) {a : Expr} {ta : TE} {p p2 q pos : Pos} (hg : Gl X "len") (hm : X.mg "len" = none) (hg2 : Gl X "set") (hm2 : X.mg "set" = none) (ha : PE X a ta) (hc : X.calm = true)
    (na : starEach [a] X.env = (false, eval a X.env) :: starEach [] X.env) : PE X (.Call (.Name "len" p) [.Call (.Name "set" p2) [a] [] q] [] pos) (tLenT X.w X.K ta) := by
  refine ⟨fun pins s σ H Q I h => ?_⟩
  refine Call_ (ld_blt I hg hm boot_len ?_)
  refine PyProof.Rows.callWith_builtin1 (PyProof.Rows.args_cons ?_ rfl) rfl rfl
  refine Call_ (ld_blt I hg2 hm2 boot_set ?_)
  refine PyProof.Rows.callWith_type1 (PyProof.Rows.args_cons (thn (ha.run pins s σ H _ I h) fun v s1 ⟨x, H1, I1, r1, q1⟩ => PyProof.Rows.args_nil ?_) na) na rfl
  obtain ⟨l, rfl, q1⟩ := q1
  cases r1
  rcases q1 with ⟨ns, ⟨hq, hl⟩ | ⟨hq, hl⟩, q1⟩ | ⟨vs, ds, B, hq, rs, hrow, hnd, h64, q1⟩
  · obtain ⟨its, r, pl, hz⟩ := I1.list hq
    have hlen : its.toArray.size = ns.length := by rw [List.size_toArray, ← r.length, List.length_map]
    refine call_set_list (I1.ok.hd hc) pl.isList (by simpa using RZ.intsAre_vals r) (by rw [hlen]; unfold scanBound; omega) fun h' tk hS hk => ?_
    refine PyProof.Rows.args_nil ?_
    rw [hlen, met_dd] at hS
    obtain ⟨o, es, ep, t, ho, hex, hd, _, _, _, hf, hn⟩ := hS
    have I2 : Inv X pins σ H1 { s1 with heap := h', toks := tk } := I1.kept fun b o e => hk b o (Heap.lt_size e) e
    have hdl : (ddI ns).length ≤ ns.length := by rw [← met_dd]; exact firstMet_length_le _ _
    exact call_len_set ho hex hd hf (by rw [hn]; omega) ⟨.int ((ddI ns).length : Nat), H1, I2.tok _, ⟨_, by rw [hn]⟩, q1⟩
  · obtain ⟨its, r, pl, hz⟩ := I1.tuple hq
    have hi : IntsAre its.toArray.toList ns := by simpa using RZ.intsAre_vals r
    refine call_set_tupI ns (I1.ok.hd hc) pl hi (by unfold scanBound; omega) fun h' tk c hS hcl hk => ?_
    refine PyProof.Rows.args_nil ?_
    have I2 : Inv X pins σ H1 { s1 with heap := h', toks := tk } := I1.kept hk
    obtain ⟨o, es, ep, t, ho, hex, hd, g, nd, hmm, hb, hf, hn, hr, hl2⟩ := hS
    have hdd := ddI_spec ns
    have hc2 : c = (ddI ns).length := by
      have e1 : (es.toList.map L2.keyOf).length = (ddI ns).length := nd_len nd hdd.1 fun k => by rw [hdd.2, ← hmm]; simp
      rw [List.length_map, Array.length_toList, hn] at e1
      exact e1
    exact call_len_set ho hex hd hf (by rw [hn]; omega) ⟨.int ((ddI ns).length : Nat), H1, I2.tok _, ⟨_, by rw [hn, hc2]⟩, q1⟩
  · obtain ⟨its, r, pl, hz⟩ := I1.list hq
    obtain ⟨ks, e1, e2, e3, e4, _⟩ := rows_el I1 rs r hrow hnd
    refine call_setN ks (I1.ok.hd hc) pl.isList (by simpa using e1) e3 (by omega) e4 (by omega) fun h' tk L es ep t hS pm hk => ?_
    refine PyProof.Rows.args_nil ?_
    have I2 : Inv X pins σ H1 { s1 with heap := h', toks := tk } := I1.kept hk
    have hf : t.fits es.size = true := SN.fits (s := { s1 with heap := h', toks := tk }) hS
    have hn := rows_size hS.rows
    rw [pm.length_eq, e2] at hn
    obtain ⟨o, ho, hex, hd⟩ := hS.ob
    exact call_len_set ho hex hd hf (by rw [hn]; omega) ⟨.int (ds.length : Nat), H1, I2.tok _, ⟨_, by rw [hn]⟩, q1⟩
end Dl
/-! DlSound: expressions. -/
namespace Dl
open PySem PySem.Spec PyProof.Rows L2

/-! ### the text's side conditions -/
theorem star_each {e : Expr} (h : notStar e = true) (es : List Expr) (env : PySem.Env) : starEach (e :: es) env = (false, eval e env) :: starEach es env := by
  cases e <;> first | rfl | (simp [notStar] at h)
theorem no_stars : ∀ {es : List Expr}, es.all notStar = true → ∀ (env : PySem.Env) (pos : Pos), (backTo pos (starEach es env)).any (·.1) = false
  | [], _, _, _ => by simp [starEach, backTo]
  | e :: es, h, env, pos => by
    simp only [List.all_cons, Bool.and_eq_true] at h
    rw [star_each h.1]
    have := no_stars h.2 env pos
    simpa [backTo] using this
theorem plain_ix {b : Expr} (h : noSlice b = true) : PlainIx b := fun o i => by
  cases b <;> first | rfl | (simp [noSlice] at h)
theorem no_sup {o : Expr} (h : noSup o = true) (name : Str) (env : PySem.Env) : attributeBase o name env (eval o env) = eval o env := by
  cases o with
  | Call f args kws pos =>
    cases f with
    | Name id p =>
      cases args with
      | nil =>
        cases kws with
        | nil => simp [noSup] at h
        | cons _ _ => rfl
      | cons _ _ => rfl
    | _ => rfl
  | _ => rfl
theorem no_mark {b : Expr} (h : noSet b = true) (op : CmpOp) : behindInMarks op b = false := by
  cases b <;> first | rfl | (simp [noSet] at h)
theorem no_fold {b : Expr} (h : noSet b = true) (env : PySem.Env) (x : Value) : foldedSetIterable b env x = pure x := by
  cases b <;> first | rfl | (simp [noSet] at h)

section
variable [Tab] {w : World} {K : PySem.W.Frag} {Φ : Phi} {N : List Str} {cs : List (String × K0)} {lv : Nat} {sc : Scope} {fn : Str → Bool} {X : Cx}
theorem nm_ok (G : Good w K Φ N cs lv sc fn X) {i : Nat} {e : Expr} (h : chkNm N sc i e = true) : PE X e (tVar i) := by
  cases e <;> simp only [chkNm, reduceCtorEq, Bool.and_eq_true, decide_eq_true_eq] at h
  rename_i x pos
  obtain ⟨⟨h1, h2⟩, h3⟩ := h
  simp only [okNm, Bool.and_eq_true, Bool.not_eq_true', decide_eq_true_eq] at h3
  refine pe_var (by rw [G.N_]; exact h1) ?_ h3.1.1 h3.1.2
  unfold Vis
  rw [G.sc_]
  unfold visB at h2
  split at h2
  · exact .inl (by assumption)
  · exact .inr (.inl (by assumption))
  · exact .inr (.inr (by assumption))
  · cases h2
theorem gl_of (G : Good w K Φ N cs lv sc fn X) {f : String} {e : Expr} (h : chkGl sc f e = true) : ∃ p, e = .Name (s_ f) p ∧ Gl X (s_ f) ∧ (s_ f == ("__debug__" : Str)) = false ∧ s_ f ≠ "__name__" := by
  cases e <;> simp only [chkGl, reduceCtorEq, Bool.and_eq_true, decide_eq_true_eq] at h
  rename_i x pos
  obtain ⟨⟨h1, h2⟩, h3⟩ := h
  subst h1
  simp only [okNm, Bool.and_eq_true, Bool.not_eq_true', decide_eq_true_eq] at h3
  refine ⟨pos, rfl, ?_, h3.1.1, h3.2⟩
  unfold Gl Env.kindOf
  rw [G.sc_]
  unfold glB at h2
  split at h2
  · assumption
  · cases h2
theorem k_ok {k : K0} {c : Const} (h : chkK k c = true) {j : Nat} {pos : Pos} : PE X (.Constant c j pos) (tC k.v) := by
  cases k <;> cases c <;> simp only [chkK, reduceCtorEq, decide_eq_true_eq, beq_iff_eq] at h
  · exact pe_non
  · subst h; exact pe_bl
  · subst h; exact pe_int
  · subst h; exact pe_str
theorem k_rep {H : Hp} (k : K0) : Rep w K H k.v k.d [] := by
  cases k
  · exact .non
  · exact .bl _
  · exact .int _
  · exact .str _
/-- a value that is carried by itself -/
theorem imp_c {k : K0} {ir : E} (hir : ∀ ρ st Q, wE Φ ir ρ st Q = Q k.d st) {σ : L2.St} {H : Hp} {Q : VK} (h : tE w K (wE Φ ir) σ H Q) : tC k.v σ H Q := by
  obtain ⟨ρ, st, fp, R, Qd, e, o, h, kk⟩ := h
  rw [hir] at h
  exact kk _ st _ H fp [] h ((Ext.refl _ _).mono fun x hx => hx.elim id fun z => nomatch z) o (k_rep k) List.nodup_nil fun _ z => nomatch z
theorem imp_v {i : Nat} {σ : L2.St} {H : Hp} {Q : VK} (h : tE w K (wE Φ (.v i)) σ H Q) : tVar i σ H Q := by
  obtain ⟨ρ, st, fp, R, Qd, e, o, h, k⟩ := h
  rw [wE] at h
  have rfl' : Ext (Mine fp) H H (fun x => Mine fp x ∨ x ∈ ([] : List Addr)) := (Ext.refl _ _).mono fun x hx => hx.elim id fun z => nomatch z
  split at h
  · rename_i d hs
    obtain ⟨v, hv, r, nd⟩ := o.at_ i d hs
    by_cases him : d.immut = true
    · rw [if_pos him] at h
      have e0 := r.immut him
      rw [e0] at r
      exact ⟨v, hv, k d st v H fp [] h rfl' o r List.nodup_nil fun _ z => nomatch z⟩
    · rw [if_neg him] at h
      refine ⟨v, hv, k d _ v H (updF fp i []) (fp i) h ⟨fun _ _ q _ => q, fun x hx => .inl ?_⟩ (o.move i) r nd fun x hx m => ?_⟩
      · rcases hx with hx | hx
        · exact hx.move
        · exact ⟨i, hx⟩
      · obtain ⟨j, hj⟩ := m
        by_cases hji : j = i
        · rw [hji, updF_same (o.ne hs)] at hj; cases hj
        · rw [updF_ne hji] at hj; exact hji (o.dis j i x hj hx)
  · split at h
    · rename_i d hs
      obtain ⟨v, B, hv, r, hR⟩ := e.at_ i d hs
      by_cases him : d.immut = true
      · rw [if_pos him] at h
        have e0 := r.immut him
        rw [e0] at r
        exact ⟨v, hv, k d st v H fp [] h rfl' o r List.nodup_nil fun _ z => nomatch z⟩
      · rw [if_neg him] at h
        obtain ⟨a, rfl⟩ : ∃ a, v = .ref a := by
          cases r <;> first | exact ⟨_, rfl⟩ | (simp [D.immut] at him)
        exact ⟨_, hv, k .ali st _ H fp [] h rfl' o (.ali a) List.nodup_nil fun _ z => nomatch z⟩
    · exact h.elim
theorem ext_new {M M1 T : Addr → Prop} {H H1 H2 : Hp} {B : List Addr} (a : Ext M H H1 (fun x => M1 x ∨ T x)) (s : Sub H1 H2) (hB : ∀ x ∈ B, H1 x = none) : Ext M H H2 (fun x => M1 x ∨ x ∈ B) := by
  refine (a.mono (M2 := M1) fun x m => .inl m).trans (Ext.subNew s fun x hx => ?_)
  rcases hx with hx | hx
  · exact .inl hx
  · exact .inr (hB x hx)
/-- operands, then a value that is new -/
theorem imp_ops {es : Es} (ok : es.ok = true) {ir : E} {P : List D → D → Prop} {C : (D → DS → Prop) → List D → DS → Prop} (hir : ∀ ρ st Q, wE Φ ir ρ st Q = wAs Φ es ρ st (C Q)) (hC : ∀ Q ds st1, C Q ds st1 → ∃ z, P ds z ∧ Q z st1) {σ : L2.St} {H : Hp} {Q : VK} (h : tE w K (wE Φ ir) σ H Q)
    {Qv : List V → Hp → Prop} (hq : ∀ ds vs H1 z, BReps w K H1 vs ds → P ds z → New w K H1 z Q → Qv vs H1) : seqT (trs w K Φ es) σ H Qv := by
  obtain ⟨ρ, st, fp, R, Qd, e, o, h, k⟩ := h
  rw [hir] at h
  refine impAs es ok e o h fun ds st1 vs H1 fp1 T q x1 o1 hT br _ => ?_
  obtain ⟨z, hp, q⟩ := hC _ _ _ q
  refine hq ds vs H1 z br hp fun v H2 B s r nd nw => ?_
  exact k z st1 v H2 fp1 B q (ext_new x1 s nw) (o1.sub s) r nd fun x hx m => o1.there m (nw x hx)
/-- operands, then a part of one of them -/
theorem imp_part {es : Es} (ok : es.ok = true) {ir : E} {P : List D → D → Prop} {C : (D → DS → Prop) → List D → DS → Prop} (hir : ∀ ρ st Q, wE Φ ir ρ st Q = wAs Φ es ρ st (C Q)) (hC : ∀ Q ds st1, C Q ds st1 → ∃ z, P ds z ∧ z.immut = true ∧ Q z st1) {σ : L2.St} {H : Hp} {Q : VK} (h : tE w K (wE Φ ir) σ H Q)
    {Qv : List V → Hp → Prop} (hq : ∀ ds vs H1 z, BReps w K H1 vs ds → P ds z → (∀ v B, Rep w K H1 v z B → Q v H1) → Qv vs H1) : seqT (trs w K Φ es) σ H Qv := by
  obtain ⟨ρ, st, fp, R, Qd, e, o, h, k⟩ := h
  rw [hir] at h
  refine impAs es ok e o h fun ds st1 vs H1 fp1 T q x1 o1 hT br _ => ?_
  obtain ⟨z, hp, him, q⟩ := hC _ _ _ q
  refine hq ds vs H1 z br hp fun v B r => ?_
  have e0 := r.immut him
  rw [e0] at r
  exact k z st1 v H1 fp1 [] q (x1.mono fun x hx => hx.elim .inl fun z => nomatch z) o1 r List.nodup_nil fun _ z => nomatch z
/-- what is wanted of a test, from what is wanted of the value -/
theorem ts_of {wf : DS → DS → (D → DS → Prop) → Prop} {t : TE} (i : ∀ σ H Q, tE w K wf σ H Q → t σ H Q) {σ : L2.St} {H : Hp} {Q : Bool → Hp → Prop} (h : tTs w K wf σ H Q) : t σ H fun x H' => ∃ k, x = .bl k ∧ Q k H' := by
  obtain ⟨ρ, st, fp, R, Qd, e, o, h, k⟩ := h
  refine i _ _ _ (tE_at e o h fun d st' v H' fp' B q x o' r nd dj => ?_)
  obtain ⟨b, rfl, q'⟩ := k d st' H' fp' q (x.mono fun y m => .inl m) o'
  cases r
  exact ⟨b, rfl, q'⟩
theorem two_of {es : Es} {a b : Expr} {ts : List TE} (h : Paired (fun e t => PE X e t) [a, b] ts) : ∃ t1 t2, ts = [t1, t2] ∧ PE X a t1 ∧ PE X b t2 := by
  cases h with
  | cons h1 h2 => cases h2 with
    | cons h2 h3 => cases h3; exact ⟨_, _, rfl, h1, h2⟩
theorem one_of {a : Expr} {ts : List TE} (h : Paired (fun e t => PE X e t) [a] ts) : ∃ t1, ts = [t1] ∧ PE X a t1 := by
  cases h with
  | cons h1 h2 => cases h2; exact ⟨_, rfl, h1⟩
theorem pa_all : ∀ {xs : List Expr} {ts : List TE}, xs.all notStar = true → Paired (fun e t => PE X e t) xs ts → PA X xs (seqT ts)
  | _, _, _, .nil => pa_nil
  | _, _, h, .cons h1 h2 => by
    simp only [List.all_cons, Bool.and_eq_true] at h
    exact pa_cons h1 (pa_all h.2 h2) (star_each h.1 _ _)
theorem es_stars : ∀ {es : Es} {xs : List Expr}, chkEs N cs sc fn es xs = true → xs.all notStar = true
  | .nil, [], _ => rfl
  | .nil, _ :: _, h => by simp [chkEs] at h
  | .cons _ _, [], h => by simp [chkEs] at h
  | .cons e es, x :: xs, h => by
    simp only [chkEs, Bool.and_eq_true] at h
    simp only [List.all_cons, h.1.1, es_stars h.2, Bool.and_self]
  | .nm _ _, [], h => by simp [chkEs] at h
  | .nm i es, x :: xs, h => by
    simp only [chkEs, Bool.and_eq_true] at h
    have hx : notStar x = true := by cases x <;> simp [chkNm] at h <;> rfl
    simp only [List.all_cons, hx, es_stars h.2, Bool.and_self]
  | .pl _ _, [], h => by simp [chkEs] at h
  | .pl ps es, x :: xs, h => by
    cases x <;> simp only [chkEs, reduceCtorEq, Bool.and_eq_true] at h
    simp only [List.all_cons, notStar, es_stars h.2, Bool.and_self]
  | .at _ _ _, [], h => by simp [chkEs] at h
  | .at i f es, x :: xs, h => by
    cases x <;> simp only [chkEs, reduceCtorEq, Bool.and_eq_true] at h
    simp only [List.all_cons, notStar, es_stars h.2, Bool.and_self]
  | .tp _ _, [], h => by simp [chkEs] at h
  | .tp ps es, x :: xs, h => by
    cases x <;> simp only [chkEs, reduceCtorEq, Bool.and_eq_true] at h
    simp only [List.all_cons, notStar, es_stars h.2, Bool.and_self]
theorem es_len : ∀ {es : Es} {xs : List Expr}, chkEs N cs sc fn es xs = true → es.len = xs.length
  | .nil, [], _ => rfl
  | .nil, _ :: _, h => by simp [chkEs] at h
  | .cons _ _, [], h => by simp [chkEs] at h
  | .cons e es, x :: xs, h => by
    simp only [chkEs, Bool.and_eq_true] at h
    simp [Es.len, es_len h.2]
  | .nm _ _, [], h => by simp [chkEs] at h
  | .nm i es, x :: xs, h => by
    simp only [chkEs, Bool.and_eq_true] at h
    simp [Es.len, es_len h.2]
  | .pl _ _, [], h => by simp [chkEs] at h
  | .pl ps es, x :: xs, h => by
    cases x <;> simp only [chkEs, reduceCtorEq, Bool.and_eq_true] at h
    simp [Es.len, es_len h.2]
  | .at _ _ _, [], h => by simp [chkEs] at h
  | .at i f es, x :: xs, h => by
    cases x <;> simp only [chkEs, reduceCtorEq, Bool.and_eq_true] at h
    simp [Es.len, es_len h.2]
  | .tp _ _, [], h => by simp [chkEs] at h
  | .tp ps es, x :: xs, h => by
    cases x <;> simp only [chkEs, reduceCtorEq, Bool.and_eq_true] at h
    simp [Es.len, es_len h.2]
theorem es_ok : ∀ {es : Es} {xs : List Expr}, chkEs N cs sc fn es xs = true → es.ok = true
  | .nil, [], _ => rfl
  | .nil, _ :: _, h => by simp [chkEs] at h
  | .cons _ _, [], h => by simp [chkEs] at h
  | .cons e es, x :: xs, h => by
    simp only [chkEs, Bool.and_eq_true] at h
    simp [Es.ok, es_ok h.2]
  | .nm _ _, [], h => by simp [chkEs] at h
  | .nm i es, x :: xs, h => by
    simp only [chkEs, Bool.and_eq_true] at h
    simp [Es.ok, es_ok h.2]
  | .pl _ _, [], h => by simp [chkEs] at h
  | .pl ps es, x :: xs, h => by
    cases x <;> simp only [chkEs, reduceCtorEq, Bool.and_eq_true] at h
    have l := es_len h.1.2
    simp only [List.length_cons, List.length_nil] at l
    simp [Es.ok, es_ok h.2, es_ok h.1.2, l]
  | .at _ _ _, [], h => by simp [chkEs] at h
  | .at i f es, x :: xs, h => by
    cases x <;> simp only [chkEs, reduceCtorEq, Bool.and_eq_true] at h
    simp [Es.ok, es_ok h.2]
  | .tp _ _, [], h => by simp [chkEs] at h
  | .tp ps es, x :: xs, h => by
    cases x <;> simp only [chkEs, reduceCtorEq, Bool.and_eq_true] at h
    simp [Es.ok, es_ok h.2, es_ok h.1]

/-! ### construct by construct -/
theorem imp_bin {op : Bop} {es : Es} (ok : es.ok = true) {t1 t2 : TE} (ht : trs w K Φ es = [t1, t2]) {σ : L2.St} {H : Hp} {Q : VK} (h : tE w K (wE Φ (.bin op es)) σ H Q) : tOp (rBin w K op) t1 t2 σ H Q := by
  have key := imp_ops ok (P := fun ds z => ∃ x y, ds = [x, y] ∧ binop op x y = some z) (fun ρ st Q => by rw [wE]) (fun Q ds st1 hc => ?_) h (Qv := fun vs H1 => match vs with | [x, y] => rBin w K op x y H1 Q | _ => False) (fun ds vs H1 z br hp nw => ?_)
  · rw [ht] at key; exact key
  · match ds, hc with
    | [x, y], hc =>
      cases hb : binop op x y with
      | none => simp only [hb] at hc
      | some z => simp only [hb] at hc; exact ⟨z, ⟨x, y, rfl, hb⟩, hc⟩
    | [], hc => exact hc.elim
    | [_], hc => exact hc.elim
    | _ :: _ :: _ :: _, hc => exact hc.elim
  · obtain ⟨x, y, rfl, hb⟩ := hp
    obtain ⟨vx, vy, Bx, By, rfl, rx, ry⟩ := br.two
    exact ⟨x, y, z, Bx, By, rx, ry, hb, nw⟩
theorem New.bl {H : Hp} {b : Bool} {Q : VK} (h : New w K H (.bl b) Q) : Q (.bl b) H := h _ _ _ (Sub.refl H) (.bl b) List.nodup_nil (fun _ z => nomatch z)
theorem imp_cmp {op : Cop} {es : Es} (ok : es.ok = true) {t1 t2 : TE} (ht : trs w K Φ es = [t1, t2]) {σ : L2.St} {H : Hp} {Q : VK} (h : tE w K (wE Φ (.cmp op es)) σ H Q) : tOp (rCmp w K op) t1 t2 σ H Q := by
  have key := imp_ops ok (P := fun ds z => ∃ x y b, ds = [x, y] ∧ z = .bl b ∧ cmpop op x y = some b) (fun ρ st Q => by rw [wE]) (fun Q ds st1 hc => ?_) h (Qv := fun vs H1 => match vs with | [x, y] => rCmp w K op x y H1 Q | _ => False) (fun ds vs H1 z br hp nw => ?_)
  · rw [ht] at key; exact key
  · match ds, hc with
    | [x, y], hc =>
      cases hb : cmpop op x y with
      | none => simp only [hb] at hc
      | some z => simp only [hb] at hc; exact ⟨.bl z, ⟨x, y, z, rfl, rfl, hb⟩, hc⟩
    | [], hc => exact hc.elim
    | [_], hc => exact hc.elim
    | _ :: _ :: _ :: _, hc => exact hc.elim
  · obtain ⟨x, y, b, rfl, rfl, hb⟩ := hp
    obtain ⟨vx, vy, Bx, By, rfl, rx, ry⟩ := br.two
    exact ⟨x, y, b, Bx, By, rx, ry, hb, nw.bl⟩
theorem imp_idx {es : Es} (ok : es.ok = true) {t1 t2 : TE} (ht : trs w K Φ es = [t1, t2]) {σ : L2.St} {H : Hp} {Q : VK} (h : tE w K (wE Φ (.idx es)) σ H Q) : tOp (rIxB w K) t1 t2 σ H Q := by
  have key := imp_part ok (P := fun ds z => ∃ x y, ds = [x, y] ∧ index x y = some z) (fun ρ st Q => by rw [wE]) (fun Q ds st1 hc => ?_) h (Qv := fun vs H1 => match vs with | [x, y] => rIxB w K x y H1 Q | _ => False) (fun ds vs H1 z br hp nw => ?_)
  · rw [ht] at key; exact key
  · match ds, hc with
    | [x, y], hc =>
      cases hb : index x y with
      | none => simp only [hb] at hc
      | some z => simp only [hb] at hc; exact ⟨z, ⟨x, y, rfl, hb⟩, hc.1, hc.2⟩
    | [], hc => exact hc.elim
    | [_], hc => exact hc.elim
    | _ :: _ :: _ :: _, hc => exact hc.elim
  · obtain ⟨x, y, rfl, hb⟩ := hp
    obtain ⟨vx, vy, Bx, By, rfl, rx, ry⟩ := br.two
    exact ⟨x, y, z, Bx, By, rx, ry, hb, fun v B r _ => nw v B r⟩
theorem imp_idxT {ea ek : E} {σ : L2.St} {H : Hp} {Q : VK} (h : tE w K (wE Φ (.idxT ea ek)) σ H Q) : tOp (rIxT w K) (tE w K (wE Φ ea)) (tE w K (wE Φ ek)) σ H Q := by
  obtain ⟨ρ, st, fp, R, Qd, e, o, h, k⟩ := h
  rw [wE] at h
  refine tE_at e o h fun d st1 v H1 fp1 B q x1 o1 r nd dj => ?_
  have e1 := e.keep' o x1
  refine tE_at e1 o1 q fun kd st2 vk H2 fp2 Bk q2 x2 o2 rk ndk djk => ?_
  split at q2
  · rename_i xs i
    split at q2
    · rename_i z hz
      have r2 := r.out o1 x2 dj
      have dj2 : ∀ x ∈ B, ¬ Mine fp2 x := tmp_out (M := fun x => x ∈ Bk) x2 (fun x hx => r.there hx) dj
      refine ⟨xs, i, z, B, Bk, r2, rk, hz, fun v' B' r' hs hn => ?_⟩
      refine k z st2 v' H2 fp2 B' q2 ⟨fun x u hx hm => x2.keep x u (x1.keep x u hx hm) fun m => ?_, fun x hx => ?_⟩ o2 r' (hn nd) fun x hx => dj2 x (hs x hx)
      · rcases x1.from_ x (.inl m) with z | z
        · exact hm z
        · rw [hx] at z; cases z
      · rcases hx with hx | hx
        · exact (Ext.trans (x1.mono fun _ hx => Or.inl hx) (x2.mono fun _ hx => Or.inl hx)).from_ x hx
        · exact x1.from_ x (.inr (hs x hx))
    · exact q2.elim
  · exact q2.elim
/-- what is made is frozen -/
def tFrz (t : TE) : TE := fun σ H Q => t σ H fun v H1 => ∃ a u, v = .ref a ∧ H1 a = some u ∧ Mut (some u) ∧ ∀ o, Q v (upd H1 a (.frz o u))
theorem pe_frz {X : Cx} {e : Expr} {t : TE} (h : PE X e t) : PE X e (tFrz t) := by
  refine ⟨fun pins s σ H Q I hw => ?_⟩
  refine thn (h.run pins s σ H _ I hw) fun v s1 ⟨x, H1, I1, r, a, u, ex, hu, mu, q⟩ => ?_
  obtain ⟨od, I2⟩ := I1.lock hu mu
  exact ⟨x, _, I2, r, q od⟩
def rNone (neg : Bool) : V → V → Hp → VK → Prop := fun x y H Q => y = .non ∧ Q (.bl (if neg then !decide (x = .non) else decide (x = .non))) H
theorem imp_isN {neg : Bool} {es : Es} (ok : es.ok = true) {t1 : TE} (ht : trs w K Φ es = [t1]) {σ : L2.St} {H : Hp} {Q : VK} (h : tE w K (wE Φ (.isN neg es)) σ H Q) : tOp (rNone neg) t1 (tC .non) σ H Q := by
  have key := imp_ops ok (P := fun ds z => ∃ x, ds = [x] ∧ z = .bl (match x with | .non => !neg | _ => neg)) (fun ρ st Q => by rw [wE]) (fun Q ds st1 hc => ?_) h (Qv := fun vs H1 => match vs with | [x] => rNone neg x .non H1 Q | _ => False) (fun ds vs H1 z br hp nw => ?_)
  · rw [ht] at key; exact key
  · match ds, hc with
    | [x], hc => exact ⟨_, ⟨x, rfl, rfl⟩, hc⟩
    | [], hc => exact hc.elim
    | _ :: _ :: _, hc => exact hc.elim
  · obtain ⟨x, rfl, rfl⟩ := hp
    obtain ⟨v, B, rfl, r⟩ := br.one
    refine ⟨rfl, ?_⟩
    have := nw.bl
    cases r <;> cases neg <;> simpa using this
theorem imp_lenS {es : Es} (ok : es.ok = true) {t1 : TE} (ht : trs w K Φ es = [t1]) {σ : L2.St} {H : Hp} {Q : VK} (h : tE w K (wE Φ (.lenS es)) σ H Q) : tLenT w K t1 σ H Q := by
  have key := imp_ops ok (P := fun ds z => ∃ x, ds = [x] ∧ lenSet x = some z) (fun ρ st Q => by rw [wE]) (fun Q ds st1 hc => ?_) h (Qv := fun vs H1 => match vs with | [x] => ∃ l : Addr, x = .ref l ∧
      ((∃ ns : List Int, ((SqL K H1 l (ns.map V.int) ∧ ns.length ≤ 4000) ∨ (SqT K H1 l (ns.map V.int) ∧ ns.length ≤ 1000)) ∧ Q (.int ((ddI ns).length : Nat)) H1) ∨
        ∃ (vs : List V) (ds : List D) (B : List Addr), SqL K H1 l vs ∧ Reps w K H1 vs ds B ∧ ds.all isRow0 = true ∧ noTwo ds = true ∧ ds.length < 64 ∧ Q (.int (ds.length : Nat)) H1) | _ => False) (fun ds vs H1 z br hp nw => ?_)
  · rw [ht] at key; exact key
  · match ds, hc with
    | [x], hc =>
      cases hb : lenSet x with
      | none => simp only [hb] at hc
      | some z => simp only [hb] at hc; exact ⟨z, ⟨x, rfl, hb⟩, hc⟩
    | [], hc => exact hc.elim
    | _ :: _ :: _, hc => exact hc.elim
  · obtain ⟨x, rfl, hb⟩ := hp
    obtain ⟨v, B, rfl, r⟩ := br.one
    cases x <;> simp only [lenSet, reduceCtorEq] at hb
    · rename_i xs
      cases hi : ints? xs with
      | none => rw [hi] at hb; simp only [reduceCtorEq] at hb
      | some ns =>
        rw [hi] at hb
        simp only at hb
        split at hb
        · cases hb
          rename_i hl
          have e := ints_of hi
          subst e
          cases r with
          | tup e1 rs =>
            have e2 := rs.ints
            subst e2
            exact ⟨_, rfl, .inl ⟨ns, .inr ⟨e1.sq, hl⟩, nw.int⟩⟩
        · cases hb
    · rename_i xs
      cases hi : ints? xs with
      | none =>
        rw [hi] at hb
        simp only at hb
        split at hb
        · cases hb
          rename_i hl
          simp only [Bool.and_eq_true, decide_eq_true_eq] at hl
          cases r with
          | lst e1 rs => exact ⟨_, rfl, .inr ⟨_, _, _, SqL.of e1, rs, hl.1.1, hl.1.2, hl.2, nw.int⟩⟩
        · cases hb
      | some ns =>
        rw [hi] at hb
        simp only at hb
        split at hb
        · cases hb
          rename_i hl
          have e := ints_of hi
          subst e
          cases r with
          | lst e1 rs =>
            have e2 := rs.ints
            subst e2
            exact ⟨_, rfl, .inl ⟨ns, .inl ⟨SqL.of e1, hl⟩, nw.int⟩⟩
        · cases hb
theorem imp_sortS {es : Es} (ok : es.ok = true) {t1 : TE} (ht : trs w K Φ es = [t1]) {σ : L2.St} {H : Hp} {Q : VK} (h : tE w K (wE Φ (.sortS es)) σ H Q) : tSortS K t1 σ H Q := by
  have key := imp_ops ok (P := fun ds z => ∃ x, ds = [x] ∧ sortSet x = some z) (fun ρ st Q => by rw [wE]) (fun Q ds st1 hc => ?_) h (Qv := fun vs H1 => match vs with | [x] => ∃ (l : Addr) (ns : List Int), x = .ref l ∧ SqL K H1 l (ns.map V.int) ∧ ns.length < 64 ∧ ∀ q, H1 q = none → Q (.ref q) (upd H1 q (.lst ((isort (ddI ns)).map V.int))) | _ => False) (fun ds vs H1 z br hp nw => ?_)
  · rw [ht] at key; exact key
  · match ds, hc with
    | [x], hc =>
      cases hb : sortSet x with
      | none => simp only [hb] at hc
      | some z => simp only [hb] at hc; exact ⟨z, ⟨x, rfl, hb⟩, hc⟩
    | [], hc => exact hc.elim
    | _ :: _ :: _, hc => exact hc.elim
  · obtain ⟨x, rfl, hb⟩ := hp
    obtain ⟨v, B, rfl, r⟩ := br.one
    cases x <;> simp only [sortSet, reduceCtorEq] at hb
    rename_i xs
    cases hi : ints? xs with
    | none => rw [hi] at hb; simp only [reduceCtorEq] at hb
    | some ns =>
      rw [hi] at hb
      simp only at hb
      split at hb
      · cases hb
        rename_i hl
        have e := ints_of hi
        subst e
        cases r with
        | lst e1 rs =>
          have e2 := rs.ints
          subst e2
          exact ⟨_, ns, rfl, SqL.of e1, hl, nw.lst (reps_ints _)⟩
      · cases hb
theorem reps_rev {H : Hp} : ∀ {vs : List V} {ds : List D} {B : List Addr}, Reps w K H vs ds B → immutAll ds = true → Reps w K H vs.reverse ds.reverse []
  | _, _, _, .nil, _ => .nil
  | _, _, _, .cons (A := A) r t, h => by
    simp only [immutAll, Bool.and_eq_true] at h
    have e := r.immut h.1
    subst e
    rw [List.reverse_cons, List.reverse_cons]
    have := (reps_rev t h.2).append (Reps.cons r .nil)
    simpa using this
theorem imp_lrev {es : Es} (ok : es.ok = true) {t1 : TE} (ht : trs w K Φ es = [t1]) {σ : L2.St} {H : Hp} {Q : VK} (h : tE w K (wE Φ (.lrev es)) σ H Q) : tLRev K t1 σ H Q := by
  have key := imp_ops ok (P := fun ds z => ∃ x, ds = [x] ∧ revL x = some z) (fun ρ st Q => by rw [wE]) (fun Q ds st1 hc => ?_) h (Qv := fun vs H1 => match vs with | [x] => ∃ (l : Addr) (xs : List V), x = .ref l ∧ SqL K H1 l xs ∧ ∀ q, H1 q = none → Q (.ref q) (upd H1 q (.lst xs.reverse)) | _ => False) (fun ds vs H1 z br hp nw => ?_)
  · rw [ht] at key; exact key
  · match ds, hc with
    | [x], hc =>
      cases hb : revL x with
      | none => simp only [hb] at hc
      | some z => simp only [hb] at hc; exact ⟨z, ⟨x, rfl, hb⟩, hc⟩
    | [], hc => exact hc.elim
    | _ :: _ :: _, hc => exact hc.elim
  · obtain ⟨x, rfl, hb⟩ := hp
    obtain ⟨v, B, rfl, r⟩ := br.one
    cases x <;> simp only [revL, reduceCtorEq] at hb
    rename_i xs
    split at hb
    · cases hb
      rename_i him
      cases r with
      | lst e1 rs => exact ⟨_, _, rfl, SqL.of e1, nw.lst (reps_rev rs him)⟩
    · cases hb
theorem imp_bf {f : Bf} {es : Es} (ok : es.ok = true) {σ : L2.St} {H : Hp} {Q : VK} (h : tE w K (wE Φ (.bf f es)) σ H Q) : tCB (rBf w K f) (seqT (trs w K Φ es)) σ H Q := by
  refine imp_ops ok (P := fun ds z => bfun f ds = some z) (fun ρ st Q => by rw [wE]) (fun Q ds st1 hc => ?_) h (fun ds vs H1 z br hp nw => ⟨ds, z, br, hp, nw⟩)
  cases hb : bfun f ds with
  | none => simp only [hb] at hc
  | some z => simp only [hb] at hc; exact ⟨z, rfl, hc⟩
theorem imp_isi {ts : List Ty} {es : Es} (ok : es.ok = true) {t1 : TE} (ht : trs w K Φ es = [t1]) {σ : L2.St} {H : Hp} {Q : VK} (h : tE w K (wE Φ (.isi ts es)) σ H Q) :
    t1 σ H fun v H1 => ∃ x B, Rep w K H1 v x B ∧ isiOk x = true ∧ ∀ H2, Sub H1 H2 → Q (.bl (isi x ts)) H2 := by
  have key := imp_ops ok (P := fun ds z => ∃ x, ds = [x] ∧ isiOk x = true ∧ z = .bl (isi x ts)) (fun ρ st Q => by rw [wE]) (fun Q ds st1 hc => ?_) h (Qv := fun vs H1 => match vs with | [v] => ∃ x B, Rep w K H1 v x B ∧ isiOk x = true ∧ ∀ H2, Sub H1 H2 → Q (.bl (isi x ts)) H2 | _ => False) (fun ds vs H1 z br hp nw => ?_)
  · rw [ht] at key; exact key
  · match ds, hc with
    | [x], hc => exact ⟨_, ⟨x, rfl, hc.1, rfl⟩, hc.2⟩
    | [], hc => exact hc.elim
    | _ :: _ :: _, hc => exact hc.elim
  · obtain ⟨x, rfl, hk, rfl⟩ := hp
    obtain ⟨v, B, rfl, r⟩ := br.one
    exact ⟨x, B, r, hk, fun H2 s => nw _ _ _ s (.bl _) List.nodup_nil (fun _ z => nomatch z)⟩
theorem pe_tupN {es : List Expr} {t : TA} {x1 : Nat} {pos : Pos} (h : PA X es t) : PE X (.Tuple es x1 pos) (tTupN t) := by
  refine ⟨fun pins s σ H Q I hq => ?_⟩
  refine wpAny_Tuple_spliced (thn (h.run pos pins s σ H _ I hq) fun us s1 ⟨xs, H1, I1, r, z, q⟩ => ⟨by rw [← r.length]; exact z, ?_⟩)
  exact ⟨.ref s1.heap.objs.size, _, lay_tup I1 r z, rfl, q _ _ (I1.hok.fresh (Nat.le_refl _)) rfl⟩
theorem imp_tup {es : Es} {σ : L2.St} {H : Hp} {Q : VK} (h : tE w K (wE Φ (.tup es)) σ H Q) : tTupN (seqT (trs w K Φ es)) σ H Q := by
  obtain ⟨ρ, st, fp, R, Qd, e, o, h, k⟩ := h
  rw [wE] at h
  refine impVs es e o h fun ds st1 vs H1 fp1 B q x1 o1 rs nd dj => ⟨by rw [rs.length]; exact Nat.le_trans q.1 lim_line, fun p ob hp ho => ?_⟩
  have s : Sub H1 (upd H1 p (.frz ob (.tup vs))) := Sub.new hp
  exact k (.tup ds) st1 _ _ fp1 B q.2 (x1.trans (Ext.sub s)) (o1.sub s) (.tup (.inl ⟨ob, upd_same, ho⟩) (rs.sub s)) nd dj
theorem imp_tupM {i : Nat} {es : Es} {σ : L2.St} {H : Hp} {Q : VK} (h : tE w K (wE Φ (.tupM i es)) σ H Q) : tTupN (seqT (trs w K Φ (.nm i es))) σ H Q := by
  obtain ⟨ρ, st, fp, R, Qd, e, o, h, k⟩ := h
  rw [wE] at h
  obtain ⟨hrw, h⟩ := h
  obtain ⟨d0, hd0⟩ : ∃ d, st[i]? = some (some d) := by
    unfold isRw at hrw
    cases hz : st[i]? with
    | none => rw [hz] at hrw; cases hrw
    | some u =>
      rw [hz] at hrw
      cases u with
      | none => cases hrw
      | some d => exact ⟨d, rfl⟩
  obtain ⟨v, hv, _, _⟩ := o.at_ i d0 hd0
  refine ⟨v, hv, impVs es e o h fun ds st1 vs H1 fp1 B q x1 o1 rs nd dj => ?_⟩
  cases hz : st1[i]? with
  | none => rw [hz] at q; exact q.elim
  | some u =>
    rw [hz] at q
    cases u with
    | none => exact q.elim
    | some d =>
      obtain ⟨v', hv', r', nd'⟩ := o1.at_ i d hz
      rw [hv] at hv'
      cases hv'
      obtain ⟨hl, q⟩ := q
      refine ⟨by rw [List.length_cons, rs.length]; exact Nat.le_trans hl lim_line, fun p ob hp ho => ?_⟩
      have s : Sub H1 (upd H1 p (.frz ob (.tup (v :: vs)))) := Sub.new hp
      have om := (o1.move i).sub s
      refine k (.tup (d :: ds)) _ _ _ _ (fp1 i ++ B) q ?_ om (.tup (.inl ⟨ob, upd_same, ho⟩) ((Reps.cons r' rs).sub s)) ?_ fun x hx m => ?_
      · refine (x1.trans (Ext.sub s)).mono fun x hx => ?_
        rcases hx with hx | hx
        · exact .inl hx.move
        · rcases List.mem_append.mp hx with hx | hx
          · exact .inl ⟨i, hx⟩
          · exact .inr hx
      · rw [List.nodup_append]
        exact ⟨nd', nd, fun a ha b hb z => dj b hb (by rw [← z]; exact ⟨i, ha⟩)⟩
      · rcases List.mem_append.mp hx with hx | hx
        · obtain ⟨j, hj⟩ := m
          unfold updF at hj
          split at hj
          · cases hj
          · rename_i hne
            exact hne ⟨(o1.dis i j x hx hj).symm, o1.ne hz⟩
        · exact dj x hx m.move
theorem imp_lst {es : Es} {σ : L2.St} {H : Hp} {Q : VK} (h : tE w K (wE Φ (.lst es)) σ H Q) : tLst (seqT (trs w K Φ es)) σ H Q := by
  obtain ⟨ρ, st, fp, R, Qd, e, o, h, k⟩ := h
  rw [wE] at h
  refine impVs es e o h fun ds st1 vs H1 fp1 B q x1 o1 rs nd dj => ⟨by rw [rs.length]; exact Nat.le_trans q.1 lim_line, fun p hp => ?_⟩
  have s : Sub H1 (upd H1 p (.lst vs)) := Sub.new hp
  have hpB : p ∉ B := fun z => by
    have := rs.chg p z; rw [hp] at this; exact this
  refine k (.lst ds) st1 _ _ fp1 (p :: B) q.2 ?_ (o1.sub s) (.lst upd_same (rs.sub s)) (List.nodup_cons.mpr ⟨hpB, nd⟩) fun x hx m => ?_
  · refine x1.trans ⟨fun x u hx _ => s x u hx, fun x hx => ?_⟩
    rcases hx with hx | hx
    · exact .inl (.inl hx)
    · rcases List.mem_cons.mp hx with rfl | hx
      · exact .inr hp
      · exact .inl (.inr hx)
  · rcases List.mem_cons.mp hx with rfl | hx
    · exact o1.there m hp
    · exact dj x hx m
theorem imp_dct0 {σ : L2.St} {H : Hp} {Q : VK} (h : tE w K (wE Φ .dct0) σ H Q) : tDNewK σ H Q := by
  obtain ⟨ρ, st, fp, R, Qd, e, o, h, k⟩ := h
  rw [wE] at h
  intro p hp
  have s : Sub H (upd H p (.dK [])) := Sub.new hp
  refine k _ st _ _ fp [p] h (Ext.subNew s fun x hx => ?_) (o.sub s) (.dK upd_same .nil) (by simp) fun x hx m => ?_
  · rcases hx with hx | hx
    · exact .inl hx
    · rw [List.mem_singleton.mp hx]; exact .inr hp
  · rw [List.mem_singleton.mp hx] at m; exact o.there m hp
theorem imp_neg {a : E} {σ : L2.St} {H : Hp} {Q : VK} (h : tE w K (wE Φ (.neg a)) σ H Q) : tUn (rU fun i => .int (-i)) (tE w K (wE Φ a)) σ H Q := by
  obtain ⟨ρ, st, fp, R, Qd, e, o, h, k⟩ := h
  rw [wE] at h
  refine tE_at e o h fun d st1 v H1 fp1 B q x1 o1 r nd dj => ?_
  cases d <;> first | exact q.elim | skip
  cases r
  exact ⟨_, rfl, k _ st1 _ H1 fp1 [] q (x1.mono fun x hx => hx.elim .inl fun z => nomatch z) o1 (.int _) List.nodup_nil fun _ z => nomatch z⟩
end
end Dl
/-! DlSnd2: and, or, not, chains, methods, calls, comprehensions. -/
namespace Dl
open PySem PySem.Spec PyProof.Rows L2
section
variable [Tab] {w : World} {K : PySem.W.Frag} {Φ : Phi} {N : List Str} {cs : List (String × K0)} {lv : Nat} {sc : Scope} {fn : Str → Bool} {X : Cx}
theorem ext0 {M M1 : Addr → Prop} {H H1 : Hp} {B : List Addr} (x : Ext M H H1 (fun x => M1 x ∨ x ∈ B)) : Ext M H H1 (fun x => M1 x ∨ x ∈ ([] : List Addr)) := x.mono fun _ hx => hx.elim .inl fun z => nomatch z
theorem ext1 {M M1 : Addr → Prop} {H H1 : Hp} {B : List Addr} (x : Ext M H H1 (fun x => M1 x ∨ x ∈ B)) : Ext M H H1 M1 := x.mono fun _ hx => .inl hx
theorem extE {M M1 : Addr → Prop} {H H1 : Hp} (x : Ext M H H1 M1) : Ext M H H1 (fun x => M1 x ∨ x ∈ ([] : List Addr)) := x.mono fun _ hx => hx.elim id fun z => nomatch z
theorem imp_chain {o1 o2 : Cop} {a b c : E} {σ : L2.St} {H : Hp} {Q : VK} (h : tE w K (wE Φ (.chain o1 o2 a b c)) σ H Q) :
    tChain (rCmp w K o1) (rCmp w K o2) (tE w K (wE Φ a)) (tE w K (wE Φ b)) (tE w K (wE Φ c)) σ H Q := by
  obtain ⟨ρ, st, fp, R, Qd, e, o, h, k⟩ := h
  rw [wE] at h
  refine tE_at e o h fun d st1 v H1 fp1 B q x1 o1' r nd dj => ?_
  have e1 := e.keep' o x1
  refine tE_at e1 o1' q fun d2 st2 v2 H2 fp2 B2 q2 x2 o2' r2 nd2 dj2 => ?_
  have e2 := e1.keep' o1' x2
  have x12 := (ext1 x1).trans (ext1 x2)
  cases d <;> first | exact q2.elim | skip
  cases d2 <;> first | exact q2.elim | skip
  rename_i i j
  cases r
  cases r2
  cases hc : cmpop o1 (.int i) (.int j) with
  | none => simp only [hc] at q2
  | some bb =>
    simp only [hc] at q2
    refine ⟨_, _, bb, _, _, .int i, .int j, hc, bb, rfl, ?_⟩
    cases bb with
    | false =>
      rw [if_neg (by decide)]
      exact k _ st2 _ H2 fp2 [] q2 (extE x12) o2' (.bl _) List.nodup_nil fun _ z => nomatch z
    | true =>
      rw [if_pos rfl]
      refine tE_at e2 o2' q2 fun d3 st3 v3 H3 fp3 B3 q3 x3 o3 r3 nd3 dj3 => ?_
      cases d3 <;> first | exact q3.elim | skip
      cases r3
      rename_i kk
      cases hc2 : cmpop o2 (.int j) (.int kk) with
      | none => simp only [hc2] at q3
      | some b2 =>
        simp only [hc2] at q3
        exact ⟨_, _, b2, _, _, .int j, .int kk, hc2, k _ st3 _ H3 fp3 [] q3 (extE (x12.trans (ext1 x3))) o3 (.bl _) List.nodup_nil fun _ z => nomatch z⟩
theorem imp_and {a b : E} {σ : L2.St} {H : Hp} {Q : VK} (h : tE w K (wE Φ (.and a b)) σ H Q) : tAndV (tE w K (wE Φ a)) (tE w K (wE Φ b)) σ H Q := by
  obtain ⟨ρ, st, fp, R, Qd, e, o, h, k⟩ := h
  rw [wE] at h
  refine tE_at e o h fun d st1 v H1 fp1 B q x1 o1 r nd dj => ?_
  have e1 := e.keep' o x1
  cases d <;> first | exact q.elim | skip
  rename_i bb
  cases r
  refine ⟨bb, rfl, ?_⟩
  cases bb with
  | true =>
    rw [if_pos rfl]
    exact tE_at e1 o1 q fun d2 st2 v2 H2 fp2 B2 q2 x2 o2 r2 nd2 dj2 => k d2 st2 v2 H2 fp2 B2 q2 ((ext1 x1).trans x2) o2 r2 nd2 dj2
  | false =>
    rw [if_neg (by decide)]
    exact k _ st1 _ H1 fp1 [] q (ext0 x1) o1 (.bl _) List.nodup_nil fun _ z => nomatch z
theorem imp_or {a b : E} {σ : L2.St} {H : Hp} {Q : VK} (h : tE w K (wE Φ (.or a b)) σ H Q) : tOrV (tE w K (wE Φ a)) (tE w K (wE Φ b)) σ H Q := by
  obtain ⟨ρ, st, fp, R, Qd, e, o, h, k⟩ := h
  rw [wE] at h
  refine tE_at e o h fun d st1 v H1 fp1 B q x1 o1 r nd dj => ?_
  have e1 := e.keep' o x1
  cases d <;> first | exact q.elim | skip
  rename_i bb
  cases r
  refine ⟨bb, rfl, ?_⟩
  cases bb with
  | false =>
    rw [if_neg (by decide)]
    exact tE_at e1 o1 q fun d2 st2 v2 H2 fp2 B2 q2 x2 o2 r2 nd2 dj2 => k d2 st2 v2 H2 fp2 B2 q2 ((ext1 x1).trans x2) o2 r2 nd2 dj2
  | true =>
    rw [if_pos rfl]
    exact k _ st1 _ H1 fp1 [] q (ext0 x1) o1 (.bl _) List.nodup_nil fun _ z => nomatch z
theorem imp_not {a : E} {σ : L2.St} {H : Hp} {Q : VK} (h : tE w K (wE Φ (.not a)) σ H Q) : tNotV (tE w K (wE Φ a)) σ H Q := by
  obtain ⟨ρ, st, fp, R, Qd, e, o, h, k⟩ := h
  rw [wE] at h
  refine tE_at e o h fun d st1 v H1 fp1 B q x1 o1 r nd dj => ?_
  cases d <;> first | exact q.elim | skip
  cases r
  exact ⟨_, rfl, k _ st1 _ H1 fp1 [] q (ext0 x1) o1 (.bl _) List.nodup_nil fun _ z => nomatch z⟩
theorem imp_ite {c a b : E} {σ : L2.St} {H : Hp} {Q : VK} (h : tE w K (wE Φ (.ite c a b)) σ H Q) : tIf (tTs w K (wE Φ c)) (tE w K (wE Φ a)) (tE w K (wE Φ b)) σ H Q := by
  obtain ⟨ρ, st, fp, R, Qd, e, o, h, k⟩ := h
  rw [wE] at h
  refine ⟨ρ, st, fp, R, _, e, o, h, fun d st1 H1 fp1 q x1 o1 => ?_⟩
  have e1 := e.keep' o x1
  cases d <;> first | exact q.elim | skip
  rename_i bb
  refine ⟨bb, rfl, ?_⟩
  cases bb with
  | true =>
    rw [if_pos rfl]
    exact tE_at e1 o1 q fun d2 st2 v2 H2 fp2 B2 q2 x2 o2 r2 nd2 dj2 => k d2 st2 v2 H2 fp2 B2 q2 (x1.trans x2) o2 r2 nd2 dj2
  | false =>
    rw [if_neg (by decide)]
    exact tE_at e1 o1 q fun d2 st2 v2 H2 fp2 B2 q2 x2 o2 r2 nd2 dj2 => k d2 st2 v2 H2 fp2 B2 q2 (x1.trans x2) o2 r2 nd2 dj2
/-! tests -/
theorem ts_and {a b : E} {σ : L2.St} {H : Hp} {Q : Bool → Hp → Prop} (h : tTs w K (wE Φ (.and a b)) σ H Q) : tAnd (tTs w K (wE Φ a)) (tTs w K (wE Φ b)) σ H Q := by
  obtain ⟨ρ, st, fp, R, Qd, e, o, h, k⟩ := h
  rw [wE] at h
  refine ⟨ρ, st, fp, R, _, e, o, h, fun d st1 H1 fp1 q x1 o1 => ?_⟩
  have e1 := e.keep' o x1
  cases d <;> first | exact q.elim | skip
  rename_i bb
  refine ⟨bb, rfl, ?_⟩
  cases bb with
  | true =>
    rw [if_pos rfl]
    exact ⟨ρ, st1, fp1, R, _, e1, o1, q, fun d2 st2 H2 fp2 q2 x2 o2 => k d2 st2 H2 fp2 q2 (x1.trans x2) o2⟩
  | false =>
    rw [if_neg (by decide)]
    obtain ⟨b2, e2, q2⟩ := k _ st1 H1 fp1 q x1 o1
    cases e2
    exact q2
theorem ts_or {a b : E} {σ : L2.St} {H : Hp} {Q : Bool → Hp → Prop} (h : tTs w K (wE Φ (.or a b)) σ H Q) : tOr (tTs w K (wE Φ a)) (tTs w K (wE Φ b)) σ H Q := by
  obtain ⟨ρ, st, fp, R, Qd, e, o, h, k⟩ := h
  rw [wE] at h
  refine ⟨ρ, st, fp, R, _, e, o, h, fun d st1 H1 fp1 q x1 o1 => ?_⟩
  have e1 := e.keep' o x1
  cases d <;> first | exact q.elim | skip
  rename_i bb
  refine ⟨bb, rfl, ?_⟩
  cases bb with
  | false =>
    rw [if_neg (by decide)]
    exact ⟨ρ, st1, fp1, R, _, e1, o1, q, fun d2 st2 H2 fp2 q2 x2 o2 => k d2 st2 H2 fp2 q2 (x1.trans x2) o2⟩
  | true =>
    rw [if_pos rfl]
    obtain ⟨b2, e2, q2⟩ := k _ st1 H1 fp1 q x1 o1
    cases e2
    exact q2
theorem ts_not {a : E} {σ : L2.St} {H : Hp} {Q : Bool → Hp → Prop} (h : tTs w K (wE Φ (.not a)) σ H Q) : tNot (tTs w K (wE Φ a)) σ H Q := by
  obtain ⟨ρ, st, fp, R, Qd, e, o, h, k⟩ := h
  rw [wE] at h
  refine ⟨ρ, st, fp, R, _, e, o, h, fun d st1 H1 fp1 q x1 o1 => ?_⟩
  cases d <;> first | exact q.elim | skip
  rename_i bb
  refine ⟨bb, rfl, ?_⟩
  obtain ⟨b2, e2, q2⟩ := k _ st1 H1 fp1 q x1 o1
  cases e2
  exact q2
/-! a built-in's method, by the type of what stands there -/
def tBMD (X : Cx) (name : Str) (to : TE) (t : TA) : TE := fun σ H Q => to σ H fun x H1 => ∃ (T id : String) (r : V → List V → Hp → VK → Prop), PlainAttrs T ∧ Slot T name id ∧ typeOf (.builtin id) = pure (.type "method_descriptor") ∧ MtR X id r ∧
  (∀ pins s v, Inv X pins σ H1 s → RelV x v → s.TypeIs v T ∧ ∀ a, v = .ref a → ∃ ob, s.heap.get? a = some ob ∧ ob.dict = none) ∧ t σ H1 fun xs H2 => r x xs H2 Q
theorem pe_bmD {o e : Expr} {es : List Expr} {to : TE} {t : TA} {name : Str} {apos cpos : Pos} (ho : PE X o to) (ha : PA X (e :: es) t) (hbase : attributeBase o name X.env (eval o X.env) = eval o X.env) (hst : (e :: es).all notStar = true) (hf : few es = true) (hline : (apos.endLine == cpos.line) = true) :
    PE X (.Call (.Attribute o name apos) (e :: es) [] cpos) (tBMD X name to t) := by
  refine ⟨fun pins s σ H Q I h => ?_⟩
  have hst' := hst
  simp only [List.all_cons, Bool.and_eq_true] at hst'
  have hs := star_each hst'.1 es X.env
  have hplain := no_stars hst'.2 X.env cpos
  have hfew : ((backTo cpos (starEach (e :: es) X.env)).all (fun x => !x.1) && (backToKw cpos (keywordEach [] X.env)).all (fun x => x.1.isSome) && decide ((e :: es).length + ([] : List Keyword).length + (if ([] : List Keyword).isEmpty then 0 else 1) < 30)) = true := by
    have h1 := no_stars hst X.env cpos
    simp only [few, decide_eq_true_eq] at hf
    simp only [Bool.and_eq_true, decide_eq_true_eq]
    refine ⟨⟨?_, by simp [keywordEach, backToKw]⟩, by simp; omega⟩
    rw [List.all_eq_not_any_not]
    simpa using h1
  refine wpAny_Call_method_late hbase hfew hline rfl (thn (ho.run pins s σ H _ I h) fun v s1 ⟨x, H1, I1, r1, q1⟩ => ?_)
  obtain ⟨T, id, r, pa, slot, hty, hm, ty, q1⟩ := q1
  obtain ⟨h1, h2⟩ := ty pins s1 v I1 r1
  refine ⟨T, id, pa, slot, hty, h1, h2, ?_⟩
  have hA := ha.run cpos pins s1 σ H1 _ I1 q1
  rw [hs] at hA ⊢
  refine Calls.callWith_builtin (by show (false || (backTo cpos (starEach es X.env)).any (·.1)) = false; rw [hplain] <;> rfl) (Calls.evalArgs_plain ?_)
  exact thn hA fun us s2 ⟨vs, H2, I2, r2, q2⟩ => hm pins s2 σ H2 x vs v us Q I2 r1 r2 q2
/-- lists and tuples stand without attributes of their own -/
theorem ty_lst {σ : L2.St} {H : Hp} {a : Addr} {vs : List V} (e : H a = some (.lst vs)) : ∀ pins s v, Inv X pins σ H s → RelV (.ref a) v → s.TypeIs v "list" ∧ ∀ b, v = .ref b → ∃ ob, s.heap.get? b = some ob ∧ ob.dict = none := by
  intro pins s v I r
  cases r
  obtain ⟨its, _, pl, _⟩ := I.list (SqL.of e)
  refine ⟨pl.isList.typeIs, fun b e => ?_⟩
  cases e
  obtain ⟨o, n, e, c, hd, _⟩ := pl
  exact ⟨o, e, hd⟩
theorem ty_tup {σ : L2.St} {H : Hp} {a : Addr} {vs : List V} (e : TupN X.K H a vs) : ∀ pins s v, Inv X pins σ H s → RelV (.ref a) v → s.TypeIs v "tuple" ∧ ∀ b, v = .ref b → ∃ ob, s.heap.get? b = some ob ∧ ob.dict = none := by
  intro pins s v I r
  cases r
  rcases e with ⟨o, e, hd⟩ | ⟨o, its, n, hk, hc, _, _, _, hd⟩
  · obtain ⟨g1, _, its, rv, o', g2, g3, _⟩ := I.hok a _ e
    rw [g1] at g2
    cases g2
    exact ⟨⟨o, g1, g3⟩, fun b q => by cases q; exact ⟨o, g1, hd⟩⟩
  · exact ⟨⟨o, I.kIn a o hk, hc⟩, fun b q => by cases q; exact ⟨o, I.kIn _ o hk, hd⟩⟩
theorem ty_dct {σ : L2.St} {H : Hp} {a : Addr} {ds : List (D × D)} {B : List Addr} (r : Rep X.w X.K H (.ref a) (.dct ds) B) : ∀ pins s v, Inv X pins σ H s → RelV (.ref a) v → s.TypeIs v "dict" ∧ ∀ b, v = .ref b → ∃ ob, s.heap.get? b = some ob ∧ ob.dict = none := by
  intro pins s v I rv
  cases rv
  cases r with
  | dK e rk =>
    obtain ⟨h1, h2, _⟩ := isD_at I (.inl ⟨_, .inl e⟩)
    exact ⟨h1, h2⟩
  | dT e hd nd hz rt =>
    obtain ⟨⟨o, es, ep, h1, h2, h3, h4⟩, _, _⟩ := I.hok a _ e
    have hr : s.heap.DictRaw a es ep := ⟨o, h1, h2, h3⟩
    exact ⟨hr.typeIs, fun b q => by cases q; exact ⟨o, h1, h2.2.1⟩⟩
  | dB e hd nd rb =>
    obtain ⟨⟨P, vs, ⟨o, es, ep, h1, h2, h3, h4⟩, _⟩, _, _⟩ := I.hok a _ e
    have hr : s.heap.DictRaw a es ep := ⟨o, h1, h2, h3⟩
    exact ⟨hr.typeIs, fun b q => by cases q; exact ⟨o, h1, h2.2.1⟩⟩
theorem mr_facts (hu : X.A.units + 100 < cLine) (m : Mr) {d : D} {v : V} {B : List Addr} {H : Hp} {σ : L2.St} (r : Rep X.w X.K H v d B) (hd : mrOk m d = true) :
    ∃ (T id : String) (rr : V → List V → Hp → VK → Prop), PlainAttrs T ∧ Slot T (s_ m.nm) id ∧ typeOf (.builtin id) = pure (.type "method_descriptor") ∧ MtR X id rr ∧ (∀ pins s u, Inv X pins σ H s → RelV v u → s.TypeIs u T ∧ ∀ a, u = .ref a → ∃ ob, s.heap.get? a = some ob ∧ ob.dict = none) ∧ T = d.tyN ∧
      ∀ H2 vs Q ys z x B2, x.tyN = T → Rep X.w X.K H2 v x B2 → BReps X.w X.K H2 vs ys → mread m x ys = some z → New X.w X.K H2 z Q → rr v vs H2 Q := by
  unfold mrOk at hd
  split at hd
  · cases r with
    | lst e rs => exact ⟨"list", "list.index", _, PySem.F.plainAttrs_list, PySem.F.slot_list_index, PySem.F.type_list_index, mr_list hu, ty_lst e, rfl, fun H2 vs Q ys z x B2 ht r2 br hm nw => ⟨x, ys, z, B2, r2, ht, br, hm, nw⟩⟩
  · cases r with
    | tup e rs => exact ⟨"tuple", "tuple.index", _, PySem.F.plainAttrs_tuple, PySem.F.slot_tuple_index, PySem.F.type_tuple_index, mr_tuple hu, ty_tup e, rfl, fun H2 vs Q ys z x B2 ht r2 br hm nw => ⟨x, ys, z, B2, r2, ht, br, hm, nw⟩⟩
  · obtain ⟨a, rfl⟩ : ∃ a, v = .ref a := by cases r <;> exact ⟨_, rfl⟩
    exact ⟨"dict", "dict.get", _, PySem.F.plainAttrs_dict, PySem.F.slot_dict_get, PySem.F.type_dict_get, mr_get hu, ty_dct r, rfl, fun H2 vs Q ys z x B2 ht r2 br hm nw => ⟨x, ys, z, B2, r2, ht, br, hm, nw⟩⟩
  · cases hd
theorem imp_mr (hu : X.A.units + 100 < cLine) (hw : X.w = w) (hK : X.K = K) {m : Mr} {i : Nat} {es : Es} (ok : es.ok = true) {σ : L2.St} {H : Hp} {Q : VK} (h : tE w K (wE Φ (.mr m i es)) σ H Q) : tBMD X (s_ m.nm) (tVar i) (seqT (trs w K Φ es)) σ H Q := by
  subst hw hK
  obtain ⟨ρ, st, fp, R, Qd, e, o, h, k⟩ := h
  rw [wE] at h
  cases hp : peek ρ st i with
  | none => rw [hp] at h; exact h.elim
  | some d0 =>
    rw [hp] at h
    obtain ⟨v, B, hv, r, _⟩ := peek_of o e hp
    obtain ⟨T, id, rr, f1, f2, f3, f4, f5, f6, f7⟩ := mr_facts hu m r h.1
    refine ⟨v, hv, T, id, rr, f1, f2, f3, f4, f5, ?_⟩
    refine impAs es ok e o h.2 fun ys st1 vs H1 fp1 T1 q x1 o1 hT br _ => ?_
    have e1 := e.keep' o x1
    cases hp1 : peek ρ st1 i with
    | none => rw [hp1] at q; exact q.elim
    | some x =>
      rw [hp1] at q
      obtain ⟨q1, q2⟩ := q
      obtain ⟨v', B', hv', r', _⟩ := peek_of o1 e1 hp1
      rw [hv] at hv'
      cases hv'
      cases hm : mread m x ys with
      | none => simp only [hm] at q2
      | some z =>
        simp only [hm] at q2
        refine f7 H1 vs Q ys z x B' (q1.trans f6.symm) r' br hm fun u H2 B2 s r2 nd2 nw => ?_
        exact k z st1 u H2 fp1 B2 q2.2 (ext_new x1 s nw) (o1.sub s) r2 nd2 fun y hy m => o1.there m (nw y hy)
theorem imp_mrA (hu : X.A.units + 100 < cLine) (hw : X.w = w) (hK : X.K = K) {m : Mr} {i : Nat} {f : String} {es : Es} (ok : es.ok = true) {σ : L2.St} {H : Hp} {Q : VK} (h : tE w K (wE Φ (.mrA m i f es)) σ H Q) : tBMD X (s_ m.nm) (tFld X.K (tVar i) (s_ f)) (seqT (trs w K Φ es)) σ H Q := by
  subst hw hK
  obtain ⟨ρ, st, fp, R, Qd, e, o, h, k⟩ := h
  rw [wE] at h
  split at h
  rotate_left
  · exact h.elim
  rename_i c fs hp
  split at h
  rotate_left
  · exact h.elim
  rename_i d0 hz
  obtain ⟨v, B, hv, r, hw⟩ := peek_of o e hp
  have hnt := o.peek_tab hw
  cases r with
  | @obj a dx _ fv _ B' ck sub ea nn rs =>
    obtain ⟨vz, A, g1, g2, g3, _, p, hp1, hp2⟩ := obj_get nn rs hz
    have hfa : f ∈ atsOf c := by rw [← hp2]; exact sub p hp1
    obtain ⟨T, id, rr, f1, f2, f3, f4, f5, f6, f7⟩ := mr_facts hu m g2 h.1
    refine ⟨_, hv, a, _, dx, fv, vz, rfl, ea, ck.1, ck.2 f hfa, g1, T, id, rr, f1, f2, f3, f4, f5, ?_⟩
    have nx : ∀ x ∈ A, x ∉ fp tabI := fun x hx => hnt x (List.mem_cons_of_mem _ (g3 x hx))
    refine impAs es ok (e.lockAll o) o.none h.2 fun ys st1 vs H1 fp1 T1 q x1 o1 hT br _ => ?_
    obtain ⟨o3, hT3, x3⟩ := o.over o1 x1 hT
    have r' : Rep X.w X.K H1 vz d0 A := g2.out o.none x1 fun y hy m => by
      obtain ⟨j, hj⟩ := m
      obtain ⟨rfl, hj⟩ := tabF_mem hj
      exact nx y hy hj
    cases hm : mread m d0 ys with
    | none => simp only [hm] at q
    | some z =>
      simp only [hm] at q
      refine f7 H1 vs Q ys z d0 A f6.symm r' br hm fun u H2 B2 s r2 nd2 nw => ?_
      exact k z st u H2 _ B2 q.2 (ext_new x3 s nw) (o3.sub s) r2 nd2 fun y hy m => o3.there m (nw y hy)
theorem Reps.snoc {H : Hp} {v : V} {d : D} {Bv : List Addr} (rv : Rep w K H v d Bv) {vs : List V} {ds : List D} {B : List Addr} (r : Reps w K H vs ds B) : Reps w K H (vs ++ [v]) (ds ++ [d]) (B ++ Bv) := by
  have q : Reps w K H [v] [d] (Bv ++ []) := .cons rv .nil
  rw [List.append_nil] at q
  exact r.append q
theorem I_len {H : Hp} {vs : List V} {ds : List D} {B : List Addr} (r : Reps w K H vs ds B) : vs.length = ds.length := r.length
theorem pop_ix {n : Nat} {i : Int} {j : Nat} (hn : n ≤ lim) (h : ixZ n i = some j) : -(2 ^ 63) ≤ i ∧ i < 2 ^ 63 ∧ seqIndex? i n = some j := by
  unfold lim at hn
  unfold ixZ at h
  unfold seqIndex?
  split at h
  · split at h
    · cases h
      refine ⟨by omega, by omega, ?_⟩
      simp only [show ¬ i < 0 by omega, if_false]
      rw [if_pos (by simp; omega)]
    · cases h
  · split at h
    · cases h
      refine ⟨by omega, by omega, ?_⟩
      simp only [show i < 0 by omega, if_true]
      rw [if_pos (by simp; omega)]
      congr 1; omega
    · cases h
theorem mchg_append {d rr d' : D} {ys : List D} (h : mchg .append d ys = some (rr, d')) : ∃ xs y, d = .lst xs ∧ ys = [y] ∧ xs.length < lim ∧ rr = .non ∧ d' = .lst (xs ++ [y]) := by
  unfold mchg at h
  split at h <;> simp_all
theorem mchg_pop1 {d rr d' : D} {ys : List D} (hty : d.tyN = "list") (h : mchg .pop1 d ys = some (rr, d')) : ∃ xs i j, d = .lst xs ∧ ys = [.int i] ∧ xs.length ≤ lim ∧ ixZ xs.length i = some j ∧ xs[j]? = some rr ∧ d' = .lst (xs.eraseIdx j) := by
  unfold mchg at h
  split at h
  · simp_all
  · split at h
    · rename_i _ _ xs i _ _
      obtain ⟨j, hj, hm⟩ := Option.bind_eq_some_iff.mp h
      obtain ⟨y, hy, hm⟩ := Option.map_eq_some_iff.mp hm
      cases hm
      exact ⟨xs, i, j, rfl, rfl, by assumption, hj, hy, rfl⟩
    · cases h
  · simp_all
  · simp_all
  · simp [D.tyN] at hty
  · simp_all
  · cases h
theorem mchg_popD {d rr d' : D} {ys : List D} (hty : d.tyN = "dict") (h : mchg .pop1 d ys = some (rr, d')) : ∃ kvs k, d = .dct kvs ∧ ys = [k] ∧ k.kd = 0 ∧ flatD kvs = true ∧ dget kvs k = some rr ∧ d' = .dct (ddrop kvs k) := by
  unfold mchg at h
  split at h
  · simp_all
  · simp [D.tyN] at hty
  · simp_all
  · simp_all
  · split at h
    · rename_i hk
      simp only [Bool.and_eq_true, beq_iff_eq] at hk
      obtain ⟨v, hv, e⟩ := Option.map_eq_some_iff.mp h
      cases e
      exact ⟨_, _, rfl, rfl, hk.1, hk.2, hv, rfl⟩
    · cases h
  · simp_all
  · cases h
theorem mchg_update {d rr d' : D} {ys : List D} (h : mchg .update d ys = some (rr, d')) : ∃ xs zs, d = .dct xs ∧ ys = [.dct zs] ∧ flatD xs = true ∧ flatD zs = true ∧ xs.length + zs.length ≤ lim ∧ rr = .non ∧ d' = .dct (dputs xs zs) := by
  unfold mchg at h
  split at h
  · simp_all
  · simp_all
  · simp_all
  · simp_all
  · simp_all
  · split at h
    · rename_i hk
      simp only [Bool.and_eq_true, decide_eq_true_eq] at hk
      cases h
      exact ⟨_, _, rfl, rfl, hk.1.1, hk.1.2, hk.2, rfl, rfl⟩
    · cases h
  · cases h
theorem flat_kd {kvs : List (D × D)} (h : flatD kvs = true) : (∀ p ∈ kvs, p.1.kd = 0) ∧ ∀ p ∈ kvs, p.2.immut = true := by
  unfold flatD at h
  rw [List.all_eq_true] at h
  exact ⟨fun p hp => by have := h p hp; simp at this; exact this.1, fun p hp => by have := h p hp; simp at this; exact this.2⟩
def rPopK : V → List V → Hp → VK → Prop := fun x vs H Q => ∃ (a : Addr) (kvs : List (Key × V)) (k : Key) (v : V), x = .ref a ∧ vs = [kV k] ∧ H a = some (.dK kvs) ∧ valV kvs k = some v ∧ Q v (upd H a (.dK (dropK kvs k)))
theorem mt_popK : MtR X "dict.pop" rPopK := by
  intro pins s σ H x vs v us Q I rx rv h
  obtain ⟨a, kvs, k, y, rfl, rfl, e, l, q⟩ := h
  cases rx
  obtain ⟨u, rfl, ru⟩ := rv.one
  exact d_pop I e ru l (.inl rfl) fun w' s' I' rw' => ⟨y, _, I', rw', q⟩
def rUpdK : V → List V → Hp → VK → Prop := fun x vs H Q => ∃ (a b : Addr) (kvs more : List (Key × V)), x = .ref a ∧ vs = [.ref b] ∧ a ≠ b ∧ H a = some (.dK kvs) ∧ H b = some (.dK more) ∧ kvs.length + more.length ≤ sizeLine ∧ ((kvs.map (·.1)).Nodup → Q .non (upd H a (.dK (mergeK kvs more))))
theorem mt_updK : MtR X "dict.update" rUpdK := by
  intro pins s σ H x vs v us Q I rx rv h
  obtain ⟨a, b, kvs, more, rfl, rfl, hab, e, e2, hz, q⟩ := h
  cases rx
  obtain ⟨u, rfl, ru⟩ := rv.one
  cases ru
  obtain ⟨z, hd, vs, rel, dd⟩ := dk_of I.hok e
  obtain ⟨z2, hd2, vs2, rel2, dd2⟩ := dk_of I.hok e2
  have hnd : (kvs.map (·.1)).Nodup := by
    obtain ⟨_, _, vs, rel, _, _, _, _, _, _, _, _, n⟩ := I.hok a _ e
    rw [rel.keys]; exact n
  refine call_meetsIn PySem.F.slot_dict_update dd.typeIs PySem.F.entry_dict_update (PySem.F.args_dict_update_2 _ _) (meets_dict_update (mixKind X.prog X.w) a b hab hd2)
    ⟨vs, vs2, dd, dd2, by rw [← rel.length, ← rel2.length]; exact hz, fun h' dd' _ hs => ⟨.non, _, ?_, rfl, q hnd⟩⟩
  have he : ∃ q, h'.get? a = some q := let ⟨q, _, _, hq, _⟩ := dd'; ⟨q, hq⟩
  exact d_write I (by rw [e]; exact True.intro) hs he (dk_new (Nat.le_trans (length_mergeK more kvs) hz) hd (KV.merge rel2 rel) dd')
theorem RepK.dropR {H : Hp} {k : Key} : ∀ {kvs : List (Key × V)} {ds : List (D × D)} {B : List Addr}, RepK w K H kvs ds B → (∀ p ∈ ds, p.2.immut = true) → RepK w K H (dropK kvs k) (ddrop ds (keyD k)) []
  | _, _, _, .nil, _ => .nil
  | _, _, _, .cons (k := j) (vv := vv) (dv := dv) (kvs := kvs') (ds := ds') r t, h => by
    have e0 := r.immut (h _ List.mem_cons_self)
    subst e0
    have ih := RepK.dropR (k := k) t fun p hp => h p (List.mem_cons_of_mem _ hp)
    unfold dropK ddrop at *
    by_cases hj : j = k
    · subst hj
      simp only [List.filter_cons, ne_eq, not_true_eq_false, decide_false, Bool.false_eq_true, if_false, keyD_eqv, decide_true, Bool.not_true]
      simpa [keyD_eqv] using ih
    · simp only [List.filter_cons, ne_eq, hj, not_false_eq_true, decide_true, if_true, keyD_eqv, decide_false, Bool.not_false]
      have := RepK.cons (k := j) r ih
      simpa [keyD_eqv] using this
theorem mchg_insert {d rr d' : D} {ys : List D} (h : mchg .insert d ys = some (rr, d')) : ∃ xs i y, d = .lst xs ∧ ys = [.int i, y] ∧ (xs.length < lim ∧ 0 ≤ i ∧ i ≤ 1000000) ∧ rr = .non ∧ d' = .lst (xs.take i.toNat ++ [y] ++ xs.drop i.toNat) := by
  unfold mchg at h
  split at h
  · simp_all
  · simp_all
  · split at h
    · cases h
      exact ⟨_, _, _, rfl, rfl, by assumption, rfl, rfl⟩
    · cases h
  · simp_all
  · simp_all
  · simp_all
  · cases h
def rIns : V → List V → Hp → VK → Prop := fun x vs H Q => ∃ (l : Addr) (xs : List V) (i : Int) (y : V), x = .ref l ∧ vs = [.int i, y] ∧ H l = some (.lst xs) ∧ xs.length < sizeLine ∧ 0 ≤ i ∧ i < 2 ^ 63 ∧ Q .non (upd H l (.lst (xs.take i.toNat ++ [y] ++ xs.drop i.toNat)))
theorem mt_ins : MtR X "list.insert" rIns := mt_insert
theorem mchg_extend {d rr d' : D} {ys : List D} (h : mchg .extend d ys = some (rr, d')) : ∃ xs zs, d = .lst xs ∧ ys = [.lst zs] ∧ xs.length + zs.length ≤ lim ∧ rr = .non ∧ d' = .lst (xs ++ zs) := by
  unfold mchg at h
  split at h <;> simp_all
/-- a thing that stands in a slot was changed by a method, which gives rd -/
theorem mm_end {R : Addr → Prop} {H H1 H2 : Hp} {σ : L2.St} {ρ st st1 : DS} {fp fp1 : Fp} {Qd : D → DS → Prop} {Q : VK} {i : Nat} {v rv : V} {d d' rd : D} {B B' Br : List Addr} (e : Env w K R H σ ρ) (o : Own w K R H σ st fp) (x1 : Ext (Mine fp) H H1 (fun x => Mine fp1 x ∨ x ∈ B)) (o1 : Own w K R H1 σ st1 fp1)
    (hs1 : st1[i]? = some (some d)) (hv : σ[i]? = some (some v)) (dj : ∀ x ∈ B, ¬ Mine fp1 x)
    (keep : ∀ x u, H1 x = some u → x ∉ fp1 i → H2 x = some u) (r' : Rep w K H2 v d' B') (nd' : B'.Nodup) (sub' : ∀ x ∈ B', x ∈ fp1 i ∨ x ∈ B) (rr : Rep w K H2 rv rd Br) (ndr : Br.Nodup) (subr : ∀ x ∈ Br, x ∈ fp1 i ∨ x ∈ B) (disr : ∀ x ∈ Br, x ∉ B')
    (q2 : Qd rd (st1.set i (some d')))
    (k : ∀ d st' v H' fp' B, Qd d st' → Ext (Mine fp) H H' (fun x => Mine fp' x ∨ x ∈ B) → Own w K R H' σ st' fp' → Rep w K H' v d B → B.Nodup → (∀ x ∈ B, ¬ Mine fp' x) → Q v H') : Q rv H2 := by
  have hR : ∀ x ∈ B, ¬ R x := fun x hx hr => by
    rcases x1.from_ x (.inr hx) with ⟨j, hj⟩ | hn
    · exact o.out x j hr hj
    · exact e.there x hr hn
  have o2 : Own w K R H2 σ _ (updF fp1 i B') := o1.change hs1 hv r' nd' keep fun x hx => by
    rcases sub' x hx with z | z
    · exact .inl z
    · exact .inr ⟨dj x z, hR x z⟩
  refine k rd _ rv H2 _ Br q2 ⟨fun x u hx hm => ?_, fun x hx => ?_⟩ o2 rr ndr fun x hx m => ?_
  · refine keep x u (x1.keep x u hx hm) fun z => ?_
    rcases x1.from_ x (.inl ⟨i, z⟩) with y | y
    · exact hm y
    · rw [hx] at y; cases y
  · have key : x ∈ fp1 i ∨ x ∈ B → Mine fp x ∨ H x = none := fun z => x1.from_ x (z.imp (fun z => ⟨i, z⟩) id)
    rcases hx with hx | hx
    · rcases hx.upd with hx | hx
      · exact x1.from_ x (.inl hx)
      · exact key (sub' x hx)
    · exact key (subr x hx)
  · obtain ⟨j, hj⟩ := m
    by_cases hji : j = i
    · rw [hji, updF_same (o1.ne hs1)] at hj; exact disr x hx hj
    · rw [updF_ne hji] at hj
      rcases subr x hx with z | z
      · exact hji (o1.dis j i x hj z)
      · exact dj x z ⟨j, hj⟩
/-- a list's items are other ones now -/
theorem lst_stay {H : Hp} {a : Addr} {vs vs' : List V} (e : H a = some (.lst vs)) : Stay (fun x => x ≠ a) H (upd H a (.lst vs')) := fun x u hx c => by
  by_cases hxa : x = a
  · subst hxa; rw [e] at hx; cases hx; exact absurd rfl (c trivial)
  · rw [upd_ne hxa]; exact hx
theorem lst_keep {H : Hp} {a : Addr} {o : HO} {F : List Addr} (ha : a ∈ F) : ∀ x u, H x = some u → x ∉ F → (upd H a o) x = some u := fun x u hx nx => by
  rw [upd_ne fun z => nx (by rw [z]; exact ha)]; exact hx
theorem Reps.split {H : Hp} : ∀ (j : Nat) {vs : List V} {ds : List D} {B : List Addr}, Reps w K H vs ds B → ∃ B1 B2, B = B1 ++ B2 ∧ Reps w K H (vs.take j) (ds.take j) B1 ∧ Reps w K H (vs.drop j) (ds.drop j) B2
  | 0, vs, ds, B, r => ⟨[], B, rfl, .nil, r⟩
  | j + 1, _, _, _, .nil => ⟨[], [], rfl, .nil, .nil⟩
  | j + 1, _, _, _, .cons (A := A) r t => by
    obtain ⟨B1, B2, rfl, r1, r2⟩ := Reps.split j t
    exact ⟨A ++ B1, B2, (List.append_assoc ..).symm, .cons r r1, r2⟩
/-- o.append(e) and its like -/
theorem imp_mm (hw : X.w = w) (hK : X.K = K) {m : Mm} {i : Nat} {es : Es} {σ : L2.St} {H : Hp} {Q : VK} (h : tE w K (wE Φ (.mm m i es)) σ H Q) : tBMD X (s_ m.nm) (tVar i) (seqT (trs w K Φ es)) σ H Q := by
  subst hw hK
  obtain ⟨ρ, st, fp, R, Qd, e, o, h, k⟩ := h
  rw [wE] at h
  split at h
  · rename_i d0 hs0
    obtain ⟨v, hv, r, _⟩ := o.at_ i d0 hs0
    obtain ⟨h0, h⟩ := h
    generalize hfi0 : fp i = F0 at r
    -- what all have in common: behind the arguments
    have core : ∀ (a : Addr), v = .ref a → ∀ (rl : V → List V → Hp → VK → Prop), (∀ (d : D) (ys : List D) (rr d' : D) (vs : List V) (H1 : Hp) (F B : List Addr) (Q' : VK), d.tyN = d0.tyN → mchg m d ys = some (rr, d') → Rep X.w X.K H1 (.ref a) d F → F.Nodup → Reps X.w X.K H1 vs ys B → B.Nodup → (∀ x ∈ B, x ∉ F) →
          (∀ rv H2 B' Br, (∀ x u, H1 x = some u → x ∉ F → H2 x = some u) → Rep X.w X.K H2 (.ref a) d' B' → B'.Nodup → (∀ x ∈ B', x ∈ F ∨ x ∈ B) → Rep X.w X.K H2 rv rr Br → Br.Nodup → (∀ x ∈ Br, x ∈ F ∨ x ∈ B) → (∀ x ∈ Br, x ∉ B') → Q' rv H2) → rl (.ref a) vs H1 Q') →
        seqT (trs X.w X.K Φ es) σ H fun xs H2 => rl (.ref a) xs H2 Q := fun a hva rl hrl => by
      subst hva
      refine impVs es e o h fun ys st1 vs H1 fp1 B q x1 o1 rs nd dj => ?_
      split at q
      · rename_i d hs1
        obtain ⟨q1, q2⟩ := q
        cases hm : mchg m d ys with
        | none => simp only [hm] at q2
        | some p =>
          obtain ⟨rr, d'⟩ := p
          simp only [hm] at q2
          obtain ⟨v1, hv1, r1, nd1⟩ := o1.at_ i _ hs1
          rw [hv] at hv1
          cases hv1
          exact hrl d ys rr d' vs H1 (fp1 i) B Q q1 hm r1 nd1 rs nd (fun x hx z => dj x hx ⟨i, z⟩) fun rv H2 B' Br g1 g2 g3 g4 g5 g6 g7 g8 => mm_end e o x1 o1 hs1 hv dj g1 g2 g3 g4 g5 g6 g7 g8 q2 k
      · exact q.elim
    unfold mmOk at h0
    split at h0
    · cases r with
      | @lst a vs0 ds0 B0 e0 rs0 =>
        refine ⟨_, hv, "list", "list.append", _, PySem.F.plainAttrs_list, PySem.F.slot_list_append, PySem.F.type_list_append, mt_append, ty_lst e0, core a rfl _ fun d ys rr d' vs H1 F B Q' _ hm r1 nd1 rs nd dj q => ?_⟩
        obtain ⟨xs, y, rfl, rfl, hlt, rfl, rfl⟩ := mchg_append hm
        · cases rs with
          | @cons vy _ _ _ By _ ry rt =>
            cases rt
            rw [List.append_nil] at nd dj q
            cases r1 with
            | @lst _ vs1 _ B1 e1 rs1 =>
              have hay : a ∉ By := fun z => dj a z List.mem_cons_self
              obtain ⟨na, nB1⟩ := List.nodup_cons.mp nd1
              have sy := lst_stay (vs' := vs1 ++ [vy]) e1
              refine ⟨a, vs1, vy, rfl, rfl, e1, by rw [rs1.length]; exact Nat.lt_of_lt_of_le hlt lim_line, ?_⟩
              have rs2 := rs1.stay sy fun x hx z => na (by rw [← z]; exact hx)
              have ry2 := ry.stay sy fun x hx z => hay (by rw [← z]; exact hx)
              refine q .non _ (a :: (B1 ++ By)) [] (lst_keep List.mem_cons_self) (.lst upd_same (Reps.snoc ry2 rs2)) ?_ (fun x hx => ?_) .non List.nodup_nil (fun _ z => nomatch z) (fun _ z => nomatch z)
              · refine List.nodup_cons.mpr ⟨fun z => ?_, ?_⟩
                · rcases List.mem_append.mp z with z | z
                  · exact na z
                  · exact hay z
                · rw [List.nodup_append]
                  exact ⟨nB1, nd, fun x hx y hy z => dj y hy (by rw [← z]; exact List.mem_cons_of_mem _ hx)⟩
              · rcases List.mem_cons.mp hx with rfl | hx
                · exact .inl List.mem_cons_self
                · rcases List.mem_append.mp hx with hx | hx
                  · exact .inl (List.mem_cons_of_mem _ hx)
                  · exact .inr hx
    · cases r with
      | @lst a vs0 ds0 B0 e0 rs0 =>
        refine ⟨_, hv, "list", "list.pop", _, PySem.F.plainAttrs_list, PySem.F.slot_list_pop, PySem.F.type_list_pop, mt_popAt, ty_lst e0, core a rfl _ fun d ys rr d' vs H1 F B Q' hty hm r1 nd1 rs nd dj q => ?_⟩
        obtain ⟨xs, i, j, rfl, rfl, hxl, hj, hy, rfl⟩ := mchg_pop1 hty hm
        cases rs with
        | cons ri rt =>
          cases ri
          cases rt
          cases r1 with
          | @lst _ vs1 _ B1 e1 rs1 =>
            obtain ⟨na, nB1⟩ := List.nodup_cons.mp nd1
            have hjl := ixZ_lt hj
            have hlen := rs1.length
            obtain ⟨hb1, hb2, hb3⟩ := pop_ix hxl hj
            -- the item, what is ahead of it, what is behind it
            obtain ⟨C1, C2, rfl, s1, s2⟩ := Reps.split j rs1
            have hjv : j < vs1.length := by omega
            rw [List.drop_eq_getElem_cons hjv, List.drop_eq_getElem_cons hjl] at s2
            have ey : xs[j] = rr := by
              obtain ⟨_, z⟩ := List.getElem?_eq_some_iff.mp hy
              exact z
            rw [ey] at s2
            cases s2 with
            | @cons vy _ _ _ Ay A2 ry rt =>
              have sy := lst_stay (vs' := vs1.eraseIdx j) e1
              have hsz := (I_len rs1 : vs1.length = xs.length)
              refine ⟨a, vs1, i, j, vs1[j], rfl, rfl, e1, hb1, hb2, by rw [hsz]; exact hb3, List.getElem?_eq_getElem hjv, ?_⟩
              have naM : ∀ x, x ∈ C1 ∨ x ∈ Ay ∨ x ∈ A2 → x ≠ a := fun x hx z => na (by
                rw [← z]
                rcases hx with hx | hx | hx
                · exact List.mem_append_left _ hx
                · exact List.mem_append_right _ (List.mem_append_left _ hx)
                · exact List.mem_append_right _ (List.mem_append_right _ hx))
              have t1 := s1.stay sy fun x hx => naM x (.inl hx)
              have t2 := rt.stay sy fun x hx => naM x (.inr (.inr hx))
              have t3 := ry.stay sy fun x hx => naM x (.inr (.inl hx))
              have ndA := List.nodup_append.mp nB1
              have ndB := List.nodup_append.mp ndA.2.1
              have he : Reps X.w X.K (upd H1 a (.lst (vs1.eraseIdx j))) (vs1.eraseIdx j) (xs.eraseIdx j) (C1 ++ A2) := by
                rw [List.eraseIdx_eq_take_drop_succ, List.eraseIdx_eq_take_drop_succ]
                rw [← List.eraseIdx_eq_take_drop_succ (l := vs1)]
                have := t1.append t2
                rw [← List.eraseIdx_eq_take_drop_succ] at this
                exact this
              refine q _ _ (a :: (C1 ++ A2)) Ay (lst_keep List.mem_cons_self) (.lst upd_same he) ?_ (fun x hx => ?_) t3 ndB.1 (fun x hx => .inl (List.mem_cons_of_mem _ (List.mem_append_right _ (List.mem_append_left _ hx)))) (fun x hx z => ?_)
              · refine List.nodup_cons.mpr ⟨fun z => ?_, ?_⟩
                · rcases List.mem_append.mp z with z | z
                  · exact naM a (.inl z) rfl
                  · exact naM a (.inr (.inr z)) rfl
                · rw [List.nodup_append]
                  exact ⟨ndA.1, ndB.2.1, fun x hx y hy => ndA.2.2 x hx y (List.mem_append_right _ hy)⟩
              · rcases List.mem_cons.mp hx with rfl | hx
                · exact .inl List.mem_cons_self
                · rcases List.mem_append.mp hx with hx | hx
                  · exact .inl (List.mem_cons_of_mem _ (List.mem_append_left _ hx))
                  · exact .inl (List.mem_cons_of_mem _ (List.mem_append_right _ (List.mem_append_right _ hx)))
              · rcases List.mem_cons.mp z with rfl | z
                · exact naM x (.inr (.inl hx)) rfl
                · rcases List.mem_append.mp z with z | z
                  · exact ndA.2.2 x z x (List.mem_append_left _ hx) rfl
                  · exact ndB.2.2 x hx x z rfl
    · cases r with
      | @lst a vs0 ds0 B0 e0 rs0 =>
        refine ⟨_, hv, "list", "list.insert", _, PySem.F.plainAttrs_list, PySem.F.slot_list_insert, PySem.F.type_list_insert, mt_ins, ty_lst e0, core a rfl _ fun d ys rr d' vs H1 F B Q' _ hm r1 nd1 rs nd dj q => ?_⟩
        obtain ⟨xs, i, y, rfl, rfl, hlt, rfl, rfl⟩ := mchg_insert hm
        · cases rs with
          | cons ri rs =>
          cases ri
          cases rs with
          | @cons vy _ _ _ By _ ry rt =>
            cases rt
            rw [List.nil_append, List.append_nil] at nd dj q
            cases r1 with
            | @lst _ vs1 _ B1 e1 rs1 =>
              have hay : a ∉ By := fun z => dj a z List.mem_cons_self
              obtain ⟨na, nB1⟩ := List.nodup_cons.mp nd1
              have sy := lst_stay (vs' := vs1.take i.toNat ++ [vy] ++ vs1.drop i.toNat) e1
              refine ⟨a, vs1, i, vy, rfl, rfl, e1, by rw [rs1.length]; exact Nat.lt_of_lt_of_le hlt.1 lim_line, hlt.2.1, by omega, ?_⟩
              obtain ⟨C1, C2, rfl, s1, s2⟩ := Reps.split i.toNat rs1
              have t1 := s1.stay sy fun x hx z => na (by rw [← z]; exact List.mem_append_left _ hx)
              have t2 := s2.stay sy fun x hx z => na (by rw [← z]; exact List.mem_append_right _ hx)
              have ry2 := ry.stay sy fun x hx z => hay (by rw [← z]; exact hx)
              have ndA := List.nodup_append.mp nB1
              refine q .non _ (a :: (C1 ++ By ++ C2)) [] (lst_keep List.mem_cons_self) (.lst upd_same ((Reps.snoc ry2 t1).append t2)) ?_ (fun x hx => ?_) .non List.nodup_nil (fun _ z => nomatch z) (fun _ z => nomatch z)
              · refine List.nodup_cons.mpr ⟨fun z => ?_, ?_⟩
                · rcases List.mem_append.mp z with z | z
                  · rcases List.mem_append.mp z with z | z
                    · exact na (List.mem_append_left _ z)
                    · exact hay z
                  · exact na (List.mem_append_right _ z)
                · rw [List.nodup_append, List.nodup_append]
                  refine ⟨⟨ndA.1, nd, fun x hx y hy z => dj y hy (by rw [← z]; exact List.mem_cons_of_mem _ (List.mem_append_left _ hx))⟩, ndA.2.1, fun x hx y hy z => ?_⟩
                  subst z
                  rcases List.mem_append.mp hx with hx | hx
                  · exact ndA.2.2 x hx x hy rfl
                  · exact dj x hx (List.mem_cons_of_mem _ (List.mem_append_right _ hy))
              · rcases List.mem_cons.mp hx with rfl | hx
                · exact .inl List.mem_cons_self
                · rcases List.mem_append.mp hx with hx | hx
                  · rcases List.mem_append.mp hx with hx | hx
                    · exact .inl (List.mem_cons_of_mem _ (List.mem_append_left _ hx))
                    · exact .inr hx
                  · exact .inl (List.mem_cons_of_mem _ (List.mem_append_right _ hx))
    · cases r with
      | @lst a vs0 ds0 B0 e0 rs0 =>
        refine ⟨_, hv, "list", "list.extend", _, PySem.F.plainAttrs_list, PySem.F.slot_list_extend, PySem.F.type_list_extend, mt_extend, ty_lst e0, core a rfl _ fun d ys rr d' vs H1 F B Q' _ hm r1 nd1 rs nd dj q => ?_⟩
        obtain ⟨xs, zs, rfl, rfl, hlt, rfl, rfl⟩ := mchg_extend hm
        · cases rs with
          | @cons vy _ _ _ By _ ry rt =>
            cases rt
            rw [List.append_nil] at nd dj q
            cases ry with
            | @lst b vs2 _ B2 e2 rs2 =>
            cases r1 with
            | @lst _ vs1 _ B1 e1 rs1 =>
              have hba : b ≠ a := fun z => dj b List.mem_cons_self (by rw [z]; exact List.mem_cons_self)
              have ha2 : a ∉ B2 := fun z => dj a (List.mem_cons_of_mem _ z) List.mem_cons_self
              obtain ⟨na, nB1⟩ := List.nodup_cons.mp nd1
              obtain ⟨nb, nB2⟩ := List.nodup_cons.mp nd
              have sy := lst_stay (vs' := vs1 ++ vs2) e1
              refine ⟨a, b, vs1, vs2, rfl, rfl, e1, e2, by rw [rs1.length, rs2.length]; exact Nat.le_trans hlt lim_line, ?_⟩
              have t1 := rs1.stay sy fun x hx z => na (by rw [← z]; exact hx)
              have t2 := rs2.stay sy fun x hx z => ha2 (by rw [← z]; exact hx)
              refine q .non _ (a :: (B1 ++ B2)) [] (lst_keep List.mem_cons_self) (.lst upd_same (t1.append t2)) ?_ (fun x hx => ?_) .non List.nodup_nil (fun _ z => nomatch z) (fun _ z => nomatch z)
              · refine List.nodup_cons.mpr ⟨fun z => ?_, ?_⟩
                · rcases List.mem_append.mp z with z | z
                  · exact na z
                  · exact ha2 z
                · rw [List.nodup_append]
                  exact ⟨nB1, nB2, fun x hx y hy z => dj y (List.mem_cons_of_mem _ hy) (by rw [← z]; exact List.mem_cons_of_mem _ hx)⟩
              · rcases List.mem_cons.mp hx with rfl | hx
                · exact .inl List.mem_cons_self
                · rcases List.mem_append.mp hx with hx | hx
                  · exact .inl (List.mem_cons_of_mem _ hx)
                  · exact .inr (List.mem_cons_of_mem _ hx)
    · obtain ⟨a, rfl⟩ : ∃ a, v = .ref a := by cases r <;> exact ⟨_, rfl⟩
      refine ⟨_, hv, "dict", "dict.pop", _, PySem.F.plainAttrs_dict, PySem.F.slot_dict_pop, PySem.F.type_dict_pop, mt_popK, ty_dct r, core a rfl _ fun d ys rr d' vs H1 F B Q' hty hm r1 nd1 rs nd dj q => ?_⟩
      obtain ⟨kvs, kd, rfl, rfl, hk0, hfl, hdg, rfl⟩ := mchg_popD hty hm
      obtain ⟨f1, f2⟩ := flat_kd hfl
      obtain ⟨key, rfl⟩ := keyD_of hk0
      obtain ⟨kv, B', e1, rk, rfl⟩ := dK_at r1 f1
      cases rs with
      | cons ry rt =>
        cases rt
        have ek := keyD_rep ry
        subst ek
        have hB : RepK X.w X.K H1 kv kvs [] := rk.nil_of f2
        rcases hB.find key with ⟨q1, _⟩ | ⟨dv, vv, A', q1, q2, q3, q4⟩
        · rw [q1] at hdg; cases hdg
        · rw [hdg] at q1
          cases q1
          have hA : A' = [] := by cases A' with | nil => rfl | cons x _ => cases q4 x List.mem_cons_self
          subst hA
          have sy : Stay (fun x => x ≠ a) H1 (upd H1 a (.dK (dropK kv key))) := fun x u hx c => by
            by_cases hxa : x = a
            · subst hxa; rw [e1] at hx; cases hx; exact absurd rfl (c trivial)
            · rw [upd_ne hxa]; exact hx
          refine ⟨a, kv, key, vv, rfl, rfl, e1, q2, ?_⟩
          refine q vv _ [a] [] (lst_keep List.mem_cons_self) (.dK upd_same ((hB.dropR f2).stay sy fun x hx => nomatch hx)) (by simp) (fun x hx => .inl (by rw [List.mem_singleton.mp hx]; exact List.mem_cons_self)) (q3.stay sy fun x hx => nomatch hx) List.nodup_nil (fun _ z => nomatch z) (fun _ z => nomatch z)
    · obtain ⟨a, rfl⟩ : ∃ a, v = .ref a := by cases r <;> exact ⟨_, rfl⟩
      refine ⟨_, hv, "dict", "dict.update", _, PySem.F.plainAttrs_dict, PySem.F.slot_dict_update, PySem.F.type_dict_update, mt_updK, ty_dct r, core a rfl _ fun d ys rr d' vs H1 F B Q' hty hm r1 nd1 rs nd dj q => ?_⟩
      obtain ⟨xs, zs, rfl, rfl, hf1, hf2, hlt, rfl, rfl⟩ := mchg_update hm
      obtain ⟨f1, f2⟩ := flat_kd hf1
      obtain ⟨g1, g2⟩ := flat_kd hf2
      obtain ⟨kv, B', e1, rk, rfl⟩ := dK_at r1 f1
      cases rs with
      | @cons vy _ _ _ By _ ry rt =>
        cases rt
        rw [List.append_nil] at nd dj q
        obtain ⟨b, rfl⟩ : ∃ b, vy = .ref b := by cases ry <;> exact ⟨_, rfl⟩
        obtain ⟨kv2, B2, e2, rk2, rfl⟩ := dK_at ry g1
        have hab : a ≠ b := fun z => dj b List.mem_cons_self (by rw [← z]; exact List.mem_cons_self)
        have hB : RepK X.w X.K H1 kv xs [] := rk.nil_of f2
        have hB2 : RepK X.w X.K H1 kv2 zs [] := rk2.nil_of g2
        have sy : Stay (fun x => x ≠ a) H1 (upd H1 a (.dK (mergeK kv kv2))) := fun x u hx c => by
          by_cases hxa : x = a
          · subst hxa; rw [e1] at hx; cases hx; exact absurd rfl (c trivial)
          · rw [upd_ne hxa]; exact hx
        refine ⟨a, b, kv, kv2, rfl, rfl, hab, e1, e2, by rw [hB.length, hB2.length]; exact Nat.le_trans hlt lim_line, ?_⟩
        intro hnd
        have hm := (RepK.merge hB2 rfl hB hnd).1
        exact q .non _ [a] [] (lst_keep List.mem_cons_self) (.dK upd_same (hm.stay sy fun x hx => nomatch hx)) (by simp) (fun x hx => .inl (by rw [List.mem_singleton.mp hx]; exact List.mem_cons_self)) .non List.nodup_nil (fun _ z => nomatch z) (fun _ z => nomatch z)
    · cases h0
  · exact h.elim
end
end Dl
/-! DlCall: calls of defs. -/
namespace Dl
open PySem PySem.Spec PyProof.Rows L2
variable [Tab]
/-- the argument that stands in slot i and may be changed -/
def slotArg : List Bool → Es → Nat → Option Nat
  | true :: bs, .nm i' es, i => if i = i' then some 0 else (slotArg bs es i).map (· + 1)
  | false :: bs, .nm _ es, i => (slotArg bs es i).map (· + 1)
  | _ :: bs, .cons _ es, i => (slotArg bs es i).map (· + 1)
  | _, _, _ => none
theorem slot_mem : ∀ {io : List Bool} {es : Es} {is js : List Nat}, ioSlots io es = some (is, js) → ∀ {i j : Nat}, slotArg io es i = some j → i ∈ is ∧ io[j]? = some true
  | [], .nil, _, _, _, i, j, h => by simp [slotArg] at h
  | [], .cons _ _, _, _, hs, _, _, _ => by simp [ioSlots] at hs
  | [], .nm _ _, _, _, hs, _, _, _ => by simp [ioSlots] at hs
  | _, .pl _ _, _, _, hs, _, _, _ => by simp [ioSlots] at hs
  | _, .tp _ _, _, _, hs, _, _, _ => by simp [ioSlots] at hs
  | _, .at _ _ _, _, _, hs, _, _, _ => by simp [ioSlots] at hs
  | _ :: _, .nil, _, _, hs, _, _, _ => by simp [ioSlots] at hs
  | true :: bs, .cons _ es, _, _, hs, _, _, _ => by simp [ioSlots] at hs
  | false :: bs, .cons _ es, is, js, hs, i, j, h => by
    simp only [ioSlots] at hs
    simp only [slotArg, Option.map_eq_some_iff] at h
    obtain ⟨j', h, rfl⟩ := h
    have := slot_mem hs h
    exact ⟨this.1, by simpa using this.2⟩
  | false :: bs, .nm _ es, is, js, hs, i, j, h => by
    simp only [ioSlots, Option.map_eq_some_iff, Prod.mk.injEq] at hs
    obtain ⟨p, hs, rfl, rfl⟩ := hs
    simp only [slotArg, Option.map_eq_some_iff] at h
    obtain ⟨j', h, rfl⟩ := h
    have := slot_mem hs h
    exact ⟨this.1, by simpa using this.2⟩
  | true :: bs, .nm i' es, is, js, hs, i, j, h => by
    simp only [ioSlots, Option.map_eq_some_iff, Prod.mk.injEq] at hs
    obtain ⟨p, hs, rfl, rfl⟩ := hs
    simp only [slotArg] at h
    split at h
    · rename_i e; cases h; subst e; exact ⟨List.mem_cons_self, rfl⟩
    · obtain ⟨j', g, rfl⟩ := Option.map_eq_some_iff.mp h
      have := slot_mem hs g
      exact ⟨List.mem_cons_of_mem _ this.1, by simpa using this.2⟩
theorem slot_of : ∀ {io : List Bool} {es : Es} {is js : List Nat}, ioSlots io es = some (is, js) → is.Nodup → ∀ {j : Nat}, io[j]? = some true → ∃ i, slotArg io es i = some j
  | [], .nil, _, _, _, _, j, h => by simp at h
  | [], .cons _ _, _, _, hs, _, _, _ => by simp [ioSlots] at hs
  | [], .nm _ _, _, _, hs, _, _, _ => by simp [ioSlots] at hs
  | _, .pl _ _, _, _, hs, _, _, _ => by simp [ioSlots] at hs
  | _, .tp _ _, _, _, hs, _, _, _ => by simp [ioSlots] at hs
  | _, .at _ _ _, _, _, hs, _, _, _ => by simp [ioSlots] at hs
  | _ :: _, .nil, _, _, hs, _, _, _ => by simp [ioSlots] at hs
  | true :: bs, .cons _ es, _, _, hs, _, _, _ => by simp [ioSlots] at hs
  | false :: bs, .cons _ es, is, js, hs, nd, j, h => by
    simp only [ioSlots] at hs
    cases j with
    | zero => simp at h
    | succ j =>
      obtain ⟨i, hi⟩ := slot_of hs nd (j := j) (by simpa using h)
      exact ⟨i, by simp [slotArg, hi]⟩
  | false :: bs, .nm _ es, is, js, hs, nd, j, h => by
    simp only [ioSlots, Option.map_eq_some_iff, Prod.mk.injEq] at hs
    obtain ⟨p, hs, rfl, rfl⟩ := hs
    cases j with
    | zero => simp at h
    | succ j =>
      obtain ⟨i, hi⟩ := slot_of hs nd (j := j) (by simpa using h)
      exact ⟨i, by simp [slotArg, hi]⟩
  | true :: bs, .nm i' es, is, js, hs, nd, j, h => by
    simp only [ioSlots, Option.map_eq_some_iff, Prod.mk.injEq] at hs
    obtain ⟨p, hs, rfl, rfl⟩ := hs
    cases j with
    | zero => exact ⟨i', by simp [slotArg]⟩
    | succ j =>
      obtain ⟨i, hi⟩ := slot_of hs (List.nodup_cons.mp nd).2 (j := j) (by simpa using h)
      have hne : i ≠ i' := fun z => (List.nodup_cons.mp nd).1 (by rw [← z]; exact (slot_mem hs hi).1)
      exact ⟨i, by simp [slotArg, hi, hne]⟩
theorem io_noPl : ∀ {io : List Bool} {es : Es} {p : List Nat × List Nat}, ioSlots io es = some p → es.noPl = true
  | [], .nil, _, _ => rfl
  | [], .cons _ _, _, hs => by simp [ioSlots] at hs
  | [], .nm _ _, _, hs => by simp [ioSlots] at hs
  | _, .pl _ _, _, hs => by simp [ioSlots] at hs
  | _, .tp _ _, _, hs => by simp [ioSlots] at hs
  | _, .at _ _ _, _, hs => by simp [ioSlots] at hs
  | _ :: _, .nil, _, hs => by simp [ioSlots] at hs
  | true :: bs, .cons _ es, _, hs => by simp [ioSlots] at hs
  | false :: bs, .cons _ es, p, hs => by
    simp only [ioSlots] at hs
    simpa [Es.noPl] using io_noPl hs
  | true :: bs, .nm i es, p, hs => by
    simp only [ioSlots, Option.map_eq_some_iff] at hs
    obtain ⟨p', hs, _⟩ := hs
    simpa [Es.noPl] using io_noPl hs
  | false :: bs, .nm i es, p, hs => by
    simp only [ioSlots, Option.map_eq_some_iff] at hs
    obtain ⟨p', hs, _⟩ := hs
    simpa [Es.noPl] using io_noPl hs
theorem slot_inj : ∀ {io : List Bool} {es : Es} {i i' j : Nat}, slotArg io es i = some j → slotArg io es i' = some j → i = i'
  | [], _, _, _, _, h, _ => by simp [slotArg] at h
  | _ :: _, .nil, _, _, _, h, _ => by simp [slotArg] at h
  | _ :: _, .pl _ _, _, _, _, h, _ => by simp [slotArg] at h
  | _ :: _, .tp _ _, _, _, _, h, _ => by simp [slotArg] at h
  | _ :: _, .at _ _ _, _, _, _, h, _ => by simp [slotArg] at h
  | b :: bs, .cons _ es, i, i', j, h, h' => by
    have h1 : (slotArg bs es i).map (· + 1) = some j := by cases b <;> simpa [slotArg] using h
    have h2 : (slotArg bs es i').map (· + 1) = some j := by cases b <;> simpa [slotArg] using h'
    obtain ⟨j1, g1, rfl⟩ := Option.map_eq_some_iff.mp h1
    obtain ⟨j2, g2, e⟩ := Option.map_eq_some_iff.mp h2
    obtain rfl : j2 = j1 := by omega
    exact slot_inj g1 g2
  | false :: bs, .nm _ es, i, i', j, h, h' => by
    have h1 : (slotArg bs es i).map (· + 1) = some j := by simpa [slotArg] using h
    have h2 : (slotArg bs es i').map (· + 1) = some j := by simpa [slotArg] using h'
    obtain ⟨j1, g1, rfl⟩ := Option.map_eq_some_iff.mp h1
    obtain ⟨j2, g2, e⟩ := Option.map_eq_some_iff.mp h2
    obtain rfl : j2 = j1 := by omega
    exact slot_inj g1 g2
  | true :: bs, .nm k es, i, i', j, h, h' => by
    simp only [slotArg] at h h'
    split at h
    · cases h
      split at h'
      · rename_i e1 e2; rw [e1, e2]
      · obtain ⟨_, _, z⟩ := Option.map_eq_some_iff.mp h'; omega
    · split at h'
      · cases h'
        obtain ⟨_, _, z⟩ := Option.map_eq_some_iff.mp h; omega
      · obtain ⟨j1, g1, rfl⟩ := Option.map_eq_some_iff.mp h
        obtain ⟨j2, g2, e⟩ := Option.map_eq_some_iff.mp h'
        obtain rfl : j2 = j1 := by omega
        exact slot_inj g1 g2
theorem put_len : ∀ {io : List Bool} {es : Es} {ds : List D} {st : DS}, (putIO io es ds st).length = st.length
  | true :: bs, .nm i es, d :: ds, st => by rw [putIO, put_len, List.length_set]
  | false :: bs, .nm i es, d :: ds, st => by rw [putIO, put_len]; simp
  | b :: bs, .cons _ es, d :: ds, st => by rw [putIO, put_len]
  | [], _, _, _ => by simp [putIO]
  | _ :: _, .nil, _, _ => by simp [putIO]
  | _ :: _, .pl _ _, _, _ => by simp [putIO]
  | _ :: _, .tp _ _, _, _ => by simp [putIO]
  | _ :: _, .at _ _ _, _, _ => by simp [putIO]
  | true :: _, .nm _ _, [], _ => by simp [putIO]
  | false :: _, .nm _ _, [], _ => by simp [putIO]
  | _ :: _, .cons _ _, [], _ => by simp [putIO]
theorem put_off : ∀ {io : List Bool} {es : Es} {ds : List D} {st : DS} {i : Nat}, slotArg io es i = none → (putIO io es ds st)[i]? = st[i]?
  | true :: bs, .nm k es, d :: ds, st, i, h => by
    simp only [slotArg] at h
    split at h
    · cases h
    · rename_i hne
      rw [putIO, put_off (by simpa using h), get_set_ne (Ne.symm hne)]
  | false :: bs, .nm k es, d :: ds, st, i, h => by
    have h' : slotArg bs es i = none := by simpa [slotArg] using h
    rw [putIO, put_off h']; simp
  | b :: bs, .cons _ es, d :: ds, st, i, h => by
    have h' : slotArg bs es i = none := by cases b <;> simpa [slotArg] using h
    rw [putIO, put_off h']
  | [], _, _, _, _, _ => by simp [putIO]
  | _ :: _, .nil, _, _, _, _ => by simp [putIO]
  | _ :: _, .pl _ _, _, _, _, _ => by simp [putIO]
  | _ :: _, .tp _ _, _, _, _, _ => by simp [putIO]
  | _ :: _, .at _ _ _, _, _, _, _ => by simp [putIO]
  | true :: _, .nm _ _, [], _, _, _ => by simp [putIO]
  | false :: _, .nm _ _, [], _, _, _ => by simp [putIO]
  | _ :: _, .cons _ _, [], _, _, _ => by simp [putIO]
theorem put_at : ∀ {io : List Bool} {es : Es} {is js : List Nat}, ioSlots io es = some (is, js) → is.Nodup → ∀ {ds : List D} {st : DS} {i j : Nat} {d : D}, slotArg io es i = some j → ds[j]? = some d → i < st.length → (putIO io es ds st)[i]? = some (some d)
  | [], _, _, _, _, _, _, _, _, _, _, h, _, _ => by simp [slotArg] at h
  | _ :: _, .nil, _, _, _, _, _, _, _, _, _, h, _, _ => by simp [slotArg] at h
  | _ :: _, .pl _ _, _, _, _, _, _, _, _, _, _, h, _, _ => by simp [slotArg] at h
  | _ :: _, .tp _ _, _, _, _, _, _, _, _, _, _, h, _, _ => by simp [slotArg] at h
  | _ :: _, .at _ _ _, _, _, _, _, _, _, _, _, _, h, _, _ => by simp [slotArg] at h
  | true :: _, .cons _ _, _, _, hs, _, _, _, _, _, _, _, _, _ => by simp [ioSlots] at hs
  | false :: bs, .cons _ es, is, js, hs, nd, ds, st, i, j, d, h, hd, hi => by
    simp only [ioSlots] at hs
    obtain ⟨j', g, rfl⟩ := Option.map_eq_some_iff.mp (show (slotArg bs es i).map (· + 1) = some j by simpa [slotArg] using h)
    cases ds with
    | nil => simp at hd
    | cons d0 ds => rw [putIO]; exact put_at hs nd g (by simpa using hd) hi
  | false :: bs, .nm _ es, is, js, hs, nd, ds, st, i, j, d, h, hd, hi => by
    simp only [ioSlots, Option.map_eq_some_iff, Prod.mk.injEq] at hs
    obtain ⟨p, hs, rfl, rfl⟩ := hs
    obtain ⟨j', g, rfl⟩ := Option.map_eq_some_iff.mp (show (slotArg bs es i).map (· + 1) = some j by simpa [slotArg] using h)
    cases ds with
    | nil => simp at hd
    | cons d0 ds => rw [putIO]; exact put_at hs nd g (by simpa using hd) hi; simp
  | true :: bs, .nm k es, is, js, hs, nd, ds, st, i, j, d, h, hd, hi => by
    simp only [ioSlots, Option.map_eq_some_iff, Prod.mk.injEq] at hs
    obtain ⟨p, hs, rfl, rfl⟩ := hs
    obtain ⟨nk, nd'⟩ := List.nodup_cons.mp nd
    cases ds with
    | nil => simp at hd
    | cons d0 ds =>
      simp only [slotArg] at h
      split at h
      · rename_i e
        cases h
        subst e
        have hn : slotArg bs es i = none := by
          cases q : slotArg bs es i with
          | none => rfl
          | some z => exact absurd (slot_mem hs q).1 nk
        rw [putIO, put_off hn, get_set_self hi]
        simpa using hd
      · obtain ⟨j', g, rfl⟩ := Option.map_eq_some_iff.mp h
        rw [putIO]
        exact put_at hs nd' g (by simpa using hd) (by rw [List.length_set]; exact hi)
section
variable {w : World} {K : PySem.W.Frag} {Φ : Phi} {X : Cx} {R T : Addr → Prop} {H : Hp} {σ : L2.St} {ρ st : DS} {fp : Fp}
/-- the arguments with the addresses of what can be changed in them -/
theorem args_aux (o : Own w K R H σ st fp) (e : Env w K R H σ ρ) : ∀ {io : List Bool} {es : Es} {vs : List V} {ds : List D} {is js : List Nat}, ioSlots io es = some (is, js) → (∀ i ∈ is, isRw st i = true) → OpOk w K T H σ ρ st es vs ds →
    ∃ bs : List (List Addr), vs.length = io.length ∧ ds.length = io.length ∧ bs.length = io.length ∧ (∀ (j : Nat) (v : V) (d : D) (b : List Addr), vs[j]? = some v → ds[j]? = some d → bs[j]? = some b → Rep w K H v d b) ∧
      (∀ (j : Nat) (b : List Addr), bs[j]? = some b → io[j]? = some false → (∀ x ∈ b, T x) ∨ (∀ x ∈ b, R x) ∨ ∃ i ∈ js, i ≠ tabI ∧ b = fp i) ∧
      (∀ (j : Nat) (b : List Addr) (i : Nat), bs[j]? = some b → slotArg io es i = some j → b = fp i ∧ (∃ v, vs[j]? = some v ∧ σ[i]? = some (some v)))
  | [], .nil, _, _, _, _, _, _, ok => by
    cases ok
    exact ⟨[], rfl, rfl, rfl, fun j v d b h => by simp at h, fun j b h => by simp at h, fun j b i h => by simp at h⟩
  | [], .cons _ _, _, _, _, _, hs, _, _ => by simp [ioSlots] at hs
  | [], .nm _ _, _, _, _, _, hs, _, _ => by simp [ioSlots] at hs
  | _, .pl _ _, _, _, _, _, hs, _, _ => by simp [ioSlots] at hs
  | _, .tp _ _, _, _, _, _, hs, _, _ => by simp [ioSlots] at hs
  | _, .at _ _ _, _, _, _, _, hs, _, _ => by simp [ioSlots] at hs
  | _ :: _, .nil, _, _, _, _, hs, _, _ => by simp [ioSlots] at hs
  | true :: bs, .cons _ es, _, _, _, _, hs, _, _ => by simp [ioSlots] at hs
  | false :: io, .cons _ es, _, _, is, js, hs, hr, ok => by
    simp only [ioSlots] at hs
    cases ok with
    | @cons _ _ v vs d ds B r hB ok =>
      obtain ⟨bs, l1, l2, l3, f1, f2, f3⟩ := args_aux o e hs hr ok
      refine ⟨B :: bs, by simp [l1], by simp [l2], by simp [l3], fun j v' d' b h1 h2 h3 => ?_, fun j b h1 h2 => ?_, fun j b i h1 h2 => ?_⟩
      · cases j with
        | zero => simp at h1 h2 h3; subst h1 h2 h3; exact r
        | succ j => exact f1 j v' d' b (by simpa using h1) (by simpa using h2) (by simpa using h3)
      · cases j with
        | zero => simp at h1; subst h1; exact .inl hB
        | succ j => exact f2 j b (by simpa using h1) (by simpa using h2)
      · obtain ⟨j', g, rfl⟩ := Option.map_eq_some_iff.mp (show (slotArg io es i).map (· + 1) = some j by simpa [slotArg] using h2)
        exact f3 j' b i (by simpa using h1) g
  | false :: io, .nm k es, _, _, is, js, hs, hr, ok => by
    simp only [ioSlots, Option.map_eq_some_iff, Prod.mk.injEq] at hs
    obtain ⟨p, hs, rfl, rfl⟩ := hs
    cases ok with
    | @nm _ _ v vs d ds hv hp ok =>
      obtain ⟨bs, l1, l2, l3, f1, f2, f3⟩ := args_aux o e hs hr ok
      obtain ⟨v', B, hv', r, cl⟩ := peek_of o e hp
      rw [hv] at hv'
      cases hv'
      refine ⟨B :: bs, by simp [l1], by simp [l2], by simp [l3], fun j v' d' b h1 h2 h3 => ?_, fun j b h1 h2 => ?_, fun j b i h1 h2 => ?_⟩
      · cases j with
        | zero => simp at h1 h2 h3; subst h1 h2 h3; exact r
        | succ j => exact f1 j v' d' b (by simpa using h1) (by simpa using h2) (by simpa using h3)
      · cases j with
        | zero =>
          simp at h1; subst h1
          rcases cl with ⟨hcl, cl⟩ | cl
          · exact .inr (.inr ⟨k, List.mem_cons_self, o.ne hcl, cl⟩)
          · exact .inr (.inl cl)
        | succ j =>
          rcases f2 j b (by simpa using h1) (by simpa using h2) with z | z | ⟨i, hi, z⟩
          · exact .inl z
          · exact .inr (.inl z)
          · exact .inr (.inr ⟨i, List.mem_cons_of_mem _ hi, z⟩)
      · obtain ⟨j', g, rfl⟩ := Option.map_eq_some_iff.mp (show (slotArg io es i).map (· + 1) = some j by simpa [slotArg] using h2)
        exact f3 j' b i (by simpa using h1) g
  | true :: io, .nm k es, _, _, is, js, hs, hr, ok => by
    simp only [ioSlots, Option.map_eq_some_iff, Prod.mk.injEq] at hs
    obtain ⟨p, hs, rfl, rfl⟩ := hs
    cases ok with
    | @nm _ _ v vs d ds hv hp ok =>
      obtain ⟨bs, l1, l2, l3, f1, f2, f3⟩ := args_aux o e hs (fun i hi => hr i (List.mem_cons_of_mem _ hi)) ok
      have hrw := hr k List.mem_cons_self
      have hst : st[k]? = some (some d) := by
        unfold isRw at hrw
        cases q : st[k]? with
        | none => rw [q] at hrw; cases hrw
        | some u =>
          rw [q] at hrw
          cases u with
          | none => cases hrw
          | some d' => unfold peek at hp; rw [q] at hp; cases hp; rfl
      obtain ⟨v', hv', r, nd⟩ := o.at_ k d hst
      rw [hv] at hv'
      cases hv'
      refine ⟨fp k :: bs, by simp [l1], by simp [l2], by simp [l3], fun j v' d' b h1 h2 h3 => ?_, fun j b h1 h2 => ?_, fun j b i h1 h2 => ?_⟩
      · cases j with
        | zero => simp at h1 h2 h3; subst h1 h2 h3; exact r
        | succ j => exact f1 j v' d' b (by simpa using h1) (by simpa using h2) (by simpa using h3)
      · cases j with
        | zero => simp at h2
        | succ j => exact f2 j b (by simpa using h1) (by simpa using h2)
      · simp only [slotArg] at h2
        split at h2
        · rename_i ei
          cases h2
          subst ei
          simp at h1
          exact ⟨h1.symm, v, rfl, hv⟩
        · obtain ⟨j', g, rfl⟩ := Option.map_eq_some_iff.mp h2
          have := f3 j' b i (by simpa using h1) g
          exact ⟨this.1, by simpa using this.2⟩
theorem any_args {io : List Bool} {vs : List V} {ds : List D} {F : List Addr} (br : BRepsA w K H F vs ds) (hl : io.length = ds.length) (hf : io.any id = false) (tc : ∀ x ∈ F, Chg (H x)) (ts : ∀ p ∈ Tab.tt, TabIn H F p.1 p.2) : ∃ bs, Args w K H F io vs ds bs := by
  obtain ⟨bs, h1, h2, h3⟩ : ∃ bs : List (List Addr), bs.length = ds.length ∧ (∀ (j : Nat) (v : V) (d : D) (b : List Addr), vs[j]? = some v → ds[j]? = some d → bs[j]? = some b → Rep w K H v d b) ∧ ∀ (j : Nat) (b : List Addr) (x : Addr), bs[j]? = some b → x ∈ b → x ∉ F := by
    clear hl
    induction br with
    | nil => exact ⟨[], rfl, fun j v d b h => by simp at h, fun j b x h => by simp at h⟩
    | @cons v d _ _ r _ ih =>
      obtain ⟨B, r, n⟩ := r
      obtain ⟨bs, h1, h2, h3⟩ := ih
      refine ⟨B :: bs, by simp [h1], fun j v' d' b g1 g2 g3 => ?_, fun j b x g1 g2 => ?_⟩
      · cases j with
        | zero => simp at g1 g2 g3; subst g1 g2 g3; exact r
        | succ j => exact h2 j v' d' b (by simpa using g1) (by simpa using g2) (by simpa using g3)
      · cases j with
        | zero => simp at g1; subst g1; exact n x g2
        | succ j => exact h3 j b x (by simpa using g1) g2
  have no : ∀ j : Nat, io[j]? = some true → False := fun j hj => by
    have : io.any id = true := List.any_eq_true.mpr ⟨true, List.mem_of_getElem? hj, rfl⟩
    rw [hf] at this; cases this
  exact ⟨bs, ⟨by rw [Paired.length br, hl], hl.symm, by rw [h1, hl], h2, fun j b hj => (no j hj).elim, fun j k b c x _ hj => (no j hj).elim, tc, ts, h3⟩⟩
theorem no_io {io : List Bool} {bs : List (List Addr)} (hf : io.any id = false) {x : Addr} (h : IoSet io bs x) : False := by
  obtain ⟨j, b, hj, _⟩ := h
  have : io.any id = true := List.any_eq_true.mpr ⟨true, List.mem_of_getElem? hj, rfl⟩
  rw [hf] at this; cases this
/-- the tables alone have changed -/
def setT (fp : Fp) (F : List Addr) : Fp := fun i => if i = tabI then F else fp i
theorem setT_mem {F : List Addr} {i : Nat} {y : Addr} (h : y ∈ setT fp F i) : (i = tabI ∧ y ∈ F) ∨ (i ≠ tabI ∧ y ∈ fp i) := by
  unfold setT at h
  split at h
  · rename_i e; exact .inl ⟨e, h⟩
  · rename_i e; exact .inr ⟨e, h⟩
theorem Own.retab {H1 H2 : Hp} {st1 : DS} {fp1 : Fp} {F' B : List Addr} (o1 : Own w K R H1 σ st1 fp1) (e1 : Env w K R H1 σ ρ) (x : Ext (fun x => x ∈ fp1 tabI) H1 H2 (fun x => x ∈ F' ∨ x ∈ B)) (hB : ∀ x ∈ B, x ∉ F') (tc : ∀ x ∈ F', Chg (H2 x)) (ts : ∀ p ∈ Tab.tt, TabIn H2 F' p.1 p.2) :
    Own w K R H2 σ st1 (setT fp1 F') ∧ (∀ x ∈ B, ¬ Mine (setT fp1 F') x) ∧ Ext (Mine fp1) H1 H2 (fun x => Mine (setT fp1 F') x ∨ x ∈ B) := by
  have nt : ∀ {i : Nat} {y : Addr}, i ≠ tabI → y ∈ fp1 i → y ∉ fp1 tabI := fun {i y} hi hy hj => hi (o1.dis i tabI y hy hj)
  have sy : Stay (fun a => a ∉ fp1 tabI) H1 H2 := x.stay fun a hj => o1.tabc a hj
  have bt : setT fp1 F' tabI = F' := if_pos rfl
  have bn : ∀ {i : Nat}, i ≠ tabI → setT fp1 F' i = fp1 i := fun h => if_neg h
  have old : ∀ {i : Nat} {y : Addr}, i ≠ tabI → y ∈ fp1 i → ¬ (y ∈ F' ∨ y ∈ B) := fun {i y} hi hy z => by
    rcases x.from_ y z with z | z
    · exact nt hi hy z
    · exact o1.there ⟨i, hy⟩ z
  refine ⟨⟨o1.len, fun i d e => ?_, fun i j y h1 h2 => ?_, fun i hi h => by rw [bn hi]; exact o1.off i hi h, fun y i hR h => ?_, o1.short, by rw [bt]; exact tc, by rw [bt]; exact ts, fun y u e => let ⟨g1, g2⟩ := o1.base y u e; ⟨g1, x.keep y u g2 (o1.out y tabI g1)⟩⟩, fun y hy ⟨i, h⟩ => ?_, ⟨fun y u e hm => x.keep y u e fun z => hm ⟨_, z⟩, fun y hy => ?_⟩⟩
  · obtain ⟨v, g1, g2, g3⟩ := o1.at_ i d e
    rw [bn (o1.ne e)]
    exact ⟨v, g1, g2.stay sy fun y hy => nt (o1.ne e) hy, g3⟩
  · rcases setT_mem h1 with ⟨rfl, h1⟩ | ⟨n1, h1⟩ <;> rcases setT_mem h2 with ⟨rfl, h2⟩ | ⟨n2, h2⟩
    · rfl
    · exact absurd (.inl h1) (old n2 h2)
    · exact absurd (.inl h2) (old n1 h1)
    · exact o1.dis i j y h1 h2
  · rcases setT_mem h with ⟨rfl, h⟩ | ⟨n1, h⟩
    · rcases x.from_ y (.inl h) with z | z
      · exact o1.out y _ hR z
      · exact e1.there y hR z
    · exact o1.out y i hR h
  · rcases setT_mem h with ⟨rfl, h⟩ | ⟨n1, h⟩
    · exact hB y hy h
    · exact old n1 h (.inr hy)
  · rcases hy with ⟨i, h⟩ | hy
    · rcases setT_mem h with ⟨rfl, h⟩ | ⟨n1, h⟩
      · exact (x.from_ y (.inl h)).imp (fun z => ⟨_, z⟩) id
      · exact .inl ⟨i, h⟩
    · exact (x.from_ y (.inr hy)).imp (fun z => ⟨_, z⟩) id
theorem ext1' {M M1 T : Addr → Prop} {H H1 : Hp} (x : Ext M H H1 (fun x => M1 x ∨ T x)) : Ext M H H1 M1 := x.mono fun _ hx => .inl hx
/-- A NEW OBJECT -/
theorem imp_new {kf c : String} {sp : Spec} (hf : Φ kf = some sp) (ck : ClsOk K c) {es : Es} (ok : es.ok = true) {Q : VK} (h : tE w K (wE Φ (.new kf c es)) σ H Q) : tMake (He.ga K (s_ c)) (spD w K sp) [] E0 (seqT (trs w K Φ es)) σ H Q := by
  obtain ⟨ρ, st, fp, R, Qd, e, o, h, k⟩ := h
  rw [wE, hf] at h
  simp only at h
  refine impAsA es ok e o h fun ys st1 vs H1 fp1 T q x1 o1 hT br okk => ?_
  clear okk
  intro x dx hx hdx hne
  rw [List.append_nil]
  obtain ⟨hio, q⟩ := q
  have s : Sub H1 (upd (upd H1 dx (.own x)) x (.ins (He.ga K (s_ c)) dx [])) := fun y u hy => by
    rw [upd_ne (ne_of_none hy hx), upd_ne (ne_of_none hy hdx)]; exact hy
  have rx : Rep w K (upd (upd H1 dx (.own x)) x (.ins (He.ga K (s_ c)) dx [])) (.ref x) (.obj c []) [x] := .obj ck (fun p hp => nomatch hp) upd_same rfl .nil
  generalize hH2 : upd (upd H1 dx (.own x)) x (.ins (He.ga K (s_ c)) dx []) = H2 at *
  have o2 := o1.sub s
  have br2 : BRepsA w K H2 (fp1 tabI) vs ys := by
    clear q hio
    induction br with
    | nil => exact .nil
    | cons a _ ih => obtain ⟨B, r, n⟩ := a; exact .cons ⟨B, r.sub s, n⟩ ih
  have thr : ∀ (v : V) (d : D) (B : List Addr), Rep w K H1 v d B → x ∉ B := fun v d B r hxB => r.there hxB hx
  obtain ⟨bs, hbl, hbr, hbx, hbF⟩ : ∃ bs : List (List Addr), bs.length = ys.length ∧ (∀ (j : Nat) (v : V) (d : D) (b : List Addr), vs[j]? = some v → ys[j]? = some d → bs[j]? = some b → Rep w K H2 v d b) ∧ (∀ (j : Nat) (b : List Addr), bs[j]? = some b → x ∉ b) ∧ ∀ (j : Nat) (b : List Addr) (y : Addr), bs[j]? = some b → y ∈ b → y ∉ fp1 tabI := by
    clear q hio br2
    induction br with
    | nil => exact ⟨[], rfl, fun j v d b h => by simp at h, fun j b h => by simp at h, fun j b y h => by simp at h⟩
    | @cons v d _ _ r _ ih =>
      obtain ⟨B, r, n⟩ := r
      obtain ⟨bs, g1, g2, g3, g4⟩ := ih
      refine ⟨B :: bs, by simp [g1], fun j v' d' b a1 a2 a3 => ?_, fun j b a1 => ?_, fun j b y a1 a2 => ?_⟩
      · cases j with
        | zero => simp at a1 a2 a3; subst a1 a2 a3; exact r.sub s
        | succ j => exact g2 j v' d' b (by simpa using a1) (by simpa using a2) (by simpa using a3)
      · cases j with
        | zero => simp at a1; subst a1; exact thr v d _ r
        | succ j => exact g3 j b (by simpa using a1)
      · cases j with
        | zero => simp at a1; subst a1; exact n y a2
        | succ j => exact g4 j b y (by simpa using a1) a2
  have io1 : ∀ j : Nat, sp.io[j]? = some true → j = 0 := fun j hj => by
    rw [hio] at hj
    cases j with
    | zero => rfl
    | succ j =>
      rw [List.getElem?_cons_succ, List.getElem?_replicate] at hj
      split at hj
      · cases hj
      · cases hj
  have hl : sp.io.length = ys.length + 1 := by rw [hio]; simp
  have hvl : vs.length = ys.length := Paired.length br
  have ar : Args w K H2 (fp1 tabI) sp.io (.ref x :: vs) (.obj c [] :: ys) ([x] :: bs) := by
    refine ⟨by simp [hl, hvl], by simp [hl], by simp [hl, hbl], fun j v d b a1 a2 a3 => ?_, fun j b hj a1 => ?_, fun j k2 b b2 y hjk hj a1 a2 hy => ?_, o2.tabc, o2.tabs, fun j b y a1 a2 => ?_⟩
    · cases j with
      | zero => simp at a1 a2 a3; subst a1 a2 a3; exact rx
      | succ j => exact hbr j v d b (by simpa using a1) (by simpa using a2) (by simpa using a3)
    · have := io1 j hj; subst this; simp at a1; subst a1; simp
    · have := io1 j hj; subst this
      simp at a1; subst a1
      cases k2 with
      | zero => exact absurd rfl hjk
      | succ k2 => rw [List.mem_singleton.mp hy]; exact hbx k2 b2 (by simpa using a2)
    · cases j with
      | zero => simp at a1; subst a1; rw [List.mem_singleton.mp a2]; exact fun z => o1.there ⟨_, z⟩ hx
      | succ j => exact hbF j b y (by simpa using a1) a2
  refine ⟨_, _, _, fp1 tabI, ar, q, fun r ds' v H3 bs' B F' qd ou => ?_⟩
  obtain ⟨rfl, od, rfl, qd⟩ := qd
  have hret := ou.ret
  cases hret
  obtain ⟨b0, hb0⟩ : ∃ b0, bs'[0]? = some b0 := ⟨_, List.getElem?_eq_getElem (by rw [ou.lb, hl]; omega)⟩
  have hio0 : sp.io[0]? = some true := by rw [hio]; rfl
  obtain ⟨r0, nd0⟩ := ou.rep 0 (.ref x) od b0 hio0 rfl rfl hb0
  have ios : ∀ y, IoSet sp.io ([x] :: bs) y → y = x := fun y ⟨j, b, hj, hb, hy⟩ => by
    have := io1 j hj; subst this; simp at hb; subst hb; exact List.mem_singleton.mp hy
  have x2 : Ext (fun y => y ∈ fp1 tabI) H1 H3 (fun y => y ∈ F' ∨ y ∈ b0) := by
    refine ⟨fun y u hy hm => ou.ext.keep y u (s y u hy) fun z => z.elim (fun z => ?_) hm, fun y hy => ?_⟩
    · rw [ios y z, hx] at hy; cases hy
    · have hin : IoT sp.io bs' F' y ∨ y ∈ ([] : List Addr) := hy.elim (fun z => .inl (.inr z)) fun z => .inl (.inl ⟨0, b0, hio0, hb0, z⟩)
      rcases ou.ext.from_ y hin with z | z
      · rcases z with z | z
        · right; rw [ios y z]; exact hx
        · exact .inl z
      · right
        cases hz : H1 y with
        | none => rfl
        | some u => rw [s y u hz] at z; cases z
  obtain ⟨o3, dj, x3⟩ := o1.retab (e.keep' o x1) x2 (fun y hy z => ou.sep y z ⟨0, b0, hio0, hb0, hy⟩) ou.tabc ou.tabs
  exact ⟨rfl, k od st1 (.ref x) H3 _ b0 qd ((ext1' x1).trans x3) o3 r0 nd0 dj⟩
/-- THE CALL -/
theorem imp_fn {f : String} {sp : Spec} (hf : Φ f = some sp) {es : Es} (ok : es.ok = true) {Q : VK} (h : tE w K (wE Φ (.fn f es)) σ H Q) : tCall (spD w K sp) [] E0 (seqT (trs w K Φ es)) σ H Q := by
  obtain ⟨ρ, st, fp, R, Qd, e, o, h, k⟩ := h
  rw [wE, hf] at h
  simp only at h
  cases hio : sp.io.any id with
  | false =>
    rw [hio] at h
    refine impAsA es ok e o h fun ds st1 vs H1 fp1 T q x1 o1 hT br _ => ?_
    rw [List.append_nil]
    obtain ⟨bs, ar⟩ := any_args br q.1 hio o1.tabc o1.tabs
    refine ⟨ds, bs, _, fp1 tabI, ar, q.2, fun r ds' v H2 bs' B F' qd ou => ?_⟩
    have x2 : Ext (fun x => x ∈ fp1 tabI) H1 H2 (fun x => x ∈ F' ∨ x ∈ B) := ⟨fun x u hx hm => ou.ext.keep x u hx fun z => z.elim (no_io hio) hm, fun x hx => (ou.ext.from_ x (hx.imp .inr id)).elim (fun z => z.elim (fun z => (no_io hio z).elim) .inl) .inr⟩
    obtain ⟨o2, dj, x3⟩ := o1.retab (e.keep' o x1) x2 (fun x hx z => ou.out x hx (.inr z)) ou.tabc ou.tabs
    exact k r st1 v H2 _ B qd.2 ((ext1' x1).trans x3) o2 ou.ret ou.nd dj
  | true =>
    rw [hio] at h
    simp only at h
    cases his : ioSlots sp.io es with
    | none => rw [his] at h; exact h.elim
    | some p =>
      obtain ⟨is, js⟩ := p
      rw [his] at h
      obtain ⟨ndi, hdj, h⟩ := h
      have np : es.noPl = true := io_noPl his
      refine impAs es ok e o h fun ds st1 vs H1 fp1 T q x1 o1 hT br okk => ?_
      rw [List.append_nil]
      obtain ⟨hrw, q⟩ := q
      have e1 := e.keep' o x1
      obtain ⟨bs, l1, l2, l3, f1, f2, f3⟩ := args_aux o1 e1 his hrw (okk np)
      have key : ∀ (j : Nat) (b : List Addr), sp.io[j]? = some true → bs[j]? = some b → ∃ i, slotArg sp.io es i = some j ∧ i ∈ is ∧ b = fp1 i := fun j b hj hb => by
        obtain ⟨i, hi⟩ := slot_of his ndi hj
        exact ⟨i, hi, (slot_mem his hi).1, (f3 j b i hb hi).1⟩
      have slen : ∀ {i j : Nat}, slotArg sp.io es i = some j → i < st1.length := fun {i j} hi => by
        have hr := hrw i (slot_mem his hi).1
        unfold isRw at hr
        cases hz : st1[i]? with
        | none => rw [hz] at hr; cases hr
        | some u => exact (List.getElem?_eq_some_iff.mp hz).1
      have sne : ∀ {i j : Nat}, slotArg sp.io es i = some j → i ≠ tabI := fun hi => o1.lt_ne (slen hi)
      have tabN : slotArg sp.io es tabI = none := by
        cases hz : slotArg sp.io es tabI with
        | none => rfl
        | some j => exact absurd rfl (sne hz)
      have ndF : ∀ i, i ≠ tabI → (fp1 i).Nodup := fun i hi => by
        by_cases hd : ∃ d, st1[i]? = some (some d)
        · obtain ⟨d, hd⟩ := hd
          obtain ⟨_, _, _, nd⟩ := o1.at_ i d hd
          exact nd
        · rw [o1.off i hi fun d hd' => hd ⟨d, hd'⟩]; exact List.nodup_nil
      have bool2 : ∀ (j : Nat) (b : List Addr), bs[j]? = some b → sp.io[j]? = some true ∨ sp.io[j]? = some false := fun j b hb => by
        have hl := (List.getElem?_eq_some_iff.mp hb).1
        rw [l3] at hl
        cases hz : sp.io[j]? with
        | none => rw [List.getElem?_eq_none_iff] at hz; omega
        | some z => cases z with
          | true => exact .inl rfl
          | false => exact .inr rfl
      have ar : Args w K H1 (fp1 tabI) sp.io vs ds bs := ⟨l1, l2, l3, f1, fun j b hj hb => by
          obtain ⟨i, hi, _, rfl⟩ := key j b hj hb
          exact ndF i (sne hi), fun j kk b c x hne hj hb hc hx hxc => by
          obtain ⟨i, hi, him, rfl⟩ := key j b hj hb
          rcases bool2 kk c hc with hk | hk
          · obtain ⟨i2, hi2, _, rfl⟩ := key kk c hk hc
            have := o1.dis i i2 x hx hxc
            subst this
            rw [hi] at hi2
            exact hne (Option.some.inj hi2)
          · rcases f2 kk c hc hk with z | z | ⟨i2, hi2, hn2, rfl⟩
            · exact hT x (z x hxc) ⟨i, hx⟩
            · exact o1.out x i (z x hxc) hx
            · have := o1.dis i i2 x hx hxc
              subst this
              exact hdj i hi2 him, o1.tabc, o1.tabs, fun j b x hb hx hF => by
          rcases bool2 j b hb with hj | hj
          · obtain ⟨i, hi, _, rfl⟩ := key j b hj hb
            exact sne hi (o1.dis i tabI x hx hF)
          · rcases f2 j b hb hj with z | z | ⟨i2, hi2, hn2, rfl⟩
            · exact hT x (z x hx) ⟨_, hF⟩
            · exact o1.out x _ (z x hx) hF
            · exact hn2 (o1.dis i2 tabI x hx hF)⟩
      have ioM : ∀ x, IoSet sp.io bs x → Mine fp1 x := fun x ⟨j, b, hj, hb, hx⟩ => by
        obtain ⟨i, _, _, rfl⟩ := key j b hj hb
        exact ⟨i, hx⟩
      refine ⟨ds, bs, _, fp1 tabI, ar, q, fun r ds' v H2 bs' B F' qd ou => ?_⟩
      obtain ⟨qd0, qd⟩ := qd
      let fp2 : Fp := fun i => match slotArg sp.io es i with | some j => (bs'[j]?).getD [] | none => setT fp1 F' i
      have fpS : ∀ {i j : Nat} {b : List Addr}, slotArg sp.io es i = some j → bs'[j]? = some b → fp2 i = b := fun hi hb => by simp only [fp2, hi, hb, Option.getD_some]
      have fpN : ∀ {i : Nat}, slotArg sp.io es i = none → i ≠ tabI → fp2 i = fp1 i := fun hi ht => by simp only [fp2, hi]; exact if_neg ht
      have fpT : fp2 tabI = F' := by simp only [fp2, tabN]; exact if_pos rfl
      have getB : ∀ {i j : Nat}, slotArg sp.io es i = some j → ∃ b, bs'[j]? = some b ∧ sp.io[j]? = some true := fun {i j} hi => by
        have hj := (slot_mem his hi).2
        have hl := (List.getElem?_eq_some_iff.mp hj).1
        rw [← ou.lb] at hl
        exact ⟨_, List.getElem?_eq_getElem hl, hj⟩
      have from2 : ∀ x i, x ∈ fp2 i → (slotArg sp.io es i = none ∧ i ≠ tabI ∧ x ∈ fp1 i) ∨ IoT sp.io bs' F' x := fun x i hx => by
        cases hi : slotArg sp.io es i with
        | none =>
          by_cases ht : i = tabI
          · rw [ht, fpT] at hx; exact .inr (.inr hx)
          · rw [fpN hi ht] at hx; exact .inl ⟨rfl, ht, hx⟩
        | some j =>
          obtain ⟨b, hb, hj⟩ := getB hi
          rw [fpS hi hb] at hx
          exact .inr (.inl ⟨j, b, hj, hb, hx⟩)
      have ioOld : ∀ x, IoT sp.io bs' F' x ∨ x ∈ B → (∃ i, (i = tabI ∨ ∃ j, slotArg sp.io es i = some j) ∧ x ∈ fp1 i) ∨ H1 x = none := fun x hx => by
        rcases ou.ext.from_ x hx with (⟨j, b, hj, hb, hz⟩ | z) | z
        · obtain ⟨i, hi, _, rfl⟩ := key j b hj hb
          exact .inl ⟨i, .inr ⟨j, hi⟩, hz⟩
        · exact .inl ⟨tabI, .inl rfl, z⟩
        · exact .inr z
      have rest : ∀ x i, slotArg sp.io es i = none → i ≠ tabI → x ∈ fp1 i → ¬ IoT sp.io bs' F' x ∧ x ∉ B ∧ ¬ IoT sp.io bs (fp1 tabI) x := fun x i hi ht hx => by
        have a1 : ¬ (IoT sp.io bs' F' x ∨ x ∈ B) := fun z => by
          rcases ioOld x z with ⟨i2, hi2, hx2⟩ | z
          · have := o1.dis i i2 x hx hx2
            subst this
            rcases hi2 with hi2 | ⟨j, hi2⟩
            · exact ht hi2
            · rw [hi] at hi2; cases hi2
          · exact o1.there ⟨i, hx⟩ z
        refine ⟨fun z => a1 (.inl z), fun z => a1 (.inr z), fun zz => ?_⟩
        rcases zz with ⟨j, b, hj, hb, hz⟩ | hz
        · obtain ⟨i2, hi2, _, rfl⟩ := key j b hj hb
          have := o1.dis i i2 x hx hz
          subst this
          rw [hi] at hi2; cases hi2
        · exact ht (o1.dis i tabI x hx hz)
      have sty : Stay (fun a => ¬ IoT sp.io bs (fp1 tabI) a) H1 H2 := ou.ext.stay fun a ha => ha.elim (fun ha => o1.chg (ioM a ha)) fun ha => o1.tabc a ha
      have o2 : Own w K R H2 σ (putIO sp.io es ds' st1) fp2 := by
        refine ⟨by rw [put_len]; exact o1.len, fun i d hd => ?_, fun i i2 x hx hx2 => ?_, fun i hit hi => ?_, fun x i hR hx => ?_, by rw [put_len]; exact o1.short, by rw [fpT]; exact ou.tabc, by rw [fpT]; exact ou.tabs, fun x u hx => let ⟨g1, g2⟩ := o1.base x u hx; ⟨g1, ou.ext.keep x u g2 fun z => z.elim (fun z => let ⟨i, hi⟩ := ioM x z; o1.out x i g1 hi) (o1.out x tabI g1)⟩⟩
        · cases hi : slotArg sp.io es i with
          | none =>
            rw [put_off hi] at hd
            obtain ⟨u, hu, ru, nu⟩ := o1.at_ i d hd
            rw [fpN hi (o1.ne hd)]
            exact ⟨u, hu, ru.stay sty fun x hx => (rest x i hi (o1.ne hd) hx).2.2, nu⟩
          | some j =>
            obtain ⟨b, hb, hj⟩ := getB hi
            have hjl := (List.getElem?_eq_some_iff.mp hj).1
            have hdj2 : j < ds'.length := by rw [ou.ld]; exact hjl
            have hbj : j < bs.length := by rw [l3]; exact hjl
            rw [put_at his ndi hi (List.getElem?_eq_getElem hdj2) (slen hi)] at hd
            cases hd
            obtain ⟨_, u, hu, hs⟩ := f3 j _ i (List.getElem?_eq_getElem hbj) hi
            obtain ⟨ru, nu⟩ := ou.rep j u _ b hj hu (List.getElem?_eq_getElem hdj2) hb
            rw [fpS hi hb]
            exact ⟨u, hs, ru, nu⟩
        · rcases from2 x i hx with ⟨hi, ht, z⟩ | z
          · rcases from2 x i2 hx2 with ⟨_, _, z2⟩ | z2
            · exact o1.dis i i2 x z z2
            · exact absurd z2 (rest x i hi ht z).1
          · rcases from2 x i2 hx2 with ⟨hi2, ht2, z2⟩ | z2
            · exact absurd z (rest x i2 hi2 ht2 z2).1
            · -- both are the def's own, or the tables'
              have cls : ∀ {i : Nat}, x ∈ fp2 i → IoT sp.io bs' F' x → (i = tabI ∧ x ∈ F') ∨ ∃ j b, slotArg sp.io es i = some j ∧ bs'[j]? = some b ∧ sp.io[j]? = some true ∧ x ∈ b := fun {i} hx z => by
                cases hi : slotArg sp.io es i with
                | none =>
                  by_cases ht : i = tabI
                  · rw [ht, fpT] at hx; exact .inl ⟨ht, hx⟩
                  · rw [fpN hi ht] at hx; exact absurd z (rest x i hi ht hx).1
                | some j =>
                  obtain ⟨b, hb, hj⟩ := getB hi
                  rw [fpS hi hb] at hx
                  exact .inr ⟨j, b, rfl, hb, hj, hx⟩
              rcases cls hx z with ⟨ht, zf⟩ | ⟨j, b, hi, hb, hj, hxb⟩ <;> rcases cls hx2 z2 with ⟨ht2, zf2⟩ | ⟨j2, b2, hi2, hb2, hj2, hxb2⟩
              · rw [ht, ht2]
              · exact absurd ⟨j2, b2, hj2, hb2, hxb2⟩ (ou.sep x zf)
              · exact absurd ⟨j, b, hj, hb, hxb⟩ (ou.sep x zf2)
              · by_cases hjj : j = j2
                · subst hjj; exact slot_inj hi hi2
                · exact absurd hxb2 (ou.dis j j2 b b2 x hjj hj hj2 hb hb2 hxb)
        · cases hi' : slotArg sp.io es i with
          | none =>
            rw [fpN hi' hit]
            exact o1.off i hit fun d hd => hi d (by rw [put_off hi']; exact hd)
          | some j =>
            have hj := (slot_mem his hi').2
            have hjl := (List.getElem?_eq_some_iff.mp hj).1
            have hdj2 : j < ds'.length := by rw [ou.ld]; exact hjl
            exact absurd (put_at his ndi hi' (List.getElem?_eq_getElem hdj2) (slen hi')) (hi _)
        · rcases from2 x i hx with ⟨_, _, z⟩ | z
          · exact o1.out x i hR z
          · rcases ioOld x (.inl z) with ⟨i2, _, z⟩ | z
            · exact o1.out x i2 hR z
            · exact e1.there x hR z
      refine k r _ v H2 fp2 B qd ?_ o2 ou.ret ou.nd fun x hx m => ?_
      · refine (ext1' x1).trans ⟨fun x u hx hm => ou.ext.keep x u hx fun z => hm (z.elim (ioM x) fun z => ⟨_, z⟩), fun x hx => ?_⟩
        have h3 : (Mine fp1 x) ∨ (IoT sp.io bs' F' x ∨ x ∈ B) := by
          rcases hx with ⟨i, hx⟩ | hx
          · rcases from2 x i hx with ⟨_, _, z⟩ | z
            · exact .inl ⟨i, z⟩
            · exact .inr (.inl z)
          · exact .inr (.inr hx)
        rcases h3 with h3 | h3
        · exact .inl h3
        · rcases ioOld x h3 with ⟨i, _, z⟩ | z
          · exact .inl ⟨i, z⟩
          · exact .inr z
      · obtain ⟨i, hm⟩ := m
        rcases from2 x i hm with ⟨hi, ht, z⟩ | z
        · exact (rest x i hi ht z).2.1 hx
        · exact ou.out x hx z
end
end Dl
/-! DlLock: slots that are hidden for a while, what is walked, targets. -/
namespace Dl
open PySem PySem.Spec PyProof.Rows L2
variable [Tab]
theorem hide_len : ∀ {L : List Nat} {st : DS}, (hide L st).length = st.length
  | [], _ => rfl
  | i :: L, st => by show ((hide L st).set i none).length = _; rw [List.length_set]; exact hide_len
theorem hide_off : ∀ {L : List Nat} {st : DS} {i : Nat}, i ∉ L → (hide L st)[i]? = st[i]?
  | [], _, _, _ => rfl
  | j :: L, st, i, h => by
    rw [List.mem_cons, not_or] at h
    show ((hide L st).set j none)[i]? = _
    rw [get_set_ne (Ne.symm h.1)]
    exact hide_off h.2
theorem hide_some : ∀ {L : List Nat} {st : DS} {i : Nat} {d : D}, (hide L st)[i]? = some (some d) → i ∉ L ∧ st[i]? = some (some d)
  | [], _, _, _, h => ⟨by simp, h⟩
  | j :: L, st, i, d, h => by
    obtain ⟨h1, h2⟩ := get_set_none (show ((hide L st).set j none)[i]? = some (some d) from h)
    obtain ⟨h3, h4⟩ := hide_some h2
    exact ⟨by rw [List.mem_cons, not_or]; exact ⟨Ne.symm h1, h3⟩, h4⟩
theorem restore_len : ∀ {L : List Nat} {st st' : DS}, (restore L st st').length = st'.length
  | [], _, _ => rfl
  | i :: L, st, st' => by show ((restore L st st').set i _).length = _; rw [List.length_set]; exact restore_len
theorem restore_off : ∀ {L : List Nat} {st st' : DS} {i : Nat}, i ∉ L → (restore L st st')[i]? = st'[i]?
  | [], _, _, _, _ => rfl
  | j :: L, st, st', i, h => by
    rw [List.mem_cons, not_or] at h
    show ((restore L st st').set j _)[i]? = _
    rw [get_set_ne (Ne.symm h.1)]
    exact restore_off h.2
theorem restore_on : ∀ {L : List Nat} {st st' : DS} {i : Nat}, i ∈ L → st.length = st'.length → (restore L st st')[i]? = st[i]?
  | j :: L, st, st', i, h, hl => by
    show ((restore L st st').set j (st[j]?.join))[i]? = _
    by_cases e : j = i
    · subst e
      by_cases hj : j < st'.length
      · rw [get_set_self (by rw [restore_len]; exact hj)]
        rw [List.getElem?_eq_getElem (by omega)]
        simp
      · rw [List.getElem?_eq_none (by rw [List.length_set, restore_len]; omega), List.getElem?_eq_none (by omega)]
    · rw [get_set_ne e]
      rcases List.mem_cons.mp h with z | z
      · exact absurd z.symm e
      · exact restore_on z hl
theorem wipe_off : ∀ {vs : List Nat} {σ : L2.St} {i : Nat}, i ∉ vs → (wipe σ vs)[i]? = σ[i]?
  | [], _, _, _ => rfl
  | j :: L, st, i, h => by
    rw [List.mem_cons, not_or] at h
    show ((wipe st L).set j none)[i]? = _
    rw [get_set_ne (Ne.symm h.1)]
    exact wipe_off h.2
theorem wipe_on : ∀ {vs : List Nat} {σ : L2.St} {i : Nat}, i ∈ vs → (wipe σ vs)[i]? = if i < σ.length then some none else none
  | j :: L, st, i, h => by
    show ((wipe st L).set j none)[i]? = _
    by_cases e : j = i
    · subst e
      by_cases hj : j < st.length
      · rw [get_set_self (by rw [wipe_length]; exact hj), if_pos hj]
      · rw [List.getElem?_eq_none (by rw [List.length_set, wipe_length]; omega), if_neg hj]
    · rw [get_set_ne e]
      rcases List.mem_cons.mp h with z | z
      · exact absurd z.symm e
      · exact wipe_on z
theorem wipe_same {vs : List Nat} {a b : L2.St} (hl : a.length = b.length) (h : ∀ j, j ∉ vs → a[j]? = (wipe b vs)[j]?) : wipe a vs = wipe b vs := by
  refine List.ext_getElem? fun j => ?_
  by_cases hj : j ∈ vs
  · rw [wipe_on hj, wipe_on hj, hl]
  · rw [wipe_off hj, h j hj]
section
variable {w : World} {K : PySem.W.Frag} {R C : Addr → Prop} {H H' : Hp} {σ σ' : L2.St} {ρ st : DS} {fp : Fp} {L : List Nat}
def cut (fp : Fp) (L : List Nat) : Fp := fun i => if i ∈ L then [] else fp i
theorem cut_on {i : Nat} (h : i ∈ L) : cut fp L i = [] := if_pos h
theorem cut_off {i : Nat} (h : i ∉ L) : cut fp L i = fp i := if_neg h
theorem cut_mem {i : Nat} {x : Addr} (h : x ∈ cut fp L i) : i ∉ L ∧ x ∈ fp i := by
  by_cases hi : i ∈ L
  · rw [cut_on hi] at h; cases h
  · rw [cut_off hi] at h; exact ⟨hi, h⟩
/-- what is only looked at while L is hidden; T: what else -/
def Lk (R T : Addr → Prop) (fp : Fp) (L : List Nat) (x : Addr) : Prop := R x ∨ T x ∨ ∃ i ∈ L, x ∈ fp i
theorem Own.hide {T : Addr → Prop} (o : Own w K R H σ st fp) (hL : tabI ∉ L) (hT : ∀ x, T x → ¬ Mine fp x) (hl : σ'.length = σ.length) (hs : ∀ (i : Nat) (d : D), i ∉ L → st[i]? = some (some d) → σ'[i]? = σ[i]?) : Own w K (Lk R T fp L) H σ' (Dl.hide L st) (cut fp L) where
  len := by rw [hide_len, hl]; exact o.len
  at_ i d e := by
    obtain ⟨h1, h2⟩ := hide_some e
    rw [cut_off h1, hs i d h1 h2]
    exact o.at_ i d h2
  dis i j x hi hj := o.dis i j x (cut_mem hi).2 (cut_mem hj).2
  off i hit h := by
    by_cases hi : i ∈ L
    · exact cut_on hi
    · rw [cut_off hi]
      exact o.off i hit fun d => by have := h d; rw [hide_off hi] at this; exact this
  short := by rw [hide_len]; exact o.short
  tabc := by rw [cut_off hL]; exact o.tabc
  tabs := by rw [cut_off hL]; exact o.tabs
  base x u e := let ⟨h1, h2⟩ := o.base x u e; ⟨.inl h1, h2⟩
  out x i hx hm := by
    obtain ⟨h1, h2⟩ := cut_mem hm
    rcases hx with hx | hx | ⟨j, hj, hx⟩
    · exact o.out x i hx h2
    · exact hT x hx ⟨i, h2⟩
    · exact h1 (by rw [o.dis i j x h2 hx]; exact hj)
theorem lock_some {root : Option Nat} {i : Nat} {d : D} (h : (lock ρ st root)[i]? = some (some d)) : (root = some i ∧ st[i]? = some (some d)) ∨ ρ[i]? = some (some d) := by
  unfold lock at h
  split at h
  · exact .inr h
  · rename_i j
    split at h
    · rename_i d' hd
      by_cases e : j = i
      · subst e
        by_cases hj : j < ρ.length
        · rw [get_set_self hj] at h; cases h; exact .inl ⟨rfl, hd⟩
        · rw [List.getElem?_eq_none (by rw [List.length_set]; omega)] at h; cases h
      · rw [get_set_ne e] at h; exact .inr h
    · exact .inr h
theorem lock_len {root : Option Nat} : (lock ρ st root).length = ρ.length := by
  unfold lock
  split
  · rfl
  · split
    · rw [List.length_set]
    · rfl
theorem Env.lock {T : Addr → Prop} {root : Option Nat} (e : Env w K R H σ ρ) (o : Own w K R H σ st fp) (hr : ∀ i, root = some i → i ∈ L) (hT : ∀ x, T x → H x ≠ none) (own : List Nat) (hl : σ'.length = σ.length)
    (hs : ∀ (i : Nat) (d : D), i ∉ own → (lock ρ st root)[i]? = some (some d) → σ'[i]? = σ[i]?) : Env w K (Lk R T fp L) H σ' (Dl.hide own (Dl.lock ρ st root)) where
  len := by rw [hide_len, lock_len, hl]; exact e.len
  at_ i d q := by
    obtain ⟨h1, h2⟩ := hide_some q
    rw [hs i d h1 h2]
    rcases lock_some h2 with ⟨h3, h4⟩ | h4
    · obtain ⟨v, g1, g2, g3⟩ := o.at_ i d h4
      exact ⟨v, fp i, g1, g2, fun x hx => .inr (.inr ⟨i, hr i h3, hx⟩)⟩
    · obtain ⟨v, B, g1, g2, g3⟩ := e.at_ i d h4
      exact ⟨v, B, g1, g2, fun x hx => .inl (g3 x hx)⟩
  there x hx := by
    rcases hx with hx | hx | ⟨i, _, hx⟩
    · exact e.there x hx
    · exact hT x hx
    · exact o.there ⟨i, hx⟩
/-- back again -/
theorem Own.unhide {T : Addr → Prop} {st' : DS} {fp' : Fp} {σ0 : L2.St} {M' : Addr → Prop} (o : Own w K R H σ0 st fp) (hL : tabI ∉ L) (o' : Own w K (Lk R T fp L) H' σ' st' fp') (ol : Own w K (Lk R T fp L) H σ' (Dl.hide L st) (cut fp L)) (x : Ext (Mine (cut fp L)) H H' M')
    {σ1 : L2.St} (hl : σ1.length = σ'.length) (h0 : ∀ (i : Nat) (d : D), i ∈ L → st[i]? = some (some d) → σ1[i]? = σ0[i]?) (h1 : ∀ (i : Nat) (d : D), i ∉ L → st'[i]? = some (some d) → σ1[i]? = σ'[i]?) (hll : st.length = st'.length) :
    Own w K R H' σ1 (restore L st st') (fun i => if i ∈ L then fp i else fp' i) where
  len := by rw [restore_len, hl]; exact o'.len
  at_ i d e := by
    by_cases hi : i ∈ L
    · rw [restore_on hi hll] at e
      rw [h0 i d hi e]
      obtain ⟨v, g1, g2, g3⟩ := o.at_ i d e
      simp only [if_pos hi]
      exact ⟨v, g1, g2.stay (ol.stayOut x) (fun a ha ⟨j, hj⟩ => (cut_mem hj).1 (by rw [o.dis j i a (cut_mem hj).2 ha]; exact hi)), g3⟩
    · rw [restore_off hi] at e
      rw [h1 i d hi e]
      simp only [if_neg hi]
      exact o'.at_ i d e
  dis i j a ha hb := by
    by_cases hi : i ∈ L
    · by_cases hj : j ∈ L
      · simp only [if_pos hi] at ha; simp only [if_pos hj] at hb; exact o.dis i j a ha hb
      · simp only [if_pos hi] at ha; simp only [if_neg hj] at hb
        exact absurd hb (o'.out a j (.inr (.inr ⟨i, hi, ha⟩)))
    · by_cases hj : j ∈ L
      · simp only [if_neg hi] at ha; simp only [if_pos hj] at hb
        exact absurd ha (o'.out a i (.inr (.inr ⟨j, hj, hb⟩)))
      · simp only [if_neg hi] at ha; simp only [if_neg hj] at hb; exact o'.dis i j a ha hb
  off i hit h := by
    by_cases hi : i ∈ L
    · simp only [if_pos hi]
      exact o.off i hit fun d => by have := h d; rw [restore_on hi hll] at this; exact this
    · simp only [if_neg hi]
      exact o'.off i hit fun d => by have := h d; rw [restore_off hi] at this; exact this
  short := by rw [restore_len]; exact o'.short
  tabc := by simp only [if_neg hL]; exact o'.tabc
  tabs := by simp only [if_neg hL]; exact o'.tabs
  base x u e := ⟨(o.base x u e).1, (o'.base x u e).2⟩
  out a i hR ha := by
    by_cases hi : i ∈ L
    · simp only [if_pos hi] at ha; exact o.out a i hR ha
    · simp only [if_neg hi] at ha; exact o'.out a i (.inl hR) ha
theorem mine_un {fp' : Fp} {x : Addr} (h : Mine (fun i => if i ∈ L then fp i else fp' i) x) : (∃ i ∈ L, x ∈ fp i) ∨ Mine fp' x := by
  obtain ⟨i, h⟩ := h
  by_cases hi : i ∈ L
  · simp only [if_pos hi] at h; exact .inl ⟨i, hi, h⟩
  · simp only [if_neg hi] at h; exact .inr ⟨i, h⟩
theorem mine_cut {x : Addr} (h : Mine (cut fp L) x) : Mine fp x := let ⟨i, h⟩ := h; ⟨i, (cut_mem h).2⟩

/-! ### targets -/
def gNames : List Nat → TGs
  | [] => gNil
  | i :: is => gCons (gName i) (gNames is)
def gTg (K : PySem.W.Frag) : Tg → TG
  | .nm i => gName i
  | .tp is => gTup K is.length (gNames is)
end
section
variable {w : World} {K : PySem.W.Frag} {Φ : Phi} {N : List Str} {cs : List (String × K0)} {lv : Nat} {sc : Scope} {fn : Str → Bool} {X : Cx}
theorem loc_of (G : Good w K Φ N cs lv sc fn X) {x : Str} (h : locB sc fn x = true) : L2.Loc X.env.scope x ∧ (X.fn x = true ∨ X.env.scope.names.lookup x = some .local) := by
  unfold locB at h
  unfold L2.Loc
  rw [G.sc_]
  split at h
  · rename_i q; exact ⟨.inl q, .inr q⟩
  · rename_i q; exact ⟨.inr q, .inl (G.fn_ x h)⟩
  · cases h
theorem tgs_ok (G : Good w K Φ N cs lv sc fn X) {fx : List Nat} : ∀ {is : List Nat} {es : List Expr}, chkTgs N sc fn fx is es = true → PGs X es (gNames is) ∧ (assignEach es X.env).length = is.length ∧ (assignEach es X.env).findIdx? (·.1) = none
  | [], [], _ => ⟨pgs_nil, rfl, rfl⟩
  | [], _ :: _, h => by simp [chkTgs] at h
  | _ :: _, [], h => by simp [chkTgs] at h
  | i :: is, e :: es, h => by
    cases e <;> simp only [chkTgs, reduceCtorEq, Bool.and_eq_true, decide_eq_true_eq] at h
    rename_i x p
    obtain ⟨⟨⟨h1, h2⟩, h3⟩, h4⟩ := h
    obtain ⟨g1, g2, g3⟩ := tgs_ok G h4
    obtain ⟨l1, l2⟩ := loc_of G h2
    refine ⟨pgs_cons (pg_name (by rw [G.N_]; exact G.nd) (by rw [G.N_]; exact h1) l1 l2) g1 rfl, ?_, ?_⟩
    · show (_ :: assignEach es X.env).length = _
      simp [g2]
    · show (_ :: assignEach es X.env).findIdx? (·.1) = none
      rw [List.findIdx?_cons, g3]; rfl
theorem tg_ok (G : Good w K Φ N cs lv sc fn X) {fx : List Nat} {tg : Tg} {e : Expr} (h : chkTg N sc fn fx tg e = true) : PG X e (gTg K tg) := by
  cases tg with
  | nm i =>
    simp only [chkTg] at h
    cases e <;> simp only [chkTgs, reduceCtorEq, Bool.and_eq_true, decide_eq_true_eq] at h
    rename_i x p
    obtain ⟨⟨⟨h1, h2⟩, h3⟩, h4⟩ := h
    obtain ⟨l1, l2⟩ := loc_of G h2
    exact pg_name (by rw [G.N_]; exact G.nd) (by rw [G.N_]; exact h1) l1 l2
  | tp is =>
    cases e <;> simp only [chkTg, reduceCtorEq] at h
    obtain ⟨g1, g2, g3⟩ := tgs_ok G h
    rename_i es k pos
    have := pg_tup (X := X) (pos := pos) (k := k) G.calm g1 g2 g3
    rw [G.K_] at this
    exact this
end
end Dl
/-! DlComp: what is walked; comprehensions. -/
namespace Dl
open PySem PySem.Spec PyProof.Rows L2
variable [Tab]
/-- new pairs -/
def It.pr : It → Bool
  | .enum _ => true | .enumN _ => true | _ => false
section
variable {w : World} {K : PySem.W.Frag} {Φ : Phi} {R : Addr → Prop} {H H' : Hp} {σ : L2.St} {ρ st : DS} {fp : Fp}
/-- the reading of what is walked -/
def tI (w : World) (K : PySem.W.Frag) (it : It) (wi : DS → DS → (List D → Option Nat → DS → Prop) → Prop) : TI := fun σ H Rr => ∃ ρ st fp R Qd, Env w K R H σ ρ ∧ Own w K R H σ st fp ∧ wi ρ st Qd ∧
  ∀ (xs : List D) (st1 : DS) (H1 : Hp) (fp1 : Fp) (J : L2.It) (T C : Addr → Prop), Qd xs it.root st1 → Ext (Mine fp) H H1 (fun x => Mine fp1 x ∨ T x) → Own w K R H1 σ st1 fp1 → (∀ x, T x → ¬ Mine fp1 x) → (∀ x, T x → H1 x ≠ none) →
    (∀ x, C x → R x ∨ T x ∨ ∃ i, it.root = some i ∧ x ∈ fp1 i) → Wk w K it.pr J xs C H1 → (it.rg = true → ∀ x ∈ xs, x.immut = true) → Rr J H1
def tBl (w : World) (K : PySem.W.Frag) (wf : DS → DS → (Bool → DS → Prop) → Prop) : TT := fun σ H Q => ∃ ρ st fp R Qd, Env w K R H σ ρ ∧ Own w K R H σ st fp ∧ wf ρ st Qd ∧
  ∀ b st' H' fp', Qd b st' → Ext (Mine fp) H H' (Mine fp') → Own w K R H' σ st' fp' → Q b H'

theorem imp_rng1 {a : E} {Rr : L2.It → Hp → Prop} (h : tI w K (.rng1 a) (wIt Φ (.rng1 a)) σ H Rr) : iRng1 (tCons (tE w K (wE Φ a)) tNil) σ H Rr := by
  obtain ⟨ρ, st, fp, R, Qd, e, o, h, k⟩ := h
  rw [wIt] at h
  refine tE_at e o h fun d st1 v H1 fp1 B q x1 o1 r nd dj => ?_
  cases d <;> first | exact q.elim | skip
  rename_i n
  cases r
  obtain ⟨q1, q2⟩ := q
  unfold smallI at q1
  simp only [Bool.and_eq_true, decide_eq_true_eq] at q1
  have wk := wk_range (w := w) (K := K) (H := H1) 0 n (fun _ => False)
  rw [Int.sub_zero] at wk
  exact ⟨n, rfl, by omega, by omega, k _ st1 H1 fp1 _ (fun _ => False) (fun _ => False) q2 (x1.mono fun x hx => hx.elim .inl False.elim) o1 (fun _ z => z.elim) (fun _ z => z.elim) (fun _ z => z.elim) wk (fun _ x hx => by obtain ⟨j, _, rfl⟩ := List.mem_map.mp hx; simp [D.immut])⟩
theorem imp_rng2 {a b : E} {Rr : L2.It → Hp → Prop} (h : tI w K (.rng2 a b) (wIt Φ (.rng2 a b)) σ H Rr) : iRng2 (tCons (tE w K (wE Φ a)) (tCons (tE w K (wE Φ b)) tNil)) σ H Rr := by
  obtain ⟨ρ, st, fp, R, Qd, e, o, h, k⟩ := h
  rw [wIt] at h
  refine tE_at e o h fun d st1 v H1 fp1 B q x1 o1 r nd dj => ?_
  refine tE_at (e.keep' o x1) o1 q fun d2 st2 v2 H2 fp2 B2 q x2 o2 r2 nd2 dj2 => ?_
  cases d <;> first | exact q.elim | skip
  rename_i lo _
  cases d2 <;> first | exact q.elim | skip
  rename_i n
  cases r
  cases r2
  obtain ⟨q0, q1, q2⟩ := q
  unfold smallI at q0 q1
  simp only [Bool.and_eq_true, decide_eq_true_eq] at q0 q1
  have wk := wk_range (w := w) (K := K) (H := H2) lo n (fun _ => False)
  exact ⟨lo, n, rfl, ⟨by omega, by omega, by omega, by omega⟩, k _ st2 H2 fp2 _ (fun _ => False) (fun _ => False) q2 (((ext1 x1).trans (ext1 x2)).mono fun x hx => hx.elim id False.elim) o2 (fun _ z => z.elim) (fun _ z => z.elim) (fun _ z => z.elim) wk (fun _ x hx => by obtain ⟨j, _, rfl⟩ := List.mem_map.mp hx; simp [D.immut])⟩
theorem imp_rng3 {a b : E} {c : Nat} {Rr : L2.It → Hp → Prop} (h : tI w K (.rng3 a b c) (wIt Φ (.rng3 a b c)) σ H Rr) : iRng3 (tCons (tE w K (wE Φ a)) (tCons (tE w K (wE Φ b)) (tCons (tC (.int (c : Int))) tNil))) σ H Rr := by
  obtain ⟨ρ, st, fp, R, Qd, e, o, h, k⟩ := h
  rw [wIt] at h
  refine tE_at e o h fun d st1 v H1 fp1 B q x1 o1 r nd dj => ?_
  refine tE_at (e.keep' o x1) o1 q fun d2 st2 v2 H2 fp2 B2 q x2 o2 r2 nd2 dj2 => ?_
  cases d <;> first | exact q.elim | skip
  rename_i lo _
  cases d2 <;> first | exact q.elim | skip
  rename_i n
  cases r
  cases r2
  obtain ⟨q0, q1, hc, hc2, q2⟩ := q
  unfold smallI at q0 q1
  simp only [Bool.and_eq_true, decide_eq_true_eq] at q0 q1
  have wk := wk_rangeS (w := w) (K := K) (H := H2) lo n c (fun _ => False)
  exact ⟨lo, n, c, _, rfl, rg_pos q0.1 q0.2 q1.1 q1.2 hc hc2, k _ st2 H2 fp2 _ (fun _ => False) (fun _ => False) q2 (((ext1 x1).trans (ext1 x2)).mono fun x hx => hx.elim id False.elim) o2 (fun _ z => z.elim) (fun _ z => z.elim) (fun _ z => z.elim) wk (fun _ x hx => by obtain ⟨j, _, rfl⟩ := List.mem_map.mp hx; simp [D.immut])⟩
theorem imp_seq {ex : E} {Rr : L2.It → Hp → Prop} (h : tI w K (.seq ex) (wIt Φ (.seq ex)) σ H Rr) : iSeq K (tE w K (wE Φ ex)) σ H Rr := by
  obtain ⟨ρ, st, fp, R, Qd, e, o, h, k⟩ := h
  rw [wIt] at h
  refine tE_at e o h fun d st1 v H1 fp1 B q x1 o1 r nd dj => ?_
  cases hi : walk? d with
  | none => rw [hi] at q; exact q.elim
  | some xs =>
    rw [hi] at q
    obtain ⟨a, rfl, z⟩ := wk_walk r hi
    refine ⟨a, rfl, ?_⟩
    rcases z with ⟨z1, z2⟩ | ⟨z1, z2⟩ | ⟨od, kvs, z1, z2⟩
    · exact .inl ⟨z1, k _ st1 H1 fp1 _ (fun x => x ∈ B) (fun x => x ∈ B) q x1 o1 dj (fun x hx => r.there hx) (fun x hx => .inr (.inl hx)) z2 (fun z => by cases z)⟩
    · exact .inr (.inl ⟨z1, k _ st1 H1 fp1 _ (fun x => x ∈ B) (fun x => x ∈ B) q x1 o1 dj (fun x hx => r.there hx) (fun x hx => .inr (.inl hx)) z2 (fun z => by cases z)⟩)
    · exact .inr (.inr ⟨od, kvs, z1, k _ st1 H1 fp1 _ (fun x => x ∈ B) (fun x => x ∈ B) q x1 o1 dj (fun x hx => r.there hx) (fun x hx => .inr (.inl hx)) z2 (fun z => by cases z)⟩)
theorem imp_enum {ex : E} {Rr : L2.It → Hp → Prop} (h : tI w K (.enum ex) (wIt Φ (.enum ex)) σ H Rr) : iEnumS K (tCons (tE w K (wE Φ ex)) tNil) σ H Rr := by
  obtain ⟨ρ, st, fp, R, Qd, e, o, h, k⟩ := h
  rw [wIt] at h
  refine tE_at e o h fun d st1 v H1 fp1 B q x1 o1 r nd dj => ?_
  cases hi : items? d with
  | none => rw [hi] at q; exact q.elim
  | some xs =>
    rw [hi] at q
    obtain ⟨a, rfl, z⟩ := wk_seq r hi
    refine ⟨a, rfl, ?_⟩
    rcases z with ⟨z1, _, z2⟩ | ⟨z1, _, z2⟩
    · exact .inl ⟨z1, k _ st1 H1 fp1 _ (fun x => x ∈ B) (fun x => x ∈ B) q x1 o1 dj (fun x hx => r.there hx) (fun x hx => .inr (.inl hx)) z2 (fun z => by cases z)⟩
    · exact .inr ⟨z1, k _ st1 H1 fp1 _ (fun x => x ∈ B) (fun x => x ∈ B) q x1 o1 dj (fun x hx => r.there hx) (fun x hx => .inr (.inl hx)) z2 (fun z => by cases z)⟩
theorem root_facts (e : Env w K R H σ ρ) (o : Own w K R H σ st fp) {i : Nat} {xs : List D} (h : (peek ρ st i).bind items? = some xs) : ∃ v d B, σ[i]? = some (some v) ∧ Rep w K H v d B ∧ items? d = some xs ∧ ∀ x ∈ B, R x ∨ False ∨ ∃ j, some i = some j ∧ x ∈ fp j := by
  rw [Option.bind_eq_some_iff] at h
  obtain ⟨d, h1, h2⟩ := h
  obtain ⟨v, B, hv, r, c⟩ := peek_of o e h1
  refine ⟨v, d, B, hv, r, h2, fun x hx => ?_⟩
  rcases c with ⟨_, rfl⟩ | c
  · exact .inr (.inr ⟨i, rfl, hx⟩)
  · exact .inl (c x hx)
theorem root_factsW (e : Env w K R H σ ρ) (o : Own w K R H σ st fp) {i : Nat} {xs : List D} (h : (peek ρ st i).bind walk? = some xs) : ∃ v d B, σ[i]? = some (some v) ∧ Rep w K H v d B ∧ walk? d = some xs ∧ ∀ x ∈ B, R x ∨ False ∨ ∃ j, some i = some j ∧ x ∈ fp j := by
  rw [Option.bind_eq_some_iff] at h
  obtain ⟨d, h1, h2⟩ := h
  obtain ⟨v, B, hv, r, c⟩ := peek_of o e h1
  refine ⟨v, d, B, hv, r, h2, fun x hx => ?_⟩
  rcases c with ⟨_, rfl⟩ | c
  · exact .inr (.inr ⟨i, rfl, hx⟩)
  · exact .inl (c x hx)
theorem imp_seqN {i : Nat} {Rr : L2.It → Hp → Prop} (h : tI w K (.seqN i) (wIt Φ (.seqN i)) σ H Rr) : iSeq K (tVar i) σ H Rr := by
  obtain ⟨ρ, st, fp, R, Qd, e, o, h, k⟩ := h
  rw [wIt] at h
  cases hp : (peek ρ st i).bind walk? with
  | none => rw [hp] at h; exact h.elim
  | some xs =>
    rw [hp] at h
    obtain ⟨v, d, B, hv, r, hi, hB⟩ := root_factsW e o hp
    obtain ⟨a, rfl, z⟩ := wk_walk r hi
    refine ⟨_, hv, a, rfl, ?_⟩
    have x0 : Ext (Mine fp) H H (fun x => Mine fp x ∨ False) := (Ext.refl _ _).mono fun x hx => hx.elim id False.elim
    rcases z with ⟨z1, z2⟩ | ⟨z1, z2⟩ | ⟨od, kvs, z1, z2⟩
    · exact .inl ⟨z1, k _ st H fp _ (fun _ => False) (fun x => x ∈ B) h x0 o (fun _ z => z.elim) (fun _ z => z.elim) hB z2 (fun z => by cases z)⟩
    · exact .inr (.inl ⟨z1, k _ st H fp _ (fun _ => False) (fun x => x ∈ B) h x0 o (fun _ z => z.elim) (fun _ z => z.elim) hB z2 (fun z => by cases z)⟩)
    · exact .inr (.inr ⟨od, kvs, z1, k _ st H fp _ (fun _ => False) (fun x => x ∈ B) h x0 o (fun _ z => z.elim) (fun _ z => z.elim) hB z2 (fun z => by cases z)⟩)
theorem imp_seqA {i : Nat} {f : String} {Rr : L2.It → Hp → Prop} (h : tI w K (.seqA i f) (wIt Φ (.seqA i f)) σ H Rr) : iSeq K (tFld K (tVar i) (s_ f)) σ H Rr := by
  obtain ⟨ρ, st, fp, R, Qd, e, o, h, k⟩ := h
  rw [wIt] at h
  split at h
  rotate_left
  · exact h.elim
  rename_i c fs hp
  split at h
  rotate_left
  · exact h.elim
  rename_i xs hb
  rw [Option.bind_eq_some_iff] at hb
  obtain ⟨z, hz, hi⟩ := hb
  obtain ⟨v, B, hv, r, hw⟩ := peek_of o e hp
  cases r with
  | @obj a dx _ fv _ B' ck sub ea nn rs =>
    obtain ⟨vz, A, g1, g2, g3, _, p, hp1, hp2⟩ := obj_get nn rs hz
    have hfa : f ∈ atsOf c := by rw [← hp2]; exact sub p hp1
    have hB : ∀ x ∈ A, R x ∨ False ∨ ∃ j, some i = some j ∧ x ∈ fp j := fun x hx => by
      have hx' := List.mem_cons_of_mem a (g3 x hx)
      rcases hw with ⟨_, hw⟩ | hw
      · rw [hw] at hx'; exact .inr (.inr ⟨i, rfl, hx'⟩)
      · exact .inl (hw x hx')
    obtain ⟨b, rfl, zz⟩ := wk_walk g2 hi
    have x0 : Ext (Mine fp) H H (fun x => Mine fp x ∨ False) := (Ext.refl _ _).mono fun x hx => hx.elim id False.elim
    refine ⟨_, hv, a, _, dx, fv, .ref b, rfl, ea, ck.1, ck.2 f hfa, g1, b, rfl, ?_⟩
    rcases zz with ⟨z1, z2⟩ | ⟨z1, z2⟩ | ⟨od, kvs, z1, z2⟩
    · exact .inl ⟨z1, k _ st H fp _ (fun _ => False) (fun x => x ∈ A) h x0 o (fun _ z => z.elim) (fun _ z => z.elim) hB z2 (fun z => by cases z)⟩
    · exact .inr (.inl ⟨z1, k _ st H fp _ (fun _ => False) (fun x => x ∈ A) h x0 o (fun _ z => z.elim) (fun _ z => z.elim) hB z2 (fun z => by cases z)⟩)
    · exact .inr (.inr ⟨od, kvs, z1, k _ st H fp _ (fun _ => False) (fun x => x ∈ A) h x0 o (fun _ z => z.elim) (fun _ z => z.elim) hB z2 (fun z => by cases z)⟩)
theorem imp_enumN {i : Nat} {Rr : L2.It → Hp → Prop} (h : tI w K (.enumN i) (wIt Φ (.enumN i)) σ H Rr) : iEnumS K (tCons (tVar i) tNil) σ H Rr := by
  obtain ⟨ρ, st, fp, R, Qd, e, o, h, k⟩ := h
  rw [wIt] at h
  cases hp : (peek ρ st i).bind items? with
  | none => rw [hp] at h; exact h.elim
  | some xs =>
    rw [hp] at h
    obtain ⟨v, d, B, hv, r, hi, hB⟩ := root_facts e o hp
    obtain ⟨a, rfl, z⟩ := wk_seq r hi
    refine ⟨_, hv, a, rfl, ?_⟩
    have x0 : Ext (Mine fp) H H (fun x => Mine fp x ∨ False) := (Ext.refl _ _).mono fun x hx => hx.elim id False.elim
    rcases z with ⟨z1, _, z2⟩ | ⟨z1, _, z2⟩
    · exact .inl ⟨z1, k _ st H fp _ (fun _ => False) (fun x => x ∈ B) h x0 o (fun _ z => z.elim) (fun _ z => z.elim) hB z2 (fun z => by cases z)⟩
    · exact .inr ⟨z1, k _ st H fp _ (fun _ => False) (fun x => x ∈ B) h x0 o (fun _ z => z.elim) (fun _ z => z.elim) hB z2 (fun z => by cases z)⟩

/-! ### names that are bound to be looked at -/
theorem Env.bind (e : Env w K R H σ ρ) {i : Nat} {v : V} {d : D} {B : List Addr} (r : Rep w K H v d B) (hB : ∀ x ∈ B, R x) : Env w K R H (σ.set i (some v)) (ρ.set i (some d)) where
  len := by rw [List.length_set, List.length_set]; exact e.len
  at_ j d' q := by
    by_cases h : i = j
    · subst h
      by_cases hi : i < ρ.length
      · rw [get_set_self hi] at q
        cases q
        exact ⟨v, B, get_set_self (by rw [← e.len]; exact hi), r, hB⟩
      · rw [List.getElem?_eq_none (by rw [List.length_set]; omega)] at q; cases q
    · rw [get_set_ne h] at q ⊢
      exact e.at_ j d' q
  there := e.there
theorem Own.bind (o : Own w K R H σ st fp) {i : Nat} {v : V} (h : ∀ d, st[i]? ≠ some (some d)) : Own w K R H (σ.set i (some v)) st fp where
  len := by rw [List.length_set]; exact o.len
  at_ j d q := by
    have hn : i ≠ j := fun z => h d (by rw [z]; exact q)
    rw [get_set_ne hn]
    exact o.at_ j d q
  dis := o.dis
  off := o.off
  out := o.out
  short := o.short
  tabc := o.tabc
  tabs := o.tabs
  base := o.base
theorem bindRs : ∀ {is : List Nat} {vs : List V} {ds : List D} {B : List Addr} {σ : L2.St} {ρ : DS}, is.length = ds.length → Reps w K H vs ds B → (∀ x ∈ B, R x) → Env w K R H σ ρ → Own w K R H σ st fp → (∀ i ∈ is, ∀ d, st[i]? ≠ some (some d)) → ∀ {Qs : L2.St → Hp → Prop},
    (∀ σ', Env w K R H σ' ((is.zip ds).foldl (fun s p => s.set p.1 (some p.2)) ρ) → Own w K R H σ' st fp → σ'.length = σ.length → (∀ j, j ∉ is → σ'[j]? = σ[j]?) → Qs σ' H) → gNames is vs σ H Qs
  | [], _, [], _, σ, ρ, _, rs, _, e, o, _, Qs, k => by
    cases rs
    exact ⟨rfl, k σ e o rfl fun _ _ => rfl⟩
  | [], _, _ :: _, _, _, _, hl, _, _, _, _, _, _, _ => by simp at hl
  | _ :: _, _, [], _, _, _, hl, _, _, _, _, _, _, _ => by simp at hl
  | i :: is, _, d :: ds, _, σ, ρ, hl, rs, hB, e, o, hn, Qs, k => by
    cases rs with
    | @cons v vs _ _ A B r rs =>
      refine ⟨v, vs, rfl, ?_⟩
      show gNames is vs (σ.set i (some v)) H Qs
      have e1 := e.bind (i := i) r fun x hx => hB x (List.mem_append_left _ hx)
      have o1 := o.bind (i := i) (v := v) (hn i List.mem_cons_self)
      refine bindRs (by simpa using hl) rs (fun x hx => hB x (List.mem_append_right _ hx)) e1 o1 (fun j hj => hn j (List.mem_cons_of_mem _ hj)) fun σ' e2 o2 h1 h2 => ?_
      refine k σ' e2 o2 (by rw [h1, List.length_set]) fun j hj => ?_
      rw [List.mem_cons, not_or] at hj
      rw [h2 j hj.2, get_set_ne (Ne.symm hj.1)]
theorem bindR {tg : Tg} {v : V} {x : D} {B : List Addr} {Qd : DS → Prop} (h : setTg ρ tg x Qd) (y : Yd w K H v x B) (ynm : ∀ i, tg = .nm i → Rep w K H v x B) (hB : ∀ a ∈ B, R a) (e : Env w K R H σ ρ) (o : Own w K R H σ st fp) (hn : ∀ i ∈ tg.slots, ∀ d, st[i]? ≠ some (some d)) {Qs : L2.St → Hp → Prop}
    (k : ∀ σ' ρ', Qd ρ' → Env w K R H σ' ρ' → Own w K R H σ' st fp → σ'.length = σ.length → (∀ j, j ∉ tg.slots → σ'[j]? = σ[j]?) → Qs σ' H) : gTg K tg v σ H Qs := by
  cases tg with
  | nm i =>
    rw [setTg] at h
    exact k _ _ h (e.bind (ynm i rfl) hB) (o.bind (hn i List.mem_cons_self)) (by rw [List.length_set]) fun j hj => get_set_ne (Ne.symm (by simpa [Tg.slots] using hj))
  | tp is =>
    have y' : ∃ a vs ds, v = .ref a ∧ SqT K H a vs ∧ x = .tup ds ∧ Reps w K H vs ds B := by
      rcases y with r | y
      · cases x <;> first | (simp only [setTg] at h; done) | skip
        cases r with
        | tup t rs => exact ⟨_, _, _, rfl, t.sq, rfl, rs⟩
      · exact y
    obtain ⟨a, vs, ds, rfl, hq, rfl, rs⟩ := y'
    rw [setTg] at h
    refine ⟨a, vs, rfl, hq, by rw [rs.length, h.1], ?_⟩
    exact bindRs h.1 rs hB e o hn fun σ' e' o' h1 h2 => k σ' _ h.2 e' o' h1 h2

theorem Own.less {R' : Addr → Prop} (o : Own w K R' H σ st fp) (h : ∀ x, R x → R' x) (hb : ∀ x u, Tab.h0 x = some u → R x) : Own w K R H σ st fp := ⟨o.len, o.at_, o.dis, o.off, fun x i hx => o.out x i (h x hx), o.short, o.tabc, o.tabs, fun x u e => ⟨hb x u e, (o.base x u e).2⟩⟩
theorem Own.drop {L : List Nat} {σ' : L2.St} (o : Own w K R H σ st fp) (hL : tabI ∉ L) (hl : σ'.length = σ.length) (hs : ∀ (i : Nat) (d : D), i ∉ L → st[i]? = some (some d) → σ'[i]? = σ[i]?) : Own w K R H σ' (Dl.hide L st) (cut fp L) :=
  (o.hide (T := fun _ => False) hL (fun _ z => z.elim) hl hs).less (fun x hx => .inl hx) fun x u e => (o.base x u e).1
theorem Own.stay {S : Addr → Prop} (o : Own w K R H σ st fp) (s : Stay S H H') (h : ∀ i, ∀ x ∈ fp i, S x) (hR : ∀ x, R x → S x) : Own w K R H' σ st fp :=
  have kp : ∀ x ∈ fp tabI, ∀ u, H x = some u → H' x = some u := fun x hx u e => s x u e fun _ => h _ x hx
  ⟨o.len, fun i d e => let ⟨v, h1, h2, h3⟩ := o.at_ i d e; ⟨v, h1, h2.stay s (h i), h3⟩, o.dis, o.off, o.out, o.short, fun x hx => by
    have := o.tabc x hx
    cases q : H x with
    | none => rw [q] at this; exact this.elim
    | some u => rw [kp x hx u q]; rw [q] at this; exact this, fun p hp => (o.tabs p hp).keep kp, fun x u e => let ⟨g1, g2⟩ := o.base x u e; ⟨g1, s x u g2 fun _ => hR x g1⟩⟩
/-! ### THE COMPREHENSION -/
theorem drop_cons {α : Type} {xs : List α} {i : Nat} {x : α} (h : xs[i]? = some x) : xs.drop i = x :: xs.drop (i + 1) := by
  obtain ⟨hi, rfl⟩ := List.getElem?_eq_some_iff.mp h
  exact List.drop_eq_getElem_cons hi
theorem imp_comp {elt : E} {tg : Tg} {it : It} {ifs : Es} {own : List (String × Nat)} (hsl : ∀ i ∈ tg.slots, i ∈ own.map (·.2)) (hpr : it.pr = true → ∀ i, tg ≠ .nm i) (hLt : tabI ∉ it.root.toList ++ own.map (·.2)) {Q : VK} (h : tE w K (wE Φ (.comp elt tg it ifs own)) σ H Q) :
    tLc (tI w K it (wIt Φ it)) (gTg K tg) (tBl w K (wT Φ ifs)) (tE w K (wE Φ elt)) (own.map (·.2)) σ H Q := by
  obtain ⟨ρ, st, fp, R, Qd, e, o, h, k⟩ := h
  rw [wE] at h
  refine ⟨ρ, st, fp, R, _, e, o, h, fun xs st1 H1 fp1 J T C q x1 o1 hTm hTt hC wk _ => ?_⟩
  intro D hD
  obtain ⟨hlim, q⟩ := q
  have e1 := e.keep' o x1
  generalize hvs : own.map (·.2) = vs at *
  generalize hL : it.root.toList ++ vs = L at *
  have hrL : ∀ i, it.root = some i → i ∈ L := fun i hi => by rw [← hL, hi]; simp
  have hvL : ∀ i, i ∈ vs → i ∈ L := fun i hi => by rw [← hL]; exact List.mem_append_right _ hi
  let R' := Lk R T fp1 L
  let σ' := wipe σ vs
  have ol : Own w K R' H1 σ' (hide L st1) (cut fp1 L) := o1.hide hLt hTm (wipe_length σ vs) fun i d hi _ => wipe_off fun z => hi (hvL i z)
  have el : Env w K R' H1 σ' (hide vs (lock ρ st1 it.root)) := e1.lock o1 hrL hTt vs (wipe_length σ vs) fun i d hi _ => wipe_off hi
  have hCR : ∀ x, C x → R' x := fun x hx => by
    rcases hC x hx with z | z | ⟨i, hi, z⟩
    · exact .inl z
    · exact .inr (.inl z)
    · exact .inr (.inr ⟨i, hrL i hi, z⟩)
  have hDR : ¬ R' D := fun z => el.there D z hD
  let St := fun (i : Nat) (H2 : Hp) => ∃ st2 fp2 acc us B, wComp (wE Φ elt) (wT Φ ifs) tg (hide vs (lock ρ st1 it.root)) (xs.drop i) acc st2 (fun ys st2 => Qd (.lst ys) (restore L st1 st2)) ∧ Own w K R' H2 σ' st2 fp2 ∧
    H2 D = some (.lst us) ∧ Reps w K H2 us acc B ∧ (D :: B).Nodup ∧ (∀ x ∈ D :: B, ¬ Mine fp2 x) ∧ acc.length ≤ i ∧ Ext (Mine (cut fp1 L)) H1 H2 (fun x => Mine fp2 x ∨ x ∈ D :: B)
  have stayC : ∀ {H2 : Hp} {M : Addr → Prop}, Ext (Mine (cut fp1 L)) H1 H2 M → Stay C H1 H2 := fun {H2 M} x a u ha hc => ol.stayOut x a u ha fun z => fun ⟨j, hj⟩ => ol.out a j (hCR a (hc z)) hj
  refine ⟨fun i m H2 => m = xs.length - i ∧ i ≤ xs.length ∧ St i H2, ⟨xs.length, by simp, Nat.zero_le _, ?_⟩, ?_⟩
  · have s : Sub H1 (upd H1 D (.lst [])) := Sub.new hD
    refine ⟨hide L st1, cut fp1 L, [], [], [], q, ol.sub s, upd_same, .nil, by simp, fun x hx => ?_, Nat.le_refl _, Ext.subNew s fun x hx => ?_⟩
    · obtain rfl : x = D := by simpa using hx
      exact fun m => ol.there m hD
    · rcases hx with hx | hx
      · exact .inl hx
      · obtain rfl : x = D := by simpa using hx
        exact .inr hD
  rintro i m H2 ⟨rfl, hi, st2, fp2, acc, us, B, wc, o2, hDl, rs, nd, dj, hacc, x2⟩
  have e2 : Env w K R' H2 σ' (hide vs (lock ρ st1 it.root)) := el.keep' ol x2
  obtain ⟨wk1, wk2⟩ := wk H2 (stayC x2) i
  cases hx : xs[i]? with
  | none =>
    have hie : i = xs.length := by rw [List.getElem?_eq_none_iff] at hx; omega
    refine .inl ⟨wk2 hie, ?_⟩
    rw [hie, List.drop_length] at wc
    have wc : Qd (.lst acc) (restore L st1 st2) := wc
    have hll : st1.length = st2.length := by rw [o1.len, o2.len, wipe_length]
    have ou := o1.unhide hLt o2 ol x2 (σ1 := σ) (wipe_length σ vs).symm (fun _ _ _ _ => rfl) (fun j d hj _ => (wipe_off fun z => hj (hvL j z)).symm) hll
    refine k (.lst acc) _ (.ref D) H2 _ (D :: B) wc ?_ ou (.lst hDl rs) nd fun x hx m => ?_
    · refine (ext1' x1).trans ⟨fun x u hxx hm => x2.keep x u hxx fun z => hm (mine_cut z), fun x hx => ?_⟩
      rcases hx with hx | hx
      · rcases mine_un hx with ⟨j, hj, z⟩ | z
        · exact .inl ⟨j, z⟩
        · exact (x2.from_ x (.inl z)).imp mine_cut id
      · exact (x2.from_ x (.inr hx)).imp mine_cut id
    · rcases mine_un m with ⟨j, hj, z⟩ | z
      · have hR : R' x := .inr (.inr ⟨j, hj, z⟩)
        rcases x2.from_ x (.inr hx) with ⟨j', hj'⟩ | z'
        · exact ol.out x j' hR hj'
        · exact el.there x hR z'
      · exact dj x hx z
  | some x =>
    obtain ⟨g1, g2⟩ := wk1 x hx
    have hlt : i < xs.length := (List.getElem?_eq_some_iff.mp hx).1
    refine .inr ⟨g1, St (i + 1), fun H' hS => ⟨xs.length - (i + 1), by omega, rfl, hlt, hS⟩, fun v H3 hy => ?_⟩
    obtain ⟨s3, Bx, yd, ynm, hBx⟩ := g2 v H3 hy
    rw [drop_cons hx] at wc
    rw [wComp] at wc
    have o3 := o2.sub s3
    have e3 := e2.sub s3
    have hst2 : ∀ j ∈ tg.slots, ∀ d, st2[j]? ≠ some (some d) := fun j hj d hd => by
      obtain ⟨u, hu, _⟩ := o2.at_ j d hd
      have := wipe_on (σ := σ) (hsl j hj)
      rw [show σ'[j]? = (wipe σ vs)[j]? from rfl, this] at hu
      split at hu <;> cases hu
    refine bindR wc yd (fun j hj => ynm (by cases hp : it.pr with | false => rfl | true => exact absurd hj (hpr hp j))) (fun a ha => hCR a (hBx a ha)) e3 o3 hst2 fun σ4 ρ4 wt e4 o4 hl4 h4 => ?_
    refine ⟨wipe_same (by rw [hl4, wipe_length]) fun j hj => h4 j fun z => hj (hsl j z), ?_⟩
    refine ⟨ρ4, st2, fp2, R', _, e4, o4, wt, fun b st5 H5 fp5 q5 x5 o5 => ?_⟩
    have e5 := e4.keep' o4 x5
    have rs3 := rs.sub s3
    have hD3 := s3 D _ hDl
    -- the list that is built stays
    have nM : ∀ y ∈ D :: B, ¬ Mine fp2 y := dj
    have hD5 : H5 D = some (.lst us) := x5.keep D _ hD3 (nM D List.mem_cons_self)
    have rs5 : Reps w K H5 us acc B := rs3.stay (o4.stayOut x5) fun y hy => nM y (List.mem_cons_of_mem _ hy)
    have th3 : ∀ y ∈ D :: B, H3 y ≠ none := fun y hy => by
      rcases List.mem_cons.mp hy with rfl | hy
      · rw [hD3]; exact fun z => nomatch z
      · exact fun z => by have := rs3.chg y hy; rw [z] at this; exact this
    have dj5 : ∀ y ∈ D :: B, ¬ Mine fp5 y := fun y hy m => by
      rcases x5.from_ y m with z | z
      · exact nM y hy z
      · exact th3 y hy z
    have back : ∀ {y : Addr}, (Mine fp2 y ∨ H3 y = none) → Mine (cut fp1 L) y ∨ H1 y = none := fun {y} hy => by
      rcases hy with hy | hy
      · exact x2.from_ y (.inl hy)
      · by_cases hm : Mine (cut fp1 L) y
        · exact .inl hm
        · right
          cases z : H1 y with
          | none => rfl
          | some u => rw [s3 y u (x2.keep y u z hm)] at hy; cases hy
    have xk : ∀ {y : Addr} {u : HO}, H1 y = some u → ¬ Mine (cut fp1 L) y → H3 y = some u ∧ ¬ Mine fp2 y ∧ y ∉ D :: B := fun {y u} hy hm => by
      refine ⟨s3 y u (x2.keep y u hy hm), fun m => ?_, fun m => ?_⟩
      · rcases x2.from_ y (.inl m) with z | z
        · exact hm z
        · rw [hy] at z; cases z
      · rcases x2.from_ y (.inr m) with z | z
        · exact hm z
        · rw [hy] at z; cases z
    have drop : ∀ {H6 : Hp} {st6 : DS} {fp6 : Fp}, Own w K R' H6 σ4 st6 fp6 → Own w K R' H6 σ' (hide tg.slots st6) (cut fp6 tg.slots) := fun o6 => o6.drop (fun z => hLt (hvL _ (hsl _ z))) hl4.symm fun j d hj _ => (h4 j hj).symm
    simp only
    split at q5
    · rename_i hb
      rw [if_pos hb]
      refine tE_at e5 o5 q5 fun y st6 v6 H6 fp6 B6 q6 x6 o6 r6 nd6 dj6 => ?_
      have hD6 : H6 D = some (.lst us) := x6.keep D _ hD5 (dj5 D List.mem_cons_self)
      have rs6 : Reps w K H6 us acc B := rs5.stay (o5.stayOut x6) fun y hy => dj5 y (List.mem_cons_of_mem _ hy)
      have th5 : ∀ y ∈ D :: B, H5 y ≠ none := fun y hy => by
        rcases List.mem_cons.mp hy with rfl | hy
        · rw [hD5]; exact fun z => nomatch z
        · exact fun z => by have := rs5.chg y hy; rw [z] at this; exact this
      have ap6 : ∀ y ∈ D :: B, ¬ Mine fp6 y ∧ y ∉ B6 := fun y hy => by
        refine ⟨fun m => ?_, fun m => ?_⟩
        · rcases x6.from_ y (.inl m) with z | z
          · exact dj5 y hy z
          · exact th5 y hy z
        · rcases x6.from_ y (.inr m) with z | z
          · exact dj5 y hy z
          · exact th5 y hy z
      obtain ⟨ndD, ndB⟩ := List.nodup_cons.mp nd
      have hDB6 : D ∉ B6 := (ap6 D List.mem_cons_self).2
      have sy : Stay (fun x => x ≠ D) H6 (upd H6 D (.lst (us ++ [v6]))) := fun x u hx c => by
        by_cases hxa : x = D
        · subst hxa; rw [hD6] at hx; cases hx; exact absurd rfl (c trivial)
        · rw [upd_ne hxa]; exact hx
      have rs7 := rs6.stay sy fun y hy z => ndD (by rw [← z]; exact hy)
      have r7 := r6.stay sy fun y hy z => hDB6 (by rw [← z]; exact hy)
      have o7 : Own w K R' (upd H6 D (.lst (us ++ [v6]))) σ' (hide tg.slots st6) (cut fp6 tg.slots) := (drop o6).stay sy (fun j y hy z => (ap6 D List.mem_cons_self).1 (by rw [← z]; exact ⟨j, (cut_mem hy).2⟩)) fun y hy z => hDR (by rw [← z]; exact hy)
      refine ⟨us, hD6, by rw [rs.length]; exact Nat.lt_of_lt_of_le (Nat.lt_of_le_of_lt hacc hlt) (Nat.le_trans hlim lim_line), hide tg.slots st6, cut fp6 tg.slots, acc ++ [y], us ++ [v6], B ++ B6, q6, o7, upd_same, rs7.snoc r7, ?_, fun z hz m => ?_, by simp; omega, ?_⟩
      · refine List.nodup_cons.mpr ⟨fun z => ?_, ?_⟩
        · rcases List.mem_append.mp z with z | z
          · exact ndD z
          · exact hDB6 z
        · rw [List.nodup_append]
          exact ⟨ndB, nd6, fun a ha b hb z => (ap6 a (List.mem_cons_of_mem _ ha)).2 (by rw [z]; exact hb)⟩
      · have m := mine_cut m
        rcases List.mem_cons.mp hz with rfl | hz
        · exact (ap6 _ List.mem_cons_self).1 m
        · rcases List.mem_append.mp hz with hz | hz
          · exact (ap6 z (List.mem_cons_of_mem _ hz)).1 m
          · exact dj6 z hz m
      · refine ⟨fun y u hy hm => ?_, fun y hy => ?_⟩
        · obtain ⟨z1, z2, z3⟩ := xk hy hm
          have z4 := x5.keep y u z1 z2
          have z5 : ¬ Mine fp5 y := fun m => (x5.from_ y m).elim z2 fun z => by rw [z1] at z; cases z
          have z6 := x6.keep y u z4 z5
          rw [upd_ne fun z => z3 (by rw [z]; exact List.mem_cons_self)]
          exact z6
        · have b5 : ∀ y, (Mine fp6 y ∨ y ∈ B6) → Mine (cut fp1 L) y ∨ H1 y = none := fun y hy => by
            rcases x6.from_ y hy with z | z
            · exact back (x5.from_ y z)
            · by_cases hm : Mine fp2 y
              · exact back (.inl hm)
              · refine back (.inr ?_)
                cases z' : H3 y with
                | none => rfl
                | some u => rw [x5.keep y u z' hm] at z; cases z
          rcases hy with hy | hy
          · exact b5 y (.inl (mine_cut hy))
          · rcases List.mem_cons.mp hy with rfl | hy
            · exact x2.from_ _ (.inr List.mem_cons_self)
            · rcases List.mem_append.mp hy with hy | hy
              · exact x2.from_ y (.inr (List.mem_cons_of_mem _ hy))
              · exact b5 y (.inr hy)
    · rename_i hb
      rw [if_neg hb]
      refine ⟨hide tg.slots st5, cut fp5 tg.slots, acc, us, B, q5, drop o5, hD5, rs5, nd, fun y hy m => dj5 y hy (mine_cut m), Nat.le_succ_of_le hacc, fun y u hy hm => ?_, fun y hy => ?_⟩
      · obtain ⟨z1, z2, z3⟩ := xk hy hm
        exact x5.keep y u z1 z2
      · rcases hy with hy | hy
        · exact back (x5.from_ y (mine_cut hy))
        · exact x2.from_ y (.inr hy)
end
end Dl
set_option maxHeartbeats 2000000
/-! DlMain: expressions are what they are worth. -/
namespace Dl
open PySem PySem.Spec PyProof.Rows L2
variable [Tab]
def isB : Expr → Bool
  | .BoolOp _ _ _ => true | _ => false
section
variable {w : World} {K : PySem.W.Frag} {Φ : Phi} {N : List Str} {cs : List (String × K0)} {lv : Nat} {sc : Scope} {fn : Str → Bool} {X : Cx}
/-- an expression, as a value and as a test -/
def Ok (w : World) (K : PySem.W.Frag) (Φ : Phi) (X : Cx) (e : E) (ex : Expr) : Prop := PE X ex (tE w K (wE Φ e)) ∧ PT X ex (tTs w K (wE Φ e)) ∧ (isB ex = true → PW X ex (tTs w K (wE Φ e)))
theorem Ok.val {e : E} {ex : Expr} (h : PE X ex (tE w K (wE Φ e))) (he : ∀ whole, isTrue ex X.env whole = (do let v ← whole; standAt ex.pos; holding [v] (truthy v))) (hb : isB ex = false) : Ok w K Φ X e ex :=
  ⟨h, PT.imp (pt_val h he) fun σ H Q q => ts_of (fun _ _ _ z => z) q, fun z => by rw [hb] at z; cases z⟩
theorem none_op (neg : Bool) : OpR X (compareOp (if neg then .IsNot else .Is)) (rNone neg) := by
  intro pins s σ H x y v u Q I rx ry q
  obtain ⟨rfl, q⟩ := q
  cases ry
  cases neg with
  | false => exact is_none_gen ⟨.bl _, H, I, by rw [rx.none_iff]; rfl, by simpa using q⟩
  | true => exact isnot_none_gen ⟨.bl _, H, I, by rw [rx.none_iff]; rfl, by simpa using q⟩
theorem Bf.boot (f : Bf) : bootBuiltins (s_ f.nm) = some f.callee := by cases f <;> decide +kernel
theorem ty_boot (t : Ty) : bootBuiltins (s_ t.nm) = some (.type t.nm) := by cases t <;> decide +kernel
theorem ty_mem (t : Ty) : t.nm ∈ bnames := by cases t <;> decide
theorem bf_mem (f : Bf) : f.nm ∈ bnames := by cases f <;> decide
theorem s_name (f : String) (h : decide (s_ f ≠ "__name__") = true) : s_ f ≠ "__name__" := by simpa using h
/-- a built-in by its name -/
theorem pe_bf (G : Good w K Φ N cs lv sc fn X) {f : Bf} {g x : Expr} {xs : List Expr} {pos : Pos} {t : TA} (hg : chkGl sc f.nm g = true) (ha : PA X (x :: xs) t) (hst : (x :: xs).all notStar = true) : PE X (.Call g (x :: xs) [] pos) (tCB (rBf w K f) t) := by
  obtain ⟨p, rfl, g1, g2, g3⟩ := gl_of G hg
  have hc := bf_ok (X := X) G.calm G.hu f
  rw [G.w_, G.K_] at hc
  have hm := G.blt _ (bf_mem f)
  have hv := Bf.boot f
  have hst' := hst
  simp only [List.all_cons, Bool.and_eq_true] at hst'
  have he := star_each hst'.1 xs X.env
  have hpl := no_stars hst'.2 X.env pos
  generalize hcal : f.callee = c at hc hv
  cases f <;> (simp only [Bf.callee] at hcal; subst hcal)
  · exact pe_callB hc g1 hm hv ha g3 g2 he hpl
  · exact pe_callTy hc g1 hm hv ha g3 g2 he hpl
  · exact pe_callTy hc g1 hm hv ha g3 g2 he hpl
  · exact pe_callB hc g1 hm hv ha g3 g2 he hpl
  · exact pe_callB hc g1 hm hv ha g3 g2 he hpl
  · exact pe_callB hc g1 hm hv ha g3 g2 he hpl
  · exact pe_callB hc g1 hm hv ha g3 g2 he hpl
  · exact pe_callB hc g1 hm hv ha g3 g2 he hpl
  · exact pe_callTy hc g1 hm hv ha g3 g2 he hpl
  · exact pe_callB hc g1 hm hv ha g3 g2 he hpl
  · exact pe_callTy hc g1 hm hv ha g3 g2 he hpl
theorem pe_tyNm (G : Good w K Φ N cs lv sc fn X) {t : Ty} {e : Expr} (h : chkGl sc t.nm e = true) : PE X e (tC (.ty t.nm)) := by
  obtain ⟨p, rfl, g1, g2, g3⟩ := gl_of G h
  exact pe_bltn g1 (G.blt _ (ty_mem t)) (ty_boot t) rfl g3 g2
def tys : List Ty → TA
  | [] => tNil
  | t :: ts => tCons (tC (.ty t.nm)) (tys ts)
theorem pa_tys (G : Good w K Φ N cs lv sc fn X) : ∀ {ts : List Ty} {es : List Expr}, ts.length = es.length → ((ts.zip es).all fun p => chkGl sc p.1.nm p.2 && notStar p.2) = true → PA X es (tys ts)
  | [], [], _, _ => pa_nil
  | [], _ :: _, h, _ => by simp at h
  | _ :: _, [], h, _ => by simp at h
  | t :: ts, e :: es, hl, h => by
    simp only [List.zip_cons_cons, List.all_cons, Bool.and_eq_true] at h
    exact pa_cons (pe_tyNm G h.1.1) (pa_tys G (by simpa using hl) h.2) (star_each h.1.2 es X.env)
theorem tys_run {Q : List V → Hp → Prop} {σ : L2.St} {H : Hp} : ∀ {ts : List Ty}, Q (ts.map fun t => .ty t.nm) H → tys ts σ H Q
  | [], h => h
  | t :: ts, h => tys_run (ts := ts) (Q := fun vs H' => Q (.ty t.nm :: vs) H') h
theorem isi_cls : ∀ ts : List Ty, Paired ClsV (ts.map fun t => .ty t.nm) (ts.map fun t => Value.type t.nm)
  | [] => .nil
  | t :: ts => .cons (.ty _) (isi_cls ts)
theorem imp_isi2 {ts : List Ty} {es : Es} (ok : es.ok = true) {t1 : TE} (ht : trs w K Φ es = [t1]) {σ : L2.St} {H : Hp} {Q : VK} (h : tE w K (wE Φ (.isi ts es)) σ H Q)
    {Qv : V → Hp → Prop} (hq : ∀ v H1 x B, Rep w K H1 v x B → isiOk x = true → (∀ H2, Sub H1 H2 → Q (.bl (isi x ts)) H2) → Qv v H1) : t1 σ H Qv := by
  have key := imp_ops ok (P := fun ds z => ∃ x, ds = [x] ∧ isiOk x = true ∧ z = .bl (isi x ts)) (fun ρ st Q => by rw [wE]) (fun Q ds st1 hc => ?_) h (Qv := fun vs H1 => match vs with | [v] => Qv v H1 | _ => False) (fun ds vs H1 z br hp nw => ?_)
  · rw [ht] at key; exact key
  · match ds, hc with
    | [x], hc => exact ⟨_, ⟨x, rfl, hc.1, rfl⟩, hc.2⟩
    | [], hc => exact hc.elim
    | _ :: _ :: _, hc => exact hc.elim
  · obtain ⟨x, rfl, hk, rfl⟩ := hp
    obtain ⟨v, B, rfl, r⟩ := br.one
    exact hq v H1 x B r hk fun H2 s => nw _ _ _ s (.bl _) List.nodup_nil (fun _ z => nomatch z)
theorem pe_isiD (G : Good w K Φ N cs lv sc fn X) {ts : List Ty} {f x c : Expr} {es : Es} {pos : Pos} {t1 : TE} (hf : chkGl sc "isinstance" f = true) (hc : chkTy sc ts c = true) (hx : PE X x t1) (hst : notStar x = true) (ok : es.ok = true) (ht : trs w K Φ es = [t1]) :
    PE X (.Call f [x, c] [] pos) (tE w K (wE Φ (.isi ts es))) := by
  obtain ⟨p, rfl, g1, g2, g3⟩ := gl_of G hf
  have hm := G.blt "isinstance" (by decide)
  have sub : ∀ {t2 : TE} {r : List V → Hp → VK → Prop}, PE X c t2 → notStar c = true → CallR X (.builtin "isinstance") r → (∀ σ H v (Q : VK) y B, Rep w K H v y B → isiOk y = true → (∀ H2, Sub H H2 → Q (.bl (isi y ts)) H2) → t2 σ H fun u H2 => r [v, u] H2 Q) →
      PE X (.Call (.Name (s_ "isinstance") p) [x, c] [] pos) (tE w K (wE Φ (.isi ts es))) := fun {t2 r} h2 hs2 hr hk => by
    have hall : [c].all notStar = true := by simp [hs2]
    refine PE.imp (pe_callB hr g1 hm boot_isinstance (pa_cons hx (pa_cons h2 pa_nil (star_each hs2 _ _)) (star_each hst _ _)) g3 g2 (star_each hst _ _) (no_stars hall X.env pos)) fun σ H Q q => ?_
    exact imp_isi2 ok ht q fun v H1 y B r hy k => hk σ H1 v Q y B r hy k
  unfold chkTy at hc
  split at hc
  · rename_i t y q
    refine sub (pe_tyNm G hc) rfl call_isi fun σ H v Q y B r hy k => ?_
    rw [G.K_]
    exact ⟨v, _, _, _, isi y [t], rfl, .ty _, r.ty hy, by rw [kit_isi hy t]; simp [isi], k H (Sub.refl H)⟩
  · simp only [Bool.and_eq_true, decide_eq_true_eq] at hc
    refine sub (L2.pe_tup (pa_tys G hc.1.1 hc.2)) rfl call_isiT fun σ H v Q y B r hy k => ?_
    rw [G.K_]
    refine tys_run ⟨by rw [List.length_map]; exact Nat.le_trans hc.1.2 (by decide), fun p hp => ?_⟩
    exact ⟨v, p, _, _, _, isi y _, rfl, upd_same, isi_cls _, (r.sub (Sub.new hp)).ty hy, kit_isis hy _, k _ (Sub.new hp)⟩
  · cases hc
/-! ### slices, ranges as lists, displays, what is spoilt -/
def rSl (w : World) (K : PySem.W.Frag) : V → Option Int → Option Int → Hp → VK → Prop := fun v lo hi H Q => ∃ x z B, Rep w K H v x B ∧ slice x lo hi = some z ∧ New w K H z Q
theorem sIx_eq (n d : Nat) (o : Option Int) : HT.sIx n d o = sIx n d o := by cases o <;> rfl
theorem cutV_eq (xs : List V) (lo hi : Option Int) : cutV xs lo hi = cutL xs lo hi := by
  unfold cutV cutL
  rw [sIx_eq, sIx_eq]
theorem Reps.cut {H : Hp} {vs : List V} {ds : List D} (r : Reps w K H vs ds []) (lo hi : Option Int) : Reps w K H (cutL vs lo hi) (cutL ds lo hi) [] := by
  have hl := r.length
  unfold cutL
  rw [hl]
  obtain ⟨B1, B2, e, _, r2⟩ := Reps.split (sIx ds.length 0 lo) r
  obtain ⟨rfl, rfl⟩ := List.append_eq_nil_iff.mp e.symm
  obtain ⟨C1, C2, e2, r3, _⟩ := Reps.split (sIx ds.length ds.length hi - sIx ds.length 0 lo) r2
  obtain ⟨rfl, rfl⟩ := List.append_eq_nil_iff.mp e2.symm
  exact r3
theorem cutL_whole {α : Type} {xs : List α} {lo hi : Option Int} (h : sIx xs.length 0 lo = 0 ∧ sIx xs.length xs.length hi = xs.length) : cutL xs lo hi = xs := by
  unfold cutL
  rw [h.1, h.2]
  simp
theorem sl_ok : SlR X (rSl X.w X.K) := by
  intro pins s σ H v u vl vu lo hi sl Q I rx hs pl pu h
  obtain ⟨x, z, B, r, e, q⟩ := h
  unfold slice at e
  split at e
  · split at e
    · rename_i him
      cases e
      cases r with
      | lst e1 rs => exact sl_list pins s σ H _ u vl vu lo hi sl Q I rx hs pl pu ⟨_, _, rfl, SqL.of e1, fun p hp => by rw [cutV_eq]; exact q.lst ((rs.nil_of him).cut lo hi) p hp⟩
    · cases e
  · split at e
    · rename_i him
      cases e
      cases r with
      | @tup a vs ds _ e1 rs =>
        cases rx
        obtain ⟨its, rv, ht, hz⟩ := I.tuple e1.sq
        have hlen : its.toArray.size = vs.length := by rw [List.size_toArray]; exact rv.length.symm
        have hl2 := rs.length
        by_cases hw : HT.sIx vs.length 0 lo = 0 ∧ HT.sIx vs.length vs.length hi = vs.length
        · refine ⟨"tuple", _, PyProof.Rows.slot_tuple_getitem.lookup, ht.typeIs, ?_⟩
          refine getItem_tuple_whole ht hs pl pu (by rw [hlen]; exact hw) ⟨.ref a, H, I, rfl, ?_⟩
          rw [sIx_eq, sIx_eq, hl2] at hw
          rw [cutL_whole hw] at q
          exact q.old (.tup e1 (rs.nil_of him))
        · refine ⟨"tuple", _, PyProof.Rows.slot_tuple_getitem.lookup, ht.typeIs, ?_⟩
          refine HT.getItem_tuple_cut ht hs pl pu (by rw [hlen]; exact hw) ?_ (by rw [hlen]; exact hz)
          rw [hlen]
          have rc : Vals (cutL vs lo hi) ((its.drop (HT.sIx vs.length 0 lo)).take (HT.sIx vs.length vs.length hi - HT.sIx vs.length 0 lo)) := by
            rw [← cutV_eq]
            exact (rv.drop (HT.sIx vs.length 0 lo)).take (HT.sIx vs.length vs.length hi - HT.sIx vs.length 0 lo)
          have hzc : (cutL vs lo hi).length ≤ sizeLine := by rw [← cutV_eq]; exact Nat.le_trans (cutV_length vs lo hi) hz
          exact ⟨.ref _, _, lay_tup I rc hzc, rfl, q.tup ((rs.nil_of him).cut lo hi) _ _ (I.hok.fresh (Nat.le_refl _)) rfl⟩
    · cases e
  · cases e
theorem imp_slcT {l h : Bool} {es : Es} (ok : es.ok = true) {σ : L2.St} {H : Hp} {Q : VK} (hh : tE w K (wE Φ (.slc l h es)) σ H Q) {Qv : List V → Hp → Prop}
    (hq : ∀ ds vs H1 z, BReps w K H1 vs ds → sliceOf l h ds = some z → New w K H1 z Q → Qv vs H1) : seqT (trs w K Φ es) σ H Qv := by
  refine imp_ops ok (P := fun ds z => sliceOf l h ds = some z) (fun ρ st Q => by rw [wE]) (fun Q ds st1 hc => ?_) hh hq
  cases hb : sliceOf l h ds with
  | none => simp only [hb] at hc
  | some z => simp only [hb] at hc; exact ⟨z, rfl, hc⟩
theorem so00 {ds : List D} {z : D} (h : sliceOf false false ds = some z) : ∃ x, ds = [x] ∧ slice x none none = some z := by
  unfold sliceOf at h; split at h <;> simp_all
theorem so10 {ds : List D} {z : D} (h : sliceOf true false ds = some z) : ∃ x a, ds = [x, .int a] ∧ slice x (some a) none = some z := by
  unfold sliceOf at h; split at h <;> simp_all; exact ⟨_, _, ⟨rfl, rfl⟩, h⟩
theorem so01 {ds : List D} {z : D} (h : sliceOf false true ds = some z) : ∃ x a, ds = [x, .int a] ∧ slice x none (some a) = some z := by
  unfold sliceOf at h; split at h <;> simp_all; exact ⟨_, _, ⟨rfl, rfl⟩, h⟩
theorem so11 {ds : List D} {z : D} (h : sliceOf true true ds = some z) : ∃ x a b, ds = [x, .int a, .int b] ∧ slice x (some a) (some b) = some z := by
  unfold sliceOf at h; split at h <;> simp_all; exact ⟨_, _, _, ⟨rfl, rfl, rfl⟩, h⟩
theorem slc00 {es : Es} (ok : es.ok = true) {t1 : TE} (ht : trs w K Φ es = [t1]) {σ : L2.St} {H : Hp} {Q : VK} (h : tE w K (wE Φ (.slc false false es)) σ H Q) : tSl (rSl w K) t1 tNoPart tNoPart σ H Q := by
  have key := imp_slcT ok h (Qv := fun vs H1 => match vs with | [x] => rSl w K x none none H1 Q | _ => False) fun ds vs H1 z br hz nw => ?_
  · rw [ht] at key; exact key
  · obtain ⟨x, rfl, hz⟩ := so00 hz
    obtain ⟨v, B, rfl, r⟩ := br.one
    exact ⟨_, z, B, r, hz, nw⟩
theorem slc10 {es : Es} (ok : es.ok = true) {t1 t2 : TE} (ht : trs w K Φ es = [t1, t2]) {σ : L2.St} {H : Hp} {Q : VK} (h : tE w K (wE Φ (.slc true false es)) σ H Q) : tSl (rSl w K) t1 (tPart t2) tNoPart σ H Q := by
  have key := imp_slcT ok h (Qv := fun vs H1 => match vs with | [x, y] => ∃ i, y = .int i ∧ rSl w K x (some i) none H1 Q | _ => False) fun ds vs H1 z br hz nw => ?_
  · rw [ht] at key; exact key
  · obtain ⟨x, a, rfl, hz⟩ := so10 hz
    obtain ⟨v, u, B, C, rfl, r, r2⟩ := br.two
    cases r2
    exact ⟨_, rfl, _, z, B, r, hz, nw⟩
theorem slc01 {es : Es} (ok : es.ok = true) {t1 t2 : TE} (ht : trs w K Φ es = [t1, t2]) {σ : L2.St} {H : Hp} {Q : VK} (h : tE w K (wE Φ (.slc false true es)) σ H Q) : tSl (rSl w K) t1 tNoPart (tPart t2) σ H Q := by
  have key := imp_slcT ok h (Qv := fun vs H1 => match vs with | [x, y] => ∃ i, y = .int i ∧ rSl w K x none (some i) H1 Q | _ => False) fun ds vs H1 z br hz nw => ?_
  · rw [ht] at key; exact key
  · obtain ⟨x, a, rfl, hz⟩ := so01 hz
    obtain ⟨v, u, B, C, rfl, r, r2⟩ := br.two
    cases r2
    exact ⟨_, rfl, _, z, B, r, hz, nw⟩
theorem BReps.three {H : Hp} {vs : List V} {d e f : D} (h : BReps w K H vs [d, e, f]) : ∃ v u y B C F, vs = [v, u, y] ∧ Rep w K H v d B ∧ Rep w K H u e C ∧ Rep w K H y f F := by
  cases h with
  | cons r t =>
    obtain ⟨u, y, C, F, rfl, r2, r3⟩ := BReps.two t
    obtain ⟨B, r⟩ := r
    exact ⟨_, _, _, B, C, F, rfl, r, r2, r3⟩
theorem pe_slice3 {r : V → Option Int → Option Int → Hp → VK → Prop} {e lo hi : Expr} {te tl th : TE} {pos p2 : Pos} (hr : SlR X r) (he : PE X e te) (hl : PE X lo tl) (hu : PE X hi th) :
    PE X (.Subscript e (.Slice (some lo) (some hi) none p2) pos) (fun σ H Q => te σ H fun x H1 => tl σ H1 fun y H2 => th σ H2 fun z H3 => ∃ i j, y = .int i ∧ z = .int j ∧ r x (some i) (some j) H3 Q) := by
  refine ⟨fun pins s σ H Q I h => ?_⟩
  refine Subscript_ (thn (he.run pins s σ H _ I h) fun v s1 ⟨x, H1, I1, r1, q1⟩ => ?_)
  refine wpAny_Slice ?_
  rw [evalPart_some]
  refine thn (hl.run pins s1 σ H1 _ I1 q1) fun vl s2 ⟨l, H2, I2, pl, q2⟩ => ?_
  rw [evalPart_some]
  refine thn (hu.run pins s2 σ H2 _ I2 q2) fun vu s3 ⟨u, H3, I3, pu, q3⟩ => ?_
  rw [evalPart_none]
  refine wpAny_pure ?_
  obtain ⟨i, j, rfl, rfl, q3⟩ := q3
  obtain ⟨ti, rfl⟩ := pl
  obtain ⟨tj, rfl⟩ := pu
  have I4 : Inv X pins σ H3 { s3 with heap := s3.heap.push { cls := .type "slice", data := .fields #[.int i ti, .int j tj, .none] } } := I3.kept (t' := s3.toks) fun b ob q => Heap.get?_push_of_some _ q
  obtain ⟨T, id, hT, ht, hg⟩ := hr pins { s3 with heap := s3.heap.push { cls := .type "slice", data := .fields #[.int i ti, .int j tj, .none] } } σ H3 x v (.int i ti) (.int j tj) (some i) (some j) s3.heap.objs.size Q I4 r1 (Heap.IsSliceOf.new ..) (.int i ti) (.int j tj) q3
  show wpAny (model X.prog X.w) X.A (subscriptTail e (.Slice (some lo) (some hi) none p2) v (.ref s3.heap.objs.size)) (EP X pins σ Q) X.xe { s3 with heap := s3.heap.push { cls := .type "slice", data := .fields #[.int i ti, .int j tj, .none] } }
  exact tail_any (ops := [.ref s3.heap.objs.size, v]) ht hT hg (by with_unfolding_all rfl)
theorem slc11 {es : Es} (ok : es.ok = true) {t1 t2 t3 : TE} (ht : trs w K Φ es = [t1, t2, t3]) {σ : L2.St} {H : Hp} {Q : VK} (h : tE w K (wE Φ (.slc true true es)) σ H Q) : t1 σ H fun x H1 => t2 σ H1 fun y H2 => t3 σ H2 fun z H3 => ∃ i j, y = .int i ∧ z = .int j ∧ rSl w K x (some i) (some j) H3 Q := by
  have key := imp_slcT ok h (Qv := fun vs H1 => match vs with | [x, y, z] => ∃ i j, y = .int i ∧ z = .int j ∧ rSl w K x (some i) (some j) H1 Q | _ => False) fun ds vs H1 z br hz nw => ?_
  · rw [ht] at key; exact key
  · obtain ⟨x, a, b, rfl, hz⟩ := so11 hz
    obtain ⟨v, u, y, B, C, F, rfl, r, r2, r3⟩ := br.three
    cases r2
    cases r3
    exact ⟨_, _, rfl, rfl, _, z, B, r, hz, nw⟩
/-! list(range(..)), tuple(range(..)) -/
theorem pe_tupRgN {e : Expr} {te : L2.St → Hp → (Int → Int → Hp → Prop) → Prop} {p pos : Pos} (hc : X.calm = true) (hg : Gl X "tuple") (hm : X.mg "tuple" = none) (he : PRg X e te) (na : starEach [e] X.env = (false, eval e X.env) :: starEach [] X.env := by rfl) :
    PE X (.Call (.Name "tuple" p) [e] [] pos) (fun σ H Q => te σ H fun a b H1 => RgOk a b ∧ ∀ q o, H1 q = none → o.dict = none → Q (.ref q) (upd H1 q (.frz o (.tup (rgV a b))))) := by
  refine ⟨fun pins s σ H Q I h => ?_⟩
  refine Call_ (ld_blt I hg hm boot_tuple (PyProof.Rows.callWith_type1 (args_cons (thn (he pins s σ H _ I h) fun x s1 ⟨r, a, b, t, u, v, H1, ex, hr, I1, ok, q⟩ => args_nil ?_) na) na))
  subst ex
  obtain ⟨b1, b2, b3, b4, b5⟩ := ok
  refine call_tuple_range (n := (b - a).toNat) (I1.ok.hd hc) hr (small_one b1 b2 b3 b4) (rangeSize_nat a b) b5 fun h' tk acc hk hi => ?_
  have I2 : Inv X pins σ H1 { s1 with heap := h', toks := tk } := I1.kept hk
  have hz : (rgV a b).length ≤ sizeLine := by rw [rgV_length, sizeLine_eq]; omega
  have L := lay_tup I2 (vals_rg hi) hz
  rw [Array.toArray_toList] at L
  exact ⟨.ref h'.objs.size, _, L, rfl, q _ _ (I2.hok.fresh (Nat.le_refl _)) rfl⟩
theorem rgV_D {H : Hp} (a b : Int) : Reps w K H (rgV a b) (rangeD a b) [] := by
  unfold rgV rangeD
  induction List.range (b - a).toNat with
  | nil => exact .nil
  | cons k ks ih => have := Reps.cons (Rep.int (w := w) (K := K) (H := H) (a + (k : Int))) ih; simpa using this
theorem rg_small {a b : Int} (h1 : smallI a = true) (h2 : smallI b = true) : RgOk a b := by
  simp only [smallI, Bool.and_eq_true, decide_eq_true_eq] at h1 h2
  exact ⟨by omega, by omega, by omega, by omega, by omega⟩
theorem lrng_T {tp two : Bool} {es : Es} (ok : es.ok = true) {σ : L2.St} {H : Hp} {Q : VK} (hh : tE w K (wE Φ (.lrng tp two es)) σ H Q) {Qv : List V → Hp → Prop}
    (hq : ∀ ds vs H1 z, BReps w K H1 vs ds → lrngOf tp two ds = some z → New w K H1 z Q → Qv vs H1) : seqT (trs w K Φ es) σ H Qv := by
  refine imp_ops ok (P := fun ds z => lrngOf tp two ds = some z) (fun ρ st Q => by rw [wE]) (fun Q ds st1 hc => ?_) hh hq
  cases hb : lrngOf tp two ds with
  | none => simp only [hb] at hc
  | some z => simp only [hb] at hc; exact ⟨z, rfl, hc⟩
/-- what a range that is listed asks -/
def RgEnd : Bool → VK → Int → Int → Hp → Prop
  | false, Q, a, b, H => RgOk a b ∧ ∀ q, H q = none → Q (.ref q) (upd H q (.lst (rgV a b)))
  | true, Q, a, b, H => RgOk a b ∧ ∀ q o, H q = none → o.dict = none → Q (.ref q) (upd H q (.frz o (.tup (rgV a b))))
theorem RgEnd.of {tp : Bool} {Q : VK} {a b : Int} {H : Hp} (h : RgOk a b) (nw : New w K H (if tp then .tup (rangeD a b) else .lst (rangeD a b)) Q) : RgEnd tp Q a b H := by
  cases tp with
  | false => exact ⟨h, New.lst (by simpa using nw) (rgV_D a b)⟩
  | true => exact ⟨h, New.tup (by simpa using nw) (rgV_D a b)⟩
theorem lrng1 {tp : Bool} {es : Es} (ok : es.ok = true) {t1 : TE} (ht : trs w K Φ es = [t1]) {σ : L2.St} {H : Hp} {Q : VK} (h : tE w K (wE Φ (.lrng tp false es)) σ H Q) : tRg1 t1 σ H (RgEnd tp Q) := by
  have key := lrng_T ok h (Qv := fun vs H1 => match vs with | [x] => ∃ n, x = .int n ∧ RgEnd tp Q 0 n H1 | _ => False) fun ds vs H1 z br hz nw => ?_
  · rw [ht] at key; exact key
  · unfold lrngOf at hz
    split at hz
    · split at hz
      · rename_i hs
        cases hz
        obtain ⟨v, B, rfl, r⟩ := br.one
        cases r
        exact ⟨_, rfl, .of (rg_small (by decide) hs) nw⟩
      · cases hz
    · rename_i h1; cases h1
    · cases hz
theorem lrng2 {tp : Bool} {es : Es} (ok : es.ok = true) {t1 t2 : TE} (ht : trs w K Φ es = [t1, t2]) {σ : L2.St} {H : Hp} {Q : VK} (h : tE w K (wE Φ (.lrng tp true es)) σ H Q) : tRg2 t1 t2 σ H (RgEnd tp Q) := by
  have key := lrng_T ok h (Qv := fun vs H1 => match vs with | [x, y] => ∃ i j, x = .int i ∧ y = .int j ∧ RgEnd tp Q i j H1 | _ => False) fun ds vs H1 z br hz nw => ?_
  · rw [ht] at key; exact key
  · unfold lrngOf at hz
    split at hz
    · rename_i h1; cases h1
    · split at hz
      · rename_i hs
        cases hz
        simp only [Bool.and_eq_true] at hs
        obtain ⟨v, u, B, C, rfl, r, r2⟩ := br.two
        cases r
        cases r2
        exact ⟨_, _, rfl, rfl, .of (rg_small hs.1 hs.2) nw⟩
      · cases hz
    · cases hz
theorem pe_lrng (G : Good w K Φ N cs lv sc fn X) {tp : Bool} {f e : Expr} {pos : Pos} {te : L2.St → Hp → (Int → Int → Hp → Prop) → Prop} (hf : chkGl sc (if tp then "tuple" else "list") f = true) (he : PRg X e te) (hst : notStar e = true) :
    PE X (.Call f [e] [] pos) (fun σ H Q => te σ H (RgEnd tp Q)) := by
  have na := star_each hst [] X.env
  cases tp with
  | false =>
    obtain ⟨p, rfl, g1, g2, g3⟩ := gl_of G hf
    exact pe_listRg G.calm g1 (G.blt "list" (by decide)) he na
  | true =>
    obtain ⟨p, rfl, g1, g2, g3⟩ := gl_of G hf
    exact pe_tupRgN G.calm g1 (G.blt "tuple" (by decide)) he na
/-- {k: v}, k a tuple -/
def tDispT (w : World) (K : PySem.W.Frag) (tk tv : TE) : TE := fun σ H Q => ∀ p, H p = none → tk σ (upd H p (.dK [])) fun x H1 => tv σ H1 fun y H2 => H2 p = some (.dK []) ∧
  ∃ t dk k, x = .ref t ∧ nk (.tup dk) = some k ∧ k.depth ≤ 8 ∧ Rep w K H2 (.ref t) (.tup dk) [] ∧ ((p == sysModules) = false → Q (.ref p) (upd H2 p (tO w p [(k, t, y)])))
theorem pe_dispT {X : Cx} (hu : X.A.units + 100 < cLine) {pos : Pos} {k v : Expr} {tk tv : TE} (hk : PE X k tk) (hv : PE X v tv) : PE X (.Dict [some k] [v] pos) (tDispT X.w X.K tk tv) := by
  refine ⟨fun pins s σ H Q I q => ?_⟩
  have hn := I.hok.fresh (Nat.le_refl s.heap.objs.size)
  have I1 := I.laid (a := s.heap.objs.size) (o := .dK []) (h' := s.heap.push { cls := .type "dict", data := .dict #[] }) (t' := s.toks) (fun _ _ q => Heap.get?_push_of_some _ q) (Nat.le_refl _) (dk_empty s.heap I.big)
  have pp := (pps_cons (pos := pos) hk hv pps_nil).run pins _ σ _ (fun ps H2 => match ps with
    | [(x, y)] => H2 s.heap.objs.size = some (.dK []) ∧ ∃ t dk k, x = .ref t ∧ nk (.tup dk) = some k ∧ k.depth ≤ 8 ∧ Rep X.w X.K H2 (.ref t) (.tup dk) [] ∧ ((s.heap.objs.size == sysModules) = false → Q (.ref s.heap.objs.size) (upd H2 s.heap.objs.size (tO X.w s.heap.objs.size [(k, t, y)])))
    | _ => False) I1 (q _ hn)
  refine wpAny_Dict_any rfl rfl (by simp) (by simp) (thn pp fun ws s2 ⟨ps, H2, I2, rel, q2⟩ => ?_)
  match ps, rel, q2 with
  | [(x, y)], .cons (a := _) (b := (u1, u2)) ⟨rx, ry⟩ .nil, q2 =>
    obtain ⟨e, t, dk, k', rfl, hk1, hk2, rt, q2⟩ := q2
    cases rx
    obtain ⟨xs, kvs, B', hm, hd, hz, th, rt0, _, _, mu⟩ := dT_at I2 (ds := []) (.dK e .nil) (fun _ h => nomatch h)
    cases rt0
    have hkey : (nestedKind X.prog X.w).is s2.heap k' t := ⟨Rep.key I2 hk1 rt rfl, hk2⟩
    have hroom : (nestedKind X.prog X.w).room X.A := by show X.A.units + 8 < cLine; omega
    unfold storeAll
    rw [List.forIn_cons]
    refine wpAny_bind (wpAny_bind (wpAny_dictSet_heap (hsz := hz) hroom hkey hm fun h' hm' hs' => wpAny_pure ?_))
    dsimp only
    rw [List.forIn_nil]
    refine wpAny_pure ?_
    obtain ⟨o, es, ep, g1, g2, g3, g4, g5, g6⟩ := hm'
    have th' := th.put (k := k') (t := t) ry
    have et : tput [] k' t y = [(k', t, y)] := by simp [tput, tget]
    rw [et] at th'
    have hp : Paired (fun (p : NestedKey × Addr × V) (e : DictEntry) => e.hash = p.1.hash X.w ∧ e.key = .ref p.2.1 ∧ RelV p.2.2 e.val) [(k', t, y)] es.toList := by
      rw [g4]
      clear g4 g5 g6 hz
      generalize storedH xs k' t u2 = ys at th'
      generalize [(k', t, y)] = zs at th'
      induction th' with
      | nil => exact .nil
      | @cons x p _ _ z _ ih =>
        refine .cons ?_ ih
        obtain ⟨z1, z2, z3⟩ := z
        exact ⟨by rw [← z1]; rfl, by rw [← z2]; rfl, z3⟩
    exact ⟨.ref s.heap.objs.size, _, d_write (ob := tO X.w s.heap.objs.size [(k', t, y)]) I2 mu hs' ⟨o, g1⟩ ⟨⟨o, es, ep, g1, g2, g3, hp⟩, ⟨o, g1⟩, fun h1 h2 ⟨o', es', ep', y1, y2⟩ hk => ⟨o', es', ep', hk _ y1, y2⟩⟩, rfl, q2 hd⟩
theorem imp_dctT {k v : E} {σ : L2.St} {H : Hp} {Q : VK} (h : tE w K (wE Φ (.dctT k v)) σ H Q) : tDispT w K (tE w K (wE Φ k)) (tE w K (wE Φ v)) σ H Q := by
  obtain ⟨ρ, st, fp, R, Qd, e, o, h, kk⟩ := h
  rw [wE] at h
  intro p hp
  have s : Sub H (upd H p (.dK [])) := Sub.new hp
  have hpm : ¬ Mine fp p := fun m => o.there m hp
  have hpR : ¬ R p := fun m => e.there p m hp
  refine tE_at (e.sub s) (o.sub s) h fun kd st1 v1 H1 fp1 B1 q1 x1 o1 r1 nd1 dj1 => ?_
  have e1 := (e.sub s).keep' (o.sub s) x1
  have hp1 : H1 p = some (.dK []) := x1.keep p _ upd_same hpm
  have hpm1 : ¬ (Mine fp1 p ∨ p ∈ B1) := fun m => by
    rcases x1.from_ p m with z | z
    · exact hpm z
    · rw [upd_same] at z; cases z
  refine tE_at e1 o1 q1 fun vd st2 v2 H2 fp2 B2 q2 x2 o2 r2 nd2 dj2 => ?_
  obtain ⟨hk, hk0, q2⟩ := q2
  have hp2 : H2 p = some (.dK []) := x2.keep p _ hp1 fun m => hpm1 (.inl m)
  have hpm2 : ¬ (Mine fp2 p ∨ p ∈ B2) := fun m => by
    rcases x2.from_ p m with z | z
    · exact hpm1 (.inl z)
    · rw [hp1] at z; cases z
  obtain ⟨dk, rfl⟩ := kd2 hk0
  have hn := (keyOk_kd hk).1
  obtain ⟨k', hk1, hk2⟩ := nk_of hn
  have eB : B1 = [] := r1.immut (key_immut hn)
  subst eB
  have r1' := r1.out o1 x2 dj1
  obtain ⟨t, rfl⟩ : ∃ t, v1 = .ref t := by cases r1; exact ⟨_, rfl⟩
  refine ⟨hp2, t, dk, k', rfl, hk1, by omega, r1', fun hd => ?_⟩
  have sy : Stay (fun x => x ≠ p) H2 (upd H2 p (tO w p [(k', t, v2)])) := fun x u hx c => by
    by_cases hxp : x = p
    · subst hxp; rw [hp2] at hx; cases hx; exact absurd rfl (c trivial)
    · rw [upd_ne hxp]; exact hx
  have r2' := r2.stay sy fun x hx z => hpm2 (.inr (by rw [← z]; exact hx))
  have r3 := r1'.stay sy fun x hx => nomatch hx
  have o3 : Own w K R (upd H2 p (tO w p [(k', t, v2)])) σ st2 fp2 := by
    exact o2.stay sy (fun i x hx z => hpm2 (.inl ⟨i, by rw [← z]; exact hx⟩)) fun x hx z => hpR (by rw [← z]; exact hx)
  have rk : Rep w K (upd H2 p (tO w p [(k', t, v2)])) (.ref p) (.dct [(.tup dk, vd)]) (p :: B2) := by
    have := RepT.cons hk1 (by omega) r3 r2' .nil
    rw [List.append_nil] at this
    exact .dT upd_same ⟨hd, by simp⟩ (by simp) (by simp [sizeLine_eq]) this
  refine kk _ st2 _ _ fp2 (p :: B2) q2 ⟨fun x u hx hm => ?_, fun x hx => ?_⟩ o3 rk (List.nodup_cons.mpr ⟨fun z => hpm2 (.inr z), nd2⟩) fun x hx m => ?_
  · have hxp : x ≠ p := fun z => by rw [z, hp] at hx; cases hx
    rw [upd_ne hxp]
    refine x2.keep x u (x1.keep x u (s x u hx) hm) fun m => ?_
    rcases x1.from_ x (.inl m) with z | z
    · exact hm z
    · rw [s x u hx] at z; cases z
  · have back1 : ∀ x, (Mine fp1 x ∨ x ∈ ([] : List Addr)) → Mine fp x ∨ H x = none := fun x hx => by
      rcases x1.from_ x hx with z | z
      · exact .inl z
      · right
        cases q : H x with
        | none => rfl
        | some u => rw [s x u q] at z; cases z
    have back2 : ∀ x, (Mine fp2 x ∨ x ∈ B2) → Mine fp x ∨ H x = none := fun x hx => by
      rcases x2.from_ x hx with z | z
      · exact back1 x (.inl z)
      · by_cases hm : Mine fp x
        · exact .inl hm
        · right
          cases q : H x with
          | none => rfl
          | some u => rw [x1.keep x u (s x u q) hm] at z; cases z
    rcases hx with hx | hx
    · exact back2 x (.inl hx)
    · rcases List.mem_cons.mp hx with rfl | hx
      · exact .inr hp
      · exact back2 x (.inr hx)
  · rcases List.mem_cons.mp hx with rfl | hx
    · exact hpm2 (.inl m)
    · exact dj2 x hx m
theorem imp_dct1 {k v : E} {σ : L2.St} {H : Hp} {Q : VK} (h : tE w K (wE Φ (.dct1 k v)) σ H Q) : tDisp [(tE w K (wE Φ k), tE w K (wE Φ v))] σ H Q := by
  obtain ⟨ρ, st, fp, R, Qd, e, o, h, kk⟩ := h
  rw [wE] at h
  intro p hp
  have s : Sub H (upd H p (.dK [])) := Sub.new hp
  have hpm : ¬ Mine fp p := fun m => o.there m hp
  have hpR : ¬ R p := fun m => e.there p m hp
  refine tE_at (e.sub s) (o.sub s) h fun kd st1 v1 H1 fp1 B1 q1 x1 o1 r1 nd1 dj1 => ?_
  have e1 := (e.sub s).keep' (o.sub s) x1
  have hp1 : H1 p = some (.dK []) := x1.keep p _ upd_same hpm
  have hpm1 : ¬ (Mine fp1 p ∨ p ∈ B1) := fun m => by
    rcases x1.from_ p m with z | z
    · exact hpm z
    · rw [upd_same] at z; cases z
  refine tE_at e1 o1 q1 fun vd st2 v2 H2 fp2 B2 q2 x2 o2 r2 nd2 dj2 => ?_
  obtain ⟨hk, hk0, q2⟩ := q2
  have hp2 : H2 p = some (.dK []) := x2.keep p _ hp1 fun m => hpm1 (.inl m)
  have hpm2 : ¬ (Mine fp2 p ∨ p ∈ B2) := fun m => by
    rcases x2.from_ p m with z | z
    · exact hpm1 (.inl z)
    · rw [hp1] at z; cases z
  obtain ⟨key, rfl⟩ := keyD_of hk0
  have ek := keyD_rep r1
  subst ek
  refine ⟨hp2, [(key, v2)], rfl, by simp, ?_⟩
  have em : mergeK [] [(key, v2)] = [(key, v2)] := by simp [mergeK, putK]
  rw [em]
  have sy : Stay (fun x => x ≠ p) H2 (upd H2 p (.dK [(key, v2)])) := fun x u hx c => by
    by_cases hxp : x = p
    · subst hxp; rw [hp2] at hx; cases hx; exact absurd rfl (c trivial)
    · rw [upd_ne hxp]; exact hx
  have r2' := r2.stay sy fun x hx z => hpm2 (.inr (by rw [← z]; exact hx))
  have o3 : Own w K R (upd H2 p (.dK [(key, v2)])) σ st2 fp2 := by
    exact o2.stay sy (fun i x hx z => hpm2 (.inl ⟨i, by rw [← z]; exact hx⟩)) fun x hx z => hpR (by rw [← z]; exact hx)
  have rk : Rep w K (upd H2 p (.dK [(key, v2)])) (.ref p) (.dct [(keyD key, vd)]) (p :: B2) := by
    have := RepK.cons (k := key) r2' .nil
    rw [List.append_nil] at this
    exact .dK upd_same this
  refine kk _ st2 _ _ fp2 (p :: B2) q2 ⟨fun x u hx hm => ?_, fun x hx => ?_⟩ o3 rk (List.nodup_cons.mpr ⟨fun z => hpm2 (.inr z), nd2⟩) fun x hx m => ?_
  · have hxp : x ≠ p := fun z => by rw [z, hp] at hx; cases hx
    rw [upd_ne hxp]
    refine x2.keep x u (x1.keep x u (s x u hx) hm) fun m => ?_
    rcases x1.from_ x (.inl m) with z | z
    · exact hm z
    · rw [s x u hx] at z; cases z
  · have back1 : ∀ x, (Mine fp1 x ∨ x ∈ B1) → Mine fp x ∨ H x = none := fun x hx => by
      rcases x1.from_ x hx with z | z
      · exact .inl z
      · right
        cases q : H x with
        | none => rfl
        | some u => rw [s x u q] at z; cases z
    have back2 : ∀ x, (Mine fp2 x ∨ x ∈ B2) → Mine fp x ∨ H x = none := fun x hx => by
      rcases x2.from_ x hx with z | z
      · exact back1 x (.inl z)
      · by_cases hm : Mine fp x
        · exact .inl hm
        · right
          cases q : H x with
          | none => rfl
          | some u => rw [x1.keep x u (s x u q) hm] at z; cases z
    rcases hx with hx | hx
    · exact back2 x (.inl hx)
    · rcases List.mem_cons.mp hx with rfl | hx
      · exact .inr hp
      · exact back2 x (.inr hx)
  · rcases List.mem_cons.mp hx with rfl | hx
    · exact hpm2 (.inl m)
    · exact dj2 x hx m
/-- what is spoilt is forgotten -/
theorem three_ofE {a b c : Expr} {ts : List TE} (h : Paired (fun e t => PE X e t) [a, b, c] ts) : ∃ t1 t2 t3, ts = [t1, t2, t3] ∧ PE X a t1 ∧ PE X b t2 ∧ PE X c t3 := by
  cases h with
  | cons h1 h2 =>
    obtain ⟨t2, t3, rfl, p2, p3⟩ := two_of (es := .nil) h2
    exact ⟨_, _, _, rfl, h1, p2, p3⟩
theorem mmd_of {i : Nat} {k : Int} {c : K0} {ex : Expr} (h : chkE N cs sc fn (.mmd i k c) ex = true) : ∃ (o : Expr) (j : Nat) (p1 p2 ap : Pos) (c' : Const) (j2 : Nat) (p3 cp : Pos), ex = .Call (.Attribute (.Subscript o (.Constant (.int k) j p1) p2) (s_ "append") ap) [.Constant c' j2 p3] [] cp ∧ (ap.endLine == cp.line) = true ∧ chkNm N sc i o = true ∧ chkK c c' = true := by
  cases ex with
  | Call f as kws cp =>
    cases f with
    | Attribute o nm ap =>
      cases o with
      | Subscript o ix p2 =>
        cases ix with
        | Constant cc j p1 =>
          cases cc with
          | int k' =>
            rcases as with _ | ⟨x, _ | ⟨y, as⟩⟩ <;> rcases kws with _ | ⟨kw, kws⟩ <;> (try (simp only [chkE, reduceCtorEq, Bool.false_eq_true] at h; done))
            cases x with
            | Constant c' j2 p3 =>
              simp only [chkE, Bool.and_eq_true, decide_eq_true_eq] at h
              obtain ⟨⟨⟨⟨rfl, rfl⟩, h3⟩, h4⟩, h5⟩ := h
              exact ⟨o, j, p1, p2, ap, c', j2, p3, cp, rfl, h3, h4, h5⟩
            | _ => simp only [chkE, reduceCtorEq, Bool.false_eq_true] at h
          | _ => simp only [chkE, reduceCtorEq, Bool.false_eq_true] at h
        | _ => simp only [chkE, reduceCtorEq, Bool.false_eq_true] at h
      | _ => simp only [chkE, reduceCtorEq, Bool.false_eq_true] at h
    | _ => simp only [chkE, reduceCtorEq, Bool.false_eq_true] at h
  | _ => simp only [chkE, reduceCtorEq, Bool.false_eq_true] at h
theorem imp_mmd (hw : X.w = w) (hK : X.K = K) {i : Nat} {k : Int} {c : K0} {σ : L2.St} {H : Hp} {Q : VK} (h : tE w K (wE Φ (.mmd i k c)) σ H Q) : tBMD X (s_ "append") (tOp (rIxB w K) (tVar i) (tC (.int k))) (seqT [tC c.v]) σ H Q := by
  subst hw hK
  obtain ⟨ρ, st, fp, R, Qd, e, o, h, kk⟩ := h
  rw [wE] at h
  split at h
  · rename_i xs hs
    split at h
    · rename_i l hl
      obtain ⟨hlt, h⟩ := h
      obtain ⟨v, hv, r, nd⟩ := o.at_ i _ hs
      refine ⟨v, hv, .tup xs, .int k, .lst l, _, _, r, .int k, hl, fun u B ru hB => ?_⟩
      cases ru with
      | @lst a vs _ B1 e1 rs =>
        refine ⟨"list", "list.append", _, PySem.F.plainAttrs_list, PySem.F.slot_list_append, PySem.F.type_list_append, mt_append, ty_lst e1, ?_⟩
        refine ⟨a, vs, c.v, rfl, rfl, e1, by rw [rs.length]; exact Nat.lt_of_lt_of_le hlt lim_line, ?_⟩
        have ha : a ∈ fp i := hB a List.mem_cons_self
        have sy : Stay (fun x => x ≠ a) H (upd H a (.lst (vs ++ [c.v]))) := lst_stay e1
        have o2 : Own X.w X.K R (upd H a (.lst (vs ++ [c.v]))) σ (st.set i none) (updF fp i []) := by
          refine (o.move i).stay sy (fun j x hx z => ?_) fun x hx z => o.out x i hx (by rw [z]; exact ha)
          by_cases hji : j = i
          · rw [hji, updF_same (o.ne hs)] at hx; cases hx
          · rw [updF_ne hji] at hx
            exact hji (o.dis j i x hx (by rw [z]; exact ha))
        refine kk _ _ _ _ _ [] h ⟨fun x u hx hm => ?_, fun x hx => ?_⟩ o2 .non List.nodup_nil fun _ z => nomatch z
        · rw [upd_ne fun z => hm ⟨i, by rw [z]; exact ha⟩]; exact hx
        · rcases hx with hx | hx
          · exact .inl hx.move
          · cases hx
    · exact h.elim
  · exact h.elim
theorem imp_frz {ex : E} {σ : L2.St} {H : Hp} {Q : VK} (h : tE w K (wE Φ (.frz ex)) σ H Q) : tFrz (tE w K (wE Φ ex)) σ H Q := by
  obtain ⟨ρ, st, fp, R, Qd, e, o, h, k⟩ := h
  rw [wE] at h
  refine tE_at e o h fun d st1 v H1 fp1 B q x1 o1 r nd dj => ?_
  have hB0 : ∀ y ∈ B, Mine fp y ∨ H y = none := fun y hy => x1.from_ y (.inr hy)
  have hnR : ∀ y ∈ B, ¬ R y := fun y hy hr => by
    rcases hB0 y hy with ⟨i, z⟩ | z
    · exact o.out y i hr z
    · exact e.there y hr z
  cases d with
  | dct ds =>
    simp only [frzD] at q
    split at q
    rotate_left
    · rename_i z; split at z <;> first | exact q.elim | cases z
    rename_i z hz
    split at hz
    rotate_left
    · cases hz
    rename_i hf
    cases hz
    obtain ⟨a, rfl⟩ : ∃ a, v = .ref a := by cases r <;> exact ⟨_, rfl⟩
    have hf' : ∀ p ∈ ds, p.1.kd = 0 ∧ p.2.immut = true := fun p hp => by have := List.all_eq_true.mp hf p hp; simpa using this
    obtain ⟨kvs, B', e1, rk, rfl⟩ := dK_at r fun p hp => (hf' p hp).1
    have rk0 := rk.nil_of fun p hp => (hf' p hp).2
    refine ⟨a, _, rfl, e1, trivial, fun od => ?_⟩
    have sy : Stay (fun x => x ≠ a) H1 (upd H1 a (.frz od (.dK kvs))) := fun x u hx c => by
      by_cases hxa : x = a
      · subst hxa; rw [e1] at hx; cases hx; exact absurd rfl (c trivial)
      · rw [upd_ne hxa]; exact hx
    have o2 : Own w K R (upd H1 a (.frz od (.dK kvs))) σ st1 fp1 := o1.stay sy (fun i x hx z => dj a List.mem_cons_self ⟨i, by rw [← z]; exact hx⟩) fun x hx z => hnR a List.mem_cons_self (by rw [← z]; exact hx)
    refine k _ st1 _ _ fp1 [] q ⟨fun x u hx hm => ?_, fun x hx => ?_⟩ o2 (.fz upd_same (rk0.stay sy fun _ z => nomatch z)) List.nodup_nil fun _ z => nomatch z
    · have hxa : x ≠ a := fun z => by
        rcases hB0 a List.mem_cons_self with y | y
        · exact hm (by rw [z]; exact y)
        · rw [← z, hx] at y; cases y
      rw [upd_ne hxa]
      exact x1.keep x u hx hm
    · rcases hx with hx | hx
      · exact x1.from_ x (.inl hx)
      · cases hx
  | lst xs =>
    simp only [frzD] at q
    cases hi : ints? xs with
    | none => rw [hi] at q; exact q.elim
    | some ns =>
      rw [hi] at q
      simp only [Option.map_some] at q
      have hx := ints_of hi
      subst hx
      cases r with
      | @lst a vs _ B' e1 rs =>
        have ev := rs.ints
        subst ev
        refine ⟨a, _, rfl, e1, trivial, fun od => ?_⟩
        have sy : Stay (fun x => x ≠ a) H1 (upd H1 a (.frz od (.lst (ns.map V.int)))) := fun x u hx c => by
          by_cases hxa : x = a
          · subst hxa; rw [e1] at hx; cases hx; exact absurd rfl (c trivial)
          · rw [upd_ne hxa]; exact hx
        have o2 : Own w K R (upd H1 a (.frz od (.lst (ns.map V.int)))) σ st1 fp1 := o1.stay sy (fun i x hx z => dj a List.mem_cons_self ⟨i, by rw [← z]; exact hx⟩) fun x hx z => hnR a List.mem_cons_self (by rw [← z]; exact hx)
        refine k _ st1 _ _ fp1 [] q ⟨fun x u hx hm => ?_, fun x hx => ?_⟩ o2 (.rl upd_same) List.nodup_nil fun _ z => nomatch z
        · have hxa : x ≠ a := fun z => by
            rcases hB0 a List.mem_cons_self with y | y
            · exact hm (by rw [z]; exact y)
            · rw [← z, hx] at y; cases y
          rw [upd_ne hxa]
          exact x1.keep x u hx hm
        · rcases hx with hx | hx
          · exact x1.from_ x (.inl hx)
          · cases hx
  | _ => simp only [frzD] at q
theorem pe_methG {CX : CXT} {kl : Nat} {C f : Addr} {m : Str} {fd : FuncData} {ps : List Str} {sp : Sp} {E : XK} {o : Expr} {es : List Expr} {ta : TE} {t : TA} {apos pos : Pos} (he : PE X o ta) (c : Cls X.K C) (hm : Meth X.K C m f) (F : FnOk X.prog X.w X.K X.mg X.base CX kl f fd ps sp) (hr : Room kl X.A) (hb : Binds X.K fd ps []) (hx : Passes CX X E) (ha : PA X es t)
    (hbase : attributeBase o m X.env (eval o X.env) = eval o X.env) (hst : es.all notStar = true) (hf : few es = true) (hline : (apos.endLine == pos.line) = true) (ht : es = [] → t = tNil) :
    PE X (.Call (.Attribute o m apos) es [] pos) (tMeth C m sp [] E ta t) := by
  refine ⟨fun pins s σ H Q I h => ?_⟩
  have hform : methodCallForm (es.length + ([] : List Keyword).length) (backTo pos (starEach es X.env)) (backToKw pos (keywordEach [] X.env)) = true := by
    have h1 := no_stars hst X.env pos
    show ((backTo pos (starEach es X.env)).all (fun x => !x.1) && (backToKw pos (keywordEach [] X.env)).all (fun x => x.1.isSome) && decide (es.length + ([] : List Keyword).length + (if ([] : List Keyword).isEmpty then 0 else 1) < 30)) = true
    simp only [few, decide_eq_true_eq] at hf
    simp only [Bool.and_eq_true, decide_eq_true_eq]
    refine ⟨⟨?_, by simp [keywordEach, backToKw]⟩, by simp; omega⟩
    rw [List.all_eq_not_any_not]
    simpa using h1
  have hpos : methodCallPos true o X.env apos pos = pure pos := by unfold methodCallPos; simp [hline]
  rw [arm_eval_Call, hbase]
  refine wpAny_bind (thn (he.run pins s σ H _ I h) fun u s1 ⟨x, H1, I1, rx, a, dx, fs, ex, ea, l, q⟩ => ?_)
  subst ex
  obtain rfl : u = Value.ref a := rx
  refine wpAny_bind (wpAny_standAt ?_)
  unfold methodCall
  rw [hform]
  refine wpAny_bind (wpAny_holding (getmeth_ok I1 ea c hm l ?_))
  refine wpAny_bind (wpAny_of_eq hpos ?_)
  cases es with
  | nil =>
    have ht := ht rfl
    subst ht
    exact PySem.W.callWith_K0 (first := [.ref a]) I1.kIn hm.kp (run_fn (us := [.ref a]) (vs := [.ref a]) F hr hb .nil hx I1 (.cons rfl .nil) q)
  | cons e es =>
    simp only [List.all_cons, Bool.and_eq_true] at hst
    refine PySem.W.callWith_K (first := [.ref a]) (h₀ := X.base) I.ok.mod.kin hm.kp (thn (ha.run pos pins s1 σ H1 _ I1 q) fun us s2 ⟨vs, H2, I2, r, q2⟩ => ⟨I2.kIn, ?_⟩) (star_each hst.1 _ _) (no_stars hst.2 _ _)
    exact run_fn (us := .ref a :: us) (vs := .ref a :: vs) F hr hb .nil hx I2 (.cons rfl r) q2
theorem imp_av {i : Nat} {f : String} {σ : L2.St} {H : Hp} {Q : VK} (h : tE w K (wE Φ (.av i f)) σ H Q) : tFld K (tVar i) (s_ f) σ H Q := by
  obtain ⟨ρ, st, fp, R, Qd, e, o, h, k⟩ := h
  rw [wE] at h
  split at h
  rotate_left
  · exact h.elim
  rename_i c fs hp
  split at h
  rotate_left
  · exact h.elim
  rename_i z hz
  obtain ⟨v, B, hv, r, hw⟩ := peek_of o e hp
  cases r with
  | @obj a dx _ fv _ B' ck sub ea nn rs =>
    obtain ⟨vz, A, g1, g2, g3, _, p, hp1, hp2⟩ := obj_get nn rs hz
    have hfa : f ∈ atsOf c := by rw [← hp2]; exact sub p hp1
    have hA : A = [] := g2.immut h.1
    subst hA
    exact ⟨_, hv, a, _, dx, fv, vz, rfl, ea, ck.1, ck.2 f hfa, g1, k z st vz H fp [] h.2 ((Ext.refl _ _).mono fun x hx => hx.elim id fun z => nomatch z) o g2 List.nodup_nil fun _ z => nomatch z⟩
theorem lookup_none : ∀ {fv : List (Str × V)} {fs : List (String × D)}, fv.map (·.1) = fs.map (fun p => Str.ofString p.1) → ∀ {m : String}, (∀ p ∈ fs, p.1 ≠ m) → fv.lookup (s_ m) = none
  | [], _, _, _, _ => rfl
  | (g, v) :: fv, [], n, _, _ => by simp at n
  | (g, v) :: fv, (g', d) :: fs, n, m, h => by
    simp only [List.map_cons, List.cons.injEq] at n
    obtain ⟨rfl, n⟩ := n
    have hne : (s_ m == Str.ofString g') = false := by
      rw [beq_eq_false_iff_ne]; exact fun z => h _ List.mem_cons_self (ofS_inj z).symm
    simp only [List.lookup, hne]
    exact lookup_none n fun p hp => h p (List.mem_cons_of_mem _ hp)
theorem mth_none {k c m : String} (hf : Φ k = none) {i : Nat} {es : Es} {σ : L2.St} {H : Hp} {Q : VK} (h : tE w K (wE Φ (.mth k c m i es)) σ H Q) : False := by
  obtain ⟨ρ, st, fp, R, Qd, e, o, h, kk⟩ := h
  rw [wE, hf] at h
  split at h
  · exact h.2.2
  · exact h
theorem new_none {k c : String} (hf : Φ k = none) {es : Es} {σ : L2.St} {H : Hp} {Q : VK} (h : tE w K (wE Φ (.new k c es)) σ H Q) : False := by
  obtain ⟨ρ, st, fp, R, Qd, e, o, h, kk⟩ := h
  rw [wE, hf] at h
  exact h
/-- a method is called -/
theorem imp_mth {k c m : String} {sp : Spec} (hf : Φ k = some sp) {i : Nat} {es : Es} (ok : es.ok = true) {σ : L2.St} {H : Hp} {Q : VK} (h : tE w K (wE Φ (.mth k c m i es)) σ H Q) :
    ClsOk K c ∧ tMeth (He.ga K (s_ c)) (s_ m) (spD w K sp) [] E0 (tVar i) (seqT (trs w K Φ es)) σ H Q := by
  obtain ⟨ρ, st, fp, R, Qd, e, o, h, kk⟩ := h
  rw [wE, hf] at h
  split at h
  rotate_left
  · exact h.elim
  rename_i c' fs hp
  obtain ⟨rfl, hm, h⟩ := h
  obtain ⟨v, B, hv, r, hw⟩ := peek_of o e hp
  have hfn : tE w K (wE Φ (.fn k (.nm i es))) σ H Q := by
    refine ⟨ρ, st, fp, R, Qd, e, o, ?_, kk⟩
    rw [wE, hf]
    simp only at h ⊢
    cases hio : sp.io.any id with
    | false =>
      rw [hio] at h
      simp only at h ⊢
      rw [wAs]
      exact ⟨by rw [hp]; rfl, h⟩
    | true =>
      rw [hio] at h
      simp only at h ⊢
      cases hs : ioSlots sp.io (.nm i es) with
      | none => rw [hs] at h; exact h.elim
      | some q =>
        rw [hs] at h
        obtain ⟨h1, h2, h3⟩ := h
        refine ⟨h1, h2, ?_⟩
        rw [wAs]
        exact ⟨by rw [hp]; rfl, h3⟩
  have key := imp_fn hf (es := .nm i es) (by simpa [Es.ok] using ok) hfn
  cases r with
  | @obj a dx _ fv _ B' ck sub ea nn rs =>
    refine ⟨ck, ?_⟩
    obtain ⟨v2, hv2, key⟩ := key
    rw [hv] at hv2
    cases hv2
    exact ⟨_, hv, a, dx, fv, rfl, ea, lookup_none nn fun p hp z => hm (by rw [← z]; exact sub p hp), key⟩
/-- operands and what they read -/
def OkA (w : World) (K : PySem.W.Frag) (Φ : Phi) (X : Cx) (es : Es) (xs : List Expr) : Prop := Paired (fun e t => PE X e t) xs (trs w K Φ es)
theorem two_len {es : Es} {xs : List Expr} (h : OkA w K Φ X es xs) {a b : Expr} (e : xs = [a, b]) : ∃ t1 t2, trs w K Φ es = [t1, t2] ∧ PE X a t1 ∧ PE X b t2 := by
  subst e; exact two_of (es := es) h
theorem Good.blk (G : Good w K Φ N cs lv sc fn X) (scope : Scope) (hk : scope.kind = .function) (s : Shared) (H : Hp) (C : Addr) (cl : List (Str × Addr)) (fp : List Addr) : Good w K Φ N cs lv (relS scope sc) (fnOf scope) (X.blk s H scope (compEnvC scope cl C X.env) fp) where
  w_ := G.w_
  K_ := G.K_
  N_ := G.N_
  sc_ := by show relS scope X.env.scope = _; rw [G.sc_]
  fn_ x h := by
    simp only [fnOf, Bool.and_eq_true] at h
    exact h.1.1.1
  calm := G.calm
  nd := G.nd
  room := G.room
  room1 h := by simp [fnOf] at h
  kind := hk
  lam h := by simp [fnOf] at h
  blt := G.blt
  cst := G.cst
  fns := G.fns
  act h := by simp [fnOf] at h
theorem PW.imp {e : Expr} {t t' : TT} (h : PW X e t) (i : ∀ σ H Q, t' σ H Q → t σ H Q) : PW X e t' := ⟨fun wh pins s σ H Q I q => h.run wh pins s σ H Q I (i σ H Q q)⟩
theorem PTs.imp {e : List Expr} {t t' : TT} (h : PTs X e t) (i : ∀ σ H Q, t' σ H Q → t σ H Q) : PTs X e t' := ⟨fun pins s σ H Q I q => h.run pins s σ H Q I (i σ H Q q)⟩
theorem PI.imp {tg e : Expr} {t t' : TI} (h : PI X tg e t) (i : ∀ σ H R, t' σ H R → t σ H R) : PI X tg e t' := ⟨fun pins s σ H Q I q => h.run pins s σ H Q I (i σ H Q q)⟩
theorem pe_nev {e : Expr} : PE X e (fun _ _ _ => False) := ⟨fun _ _ _ _ _ _ q => q.elim⟩
theorem pts_never {e : List Expr} : PTs X e (fun _ _ _ => False) := ⟨fun _ _ _ _ _ _ q => q.elim⟩
theorem fn_none {f : String} (hf : Φ f = none) {es : Es} {σ : L2.St} {H : Hp} {Q : VK} (h : tE w K (wE Φ (.fn f es)) σ H Q) : False := by
  obtain ⟨ρ, st, fp, R, Qd, e, o, h, k⟩ := h
  rw [wE, hf] at h
  exact h
theorem visB_ok {sc : Scope} {x : Str} (h2 : visB sc x = true) : Vis sc x := by
  unfold Vis
  unfold visB at h2
  split at h2
  · exact .inl (by assumption)
  · exact .inr (.inl (by assumption))
  · exact .inr (.inr (by assumption))
  · cases h2
theorem ap_none (hf : Φ "@" = none) {i : Nat} {es : Es} {σ : L2.St} {H : Hp} {Q : VK} (h : tE w K (wE Φ (.ap i es)) σ H Q) : False := by
  obtain ⟨ρ, st, fp, R, Qd, e, o, h, k⟩ := h
  rw [wE, hf] at h
  exact h
/-- what is handed in is called -/
theorem imp_ap {sp : Spec} (hf : Φ "@" = some sp) {fa : Addr} (hid : sp.id = some fa) {i : Nat} {es : Es} (ok : es.ok = true) {σ : L2.St} {H : Hp} {Q : VK} (h : tE w K (wE Φ (.ap i es)) σ H Q) :
    σ[i]? = some (some (.ref fa)) ∧ seqT (trs w K Φ es) σ H fun vs H1 => Sub Tab.h0 H1 ∧ @spD ⟨[], fun _ => none⟩ w K sp vs H1 Q E0 := by
  obtain ⟨ρ, st, fp, R, Qd, e, o, h, k⟩ := h
  rw [wE, hf] at h
  cases hpk : peek ρ st i with
  | none => simp only [hpk] at h
  | some d0 =>
    simp only [hpk] at h
    cases d0 <;> first | exact h.elim | skip
    rename_i f
    obtain ⟨q1, hio, h⟩ := h
    rw [hid] at q1
    cases q1
    obtain ⟨v0, B0, hv0, r0, _⟩ := peek_of o e hpk
    cases r0
    refine ⟨hv0, impAsA es ok e o h fun ds st1 vs H1 fp1 T q x1 o1 hT br _ => ?_⟩
    refine ⟨fun x u hx => (o1.base x u hx).2, ?_⟩
    obtain ⟨q2, q3⟩ := q
    obtain ⟨bs, ar⟩ := any_args (F := fp1 tabI) br q2 hio o1.tabc o1.tabs
    refine ⟨ds, bs, _, [], @Args.mk ⟨[], fun _ => none⟩ _ _ _ _ _ _ _ _ ar.lv ar.ld ar.lb ar.rep ar.nd ar.dis (fun x hx => nomatch hx) (fun p hp => nomatch hp) (fun _ _ _ _ _ hx => nomatch hx), q3, fun r ds' v H2 bs' B F' qd ou => ?_⟩
    have oe := @Outs.ext ⟨[], fun _ => none⟩ _ _ _ _ _ _ _ _ _ _ _ _ _ _ ou
    have oret := @Outs.ret ⟨[], fun _ => none⟩ _ _ _ _ _ _ _ _ _ _ _ _ _ _ ou
    have ond := @Outs.nd ⟨[], fun _ => none⟩ _ _ _ _ _ _ _ _ _ _ _ _ _ _ ou
    have hsub : Sub H1 H2 := fun x u hx => oe.keep x u hx fun z => z.elim (no_io hio) (fun z => nomatch z)
    have hB : ∀ x ∈ B, H1 x = none := fun x hx => (oe.from_ x (.inr hx)).elim (fun z => z.elim (fun z => (no_io hio z).elim) (fun z => nomatch z)) id
    exact k r st1 v H2 fp1 B qd.2 ((ext1' x1).trans (Ext.subNew hsub fun x hx => hx.imp id (hB x))) (o1.sub hsub) oret ond fun x hx m => o1.there m (hB x hx)
theorem imp_t0 {σ : L2.St} {H : Hp} {Q : Bool → Hp → Prop} (h : tBl w K (wT Φ .nil) σ H Q) : tYes σ H Q := by
  obtain ⟨ρ, st, fp, R, Qd, e, o, h, k⟩ := h
  rw [wT] at h
  exact k true st H fp h (Ext.refl _ _) o
theorem imp_t1 {e : E} {σ : L2.St} {H : Hp} {Q : Bool → Hp → Prop} (h : tBl w K (wT Φ (.cons e .nil)) σ H Q) : tTs w K (wE Φ e) σ H Q := by
  obtain ⟨ρ, st, fp, R, Qd, e, o, h, k⟩ := h
  rw [wT] at h
  refine ⟨ρ, st, fp, R, _, e, o, h, fun d st1 H1 fp1 q x1 o1 => ?_⟩
  cases d <;> first | exact q.elim | skip
  rename_i b
  cases b with
  | true => rw [wT] at q; exact ⟨true, rfl, k true st1 H1 fp1 q x1 o1⟩
  | false => exact ⟨false, rfl, k false st1 H1 fp1 q x1 o1⟩
theorem imp_tn {i : Nat} {es : Es} {σ : L2.St} {H : Hp} {Q : Bool → Hp → Prop} (h : tBl w K (wT Φ (.nm i es)) σ H Q) : False := by
  obtain ⟨ρ, st, fp, R, Qd, e, o, h, k⟩ := h
  rw [wT] at h
  exact h
theorem imp_tp {ps es : Es} {σ : L2.St} {H : Hp} {Q : Bool → Hp → Prop} (h : tBl w K (wT Φ (.pl ps es)) σ H Q) : False := by
  obtain ⟨ρ, st, fp, R, Qd, e, o, h, k⟩ := h
  rw [wT] at h
  exact h
theorem imp_tt {ps es : Es} {σ : L2.St} {H : Hp} {Q : Bool → Hp → Prop} (h : tBl w K (wT Φ (.tp ps es)) σ H Q) : False := by
  obtain ⟨ρ, st, fp, R, Qd, e, o, h, k⟩ := h
  rw [wT] at h
  exact h
theorem imp_ta {i : Nat} {f : String} {es : Es} {σ : L2.St} {H : Hp} {Q : Bool → Hp → Prop} (h : tBl w K (wT Φ (.at i f es)) σ H Q) : False := by
  obtain ⟨ρ, st, fp, R, Qd, e, o, h, k⟩ := h
  rw [wT] at h
  exact h
def tIfT (c a b : TT) : TT := fun σ H Q => c σ H fun k H1 => if k = true then a σ H1 Q else b σ H1 Q
theorem pt_ifExp {c a b : Expr} {tc ta tb : TT} {pos : Pos} (hc : PT X c tc) (ha : PT X a ta) (hb : PT X b tb) : PT X (.IfExp c a b pos) (tIfT tc ta tb) := by
  refine ⟨fun pins s σ H Q I h => ?_⟩
  show wpAny _ _ (do if ← isTrue c X.env (eval c X.env) then isTrue a X.env (eval a X.env) else isTrue b X.env (eval b X.env)) _ _ _
  refine wpAny_bind (thn (hc.run pins s σ H _ I h) fun k s1 ⟨H1, I1, q1⟩ => ?_)
  cases k with
  | true => exact ha.run pins s1 σ H1 Q I1 q1
  | false => exact hb.run pins s1 σ H1 Q I1 q1
theorem ts_ite {c a b : E} {σ : L2.St} {H : Hp} {Q : Bool → Hp → Prop} (h : tTs w K (wE Φ (.ite c a b)) σ H Q) : tIfT (tTs w K (wE Φ c)) (tTs w K (wE Φ a)) (tTs w K (wE Φ b)) σ H Q := by
  obtain ⟨ρ, st, fp, R, Qd, e, o, h, k⟩ := h
  rw [wE] at h
  refine ⟨ρ, st, fp, R, _, e, o, h, fun d st1 H1 fp1 q x1 o1 => ?_⟩
  have e1 := e.keep' o x1
  cases d <;> first | exact q.elim | skip
  rename_i bb
  refine ⟨bb, rfl, ?_⟩
  cases bb with
  | true =>
    rw [if_pos rfl]
    exact ⟨ρ, st1, fp1, R, _, e1, o1, q, fun d2 st2 H2 fp2 q2 x2 o2 => k d2 st2 H2 fp2 q2 (x1.trans x2) o2⟩
  | false =>
    rw [if_neg (by decide)]
    exact ⟨ρ, st1, fp1, R, _, e1, o1, q, fun d2 st2 H2 fp2 q2 x2 o2 => k d2 st2 H2 fp2 q2 (x1.trans x2) o2⟩
theorem pr_nm {it : It} {i : Nat} {tgE x : Expr} {fx : List Nat} {sc' : Scope} {fn' : Str → Bool} (hp : it.pr = true) (hit : chkIt N cs sc fn it tgE x = true) (htg : chkTg N sc' fn' fx (.nm i) tgE = true) : False := by
  have ht : isTuple tgE = true := by
    cases it <;> simp only [It.pr, reduceCtorEq, Bool.false_eq_true] at hp
    · cases x with
      | Call f xs kws pos =>
        rcases xs with _ | ⟨x, _ | ⟨y, xs⟩⟩ <;> rcases kws with _ | ⟨k, kws⟩ <;> simp only [chkIt, reduceCtorEq, Bool.false_eq_true, Bool.and_eq_true] at hit
        exact hit.1.1.1
      | _ => simp only [chkIt, reduceCtorEq, Bool.false_eq_true] at hit
    · cases x with
      | Call f xs kws pos =>
        rcases xs with _ | ⟨x, _ | ⟨y, xs⟩⟩ <;> rcases kws with _ | ⟨k, kws⟩ <;> simp only [chkIt, reduceCtorEq, Bool.false_eq_true, Bool.and_eq_true] at hit
        exact hit.1.1
      | _ => simp only [chkIt, reduceCtorEq, Bool.false_eq_true] at hit
  cases tgE <;> simp only [isTuple, Bool.false_eq_true] at ht
  simp [chkTg, chkTgs] at htg
mutual
theorem sE : ∀ (e : E) {sc : Scope} {fn : Str → Bool} {X : Cx}, Good w K Φ N cs lv sc fn X → ∀ {ex : Expr}, chkE N cs sc fn e ex = true → Ok w K Φ X e ex
  | .v i, sc, fn, X, G, ex, h => by
    simp only [chkE] at h
    have hp := nm_ok G h
    cases ex <;> simp only [chkNm, reduceCtorEq, Bool.false_eq_true] at h
    exact Ok.val (PE.imp hp fun σ H Q q => imp_v q) (fun _ => rfl) rfl
  | .c k, sc, fn, X, G, ex, h => by
    cases ex <;> simp only [chkE, reduceCtorEq, Bool.false_eq_true] at h
    exact Ok.val (PE.imp (k_ok h) fun σ H Q q => imp_c (fun _ _ _ => by rw [wE]) q) (fun _ => rfl) rfl
  | .g x k, sc, fn, X, G, ex, h => by
    simp only [chkE, Bool.and_eq_true, List.any_eq_true, decide_eq_true_eq] at h
    obtain ⟨h1, p, hp, rfl⟩ := h
    obtain ⟨q, rfl, g1, g2, g3⟩ := gl_of G h1
    obtain ⟨u, hu, ru⟩ := G.cst _ hp
    exact Ok.val (PE.imp (pe_glob g1 hu ru g2) fun σ H Q q => imp_c (fun _ _ _ => by rw [wE]) q) (fun _ => rfl) rfl
  | .bin op es, sc, fn, X, G, ex, h => by
    cases ex <;> simp only [chkE, reduceCtorEq, Bool.false_eq_true, Bool.and_eq_true, decide_eq_true_eq] at h
    obtain ⟨rfl, h⟩ := h
    obtain ⟨t1, t2, ht, p1, p2⟩ := two_len (sAs es G h) rfl
    have ho := bin_ok (X := X) op
    rw [G.w_, G.K_] at ho
    exact Ok.val (PE.imp (pe_op ho p1 p2) fun σ H Q q => imp_bin (es_ok h) ht q) (fun _ => rfl) rfl
  | .neg a, sc, fn, X, G, ex, h => by
    cases ex with
    | UnaryOp op x pos =>
      cases op <;> simp only [chkE, reduceCtorEq, Bool.false_eq_true] at h
      exact Ok.val (PE.imp (pe_un un_neg (sE a G h).1) fun σ H Q q => imp_neg q) (fun _ => rfl) rfl
    | _ => simp only [chkE, reduceCtorEq, Bool.false_eq_true] at h
  | .cmp op es, sc, fn, X, G, ex, h => by
    cases ex with
    | Compare a ops bs pos =>
      rcases ops with _ | ⟨o, _ | ⟨o2, ops⟩⟩ <;> rcases bs with _ | ⟨b, _ | ⟨b2, bs⟩⟩ <;> simp only [chkE, reduceCtorEq, Bool.false_eq_true, Bool.and_eq_true, decide_eq_true_eq] at h
      obtain ⟨⟨rfl, hb⟩, h⟩ := h
      obtain ⟨t1, t2, ht, p1, p2⟩ := two_len (sAs es G h) rfl
      have ho := cmp_ok (X := X) G.hu op
      rw [G.w_, G.K_] at ho
      refine ⟨PE.imp (pe_cmpR ho p1 p2 (no_mark hb _)) fun σ H Q q => imp_cmp (es_ok h) ht q, PT.imp (pt_cmpR ho p1 p2 (no_mark hb _)) fun σ H Q q => ts_of (fun _ _ _ z => imp_cmp (es_ok h) ht z) q, fun z => by cases z⟩
    | _ => simp only [chkE, reduceCtorEq, Bool.false_eq_true, Bool.and_eq_true, decide_eq_true_eq] at h
  | .chain o1 o2 a b c, sc, fn, X, G, ex, h => by
    cases ex with
    | Compare x ops bs pos =>
      rcases ops with _ | ⟨p1, _ | ⟨p2, _ | ⟨p3, ops⟩⟩⟩ <;> rcases bs with _ | ⟨y, _ | ⟨z, _ | ⟨z3, bs⟩⟩⟩ <;> simp only [chkE, reduceCtorEq, Bool.false_eq_true, Bool.and_eq_true, decide_eq_true_eq] at h
      obtain ⟨⟨⟨⟨⟨rfl, rfl⟩, hb⟩, ha⟩, hbb⟩, hcc⟩ := h
      have h1 := cmp_ok (X := X) G.hu o1
      have h2 := cmp_ok (X := X) G.hu o2
      rw [G.w_, G.K_] at h1 h2
      have hm : lastMarks [o1.op, o2.op] [y, z] = false := no_mark hb _
      have q1 := (sE a G ha).1
      have q2 := (sE b G hbb).1
      have q3 := (sE c G hcc).1
      exact ⟨PE.imp (pe_chain h1 h2 q1 q2 q3 hm) fun σ H Q q => imp_chain q, PT.imp (pt_chain h1 h2 q1 q2 q3 hm) fun σ H Q q => ts_of (fun _ _ _ z => imp_chain z) q, fun z => by cases z⟩
    | _ => simp only [chkE, reduceCtorEq, Bool.false_eq_true, Bool.and_eq_true, decide_eq_true_eq] at h
  | .isN neg es, sc, fn, X, G, ex, h => by
    cases ex with
    | Compare a ops bs pos =>
      rcases ops with _ | ⟨o, _ | ⟨o2, ops⟩⟩ <;> rcases bs with _ | ⟨b, _ | ⟨b2, bs⟩⟩ <;> (try (simp only [chkE, reduceCtorEq, Bool.false_eq_true, Bool.and_eq_true, decide_eq_true_eq] at h; done))
      cases b with
      | Constant c j p =>
        cases c <;> simp only [chkE, reduceCtorEq, Bool.false_eq_true, Bool.and_eq_true, decide_eq_true_eq] at h
        obtain ⟨rfl, h⟩ := h
        obtain ⟨t1, ht, p1⟩ := one_of (sAs es G h)
        refine ⟨PE.imp (pe_cmpR (none_op neg) p1 pe_non (no_mark rfl _)) fun σ H Q q => imp_isN (es_ok h) ht q, PT.imp (pt_cmpR (none_op neg) p1 pe_non (no_mark rfl _)) fun σ H Q q => ts_of (fun _ _ _ z => imp_isN (es_ok h) ht z) q, fun z => by cases z⟩
      | _ => simp only [chkE, reduceCtorEq, Bool.false_eq_true, Bool.and_eq_true, decide_eq_true_eq] at h
    | _ => simp only [chkE, reduceCtorEq, Bool.false_eq_true, Bool.and_eq_true, decide_eq_true_eq] at h
  | .lenS es, sc, fn, X, G, ex, h => by
    cases ex with
    | Call f xs kws pos =>
      rcases xs with _ | ⟨x, _ | ⟨c, xs⟩⟩ <;> rcases kws with _ | ⟨k, kws⟩ <;> (try (simp only [chkE, reduceCtorEq, Bool.false_eq_true, Bool.and_eq_true, decide_eq_true_eq] at h; done))
      cases x with
      | Call g ys kws2 pos2 =>
        rcases ys with _ | ⟨y, _ | ⟨c, ys⟩⟩ <;> rcases kws2 with _ | ⟨k, kws2⟩ <;> simp only [chkE, reduceCtorEq, Bool.false_eq_true, Bool.and_eq_true, decide_eq_true_eq] at h
        obtain ⟨⟨h1, h2⟩, h3⟩ := h
        obtain ⟨t1, ht, p1⟩ := one_of (sAs es G h3)
        have hs := es_stars h3
        simp only [List.all_cons, List.all_nil, Bool.and_true] at hs
        obtain ⟨p, rfl, g1, g2, g3⟩ := gl_of G h1
        obtain ⟨p2, rfl, g4, g5, g6⟩ := gl_of G h2
        have hp := pe_lenT G.hu (p := p) (p2 := p2) (q := pos2) (pos := pos) g1 (G.blt "len" (by decide)) g4 (G.blt "set" (by decide)) p1 G.calm (star_each hs _ _)
        rw [G.K_, G.w_] at hp
        exact Ok.val (PE.imp hp fun σ H Q q => imp_lenS (es_ok h3) ht q) (fun _ => rfl) rfl
      | _ => simp only [chkE, reduceCtorEq, Bool.false_eq_true, Bool.and_eq_true, decide_eq_true_eq] at h
    | _ => simp only [chkE, reduceCtorEq, Bool.false_eq_true, Bool.and_eq_true, decide_eq_true_eq] at h
  | .sortS es, sc, fn, X, G, ex, h => by
    cases ex with
    | Call f xs kws pos =>
      rcases xs with _ | ⟨x, _ | ⟨c, xs⟩⟩ <;> rcases kws with _ | ⟨k, kws⟩ <;> (try (simp only [chkE, reduceCtorEq, Bool.false_eq_true, Bool.and_eq_true, decide_eq_true_eq] at h; done))
      cases x with
      | Call g ys kws2 pos2 =>
        rcases ys with _ | ⟨y, _ | ⟨c, ys⟩⟩ <;> rcases kws2 with _ | ⟨k, kws2⟩ <;> simp only [chkE, reduceCtorEq, Bool.false_eq_true, Bool.and_eq_true, decide_eq_true_eq] at h
        obtain ⟨⟨h1, h2⟩, h3⟩ := h
        obtain ⟨t1, ht, p1⟩ := one_of (sAs es G h3)
        have hs := es_stars h3
        simp only [List.all_cons, List.all_nil, Bool.and_true] at hs
        obtain ⟨p, rfl, g1, g2, g3⟩ := gl_of G h1
        obtain ⟨p2, rfl, g4, g5, g6⟩ := gl_of G h2
        have hp := pe_sortS (p := p) (p2 := p2) (q := pos2) (pos := pos) g1 (G.blt "sorted" (by decide)) g4 (G.blt "set" (by decide)) p1 G.calm (star_each hs _ _)
        rw [G.K_] at hp
        exact Ok.val (PE.imp hp fun σ H Q q => imp_sortS (es_ok h3) ht q) (fun _ => rfl) rfl
      | _ => simp only [chkE, reduceCtorEq, Bool.false_eq_true, Bool.and_eq_true, decide_eq_true_eq] at h
    | _ => simp only [chkE, reduceCtorEq, Bool.false_eq_true, Bool.and_eq_true, decide_eq_true_eq] at h
  | .lrev es, sc, fn, X, G, ex, h => by
    cases ex with
    | Call f xs kws pos =>
      rcases xs with _ | ⟨x, _ | ⟨c, xs⟩⟩ <;> rcases kws with _ | ⟨k, kws⟩ <;> (try (simp only [chkE, reduceCtorEq, Bool.false_eq_true, Bool.and_eq_true, decide_eq_true_eq] at h; done))
      cases x with
      | Call g ys kws2 pos2 =>
        rcases ys with _ | ⟨y, _ | ⟨c, ys⟩⟩ <;> rcases kws2 with _ | ⟨k, kws2⟩ <;> simp only [chkE, reduceCtorEq, Bool.false_eq_true, Bool.and_eq_true, decide_eq_true_eq] at h
        obtain ⟨⟨h1, h2⟩, h3⟩ := h
        obtain ⟨t1, ht, p1⟩ := one_of (sAs es G h3)
        have hs := es_stars h3
        simp only [List.all_cons, List.all_nil, Bool.and_true] at hs
        obtain ⟨p, rfl, g1, g2, g3⟩ := gl_of G h1
        obtain ⟨p2, rfl, g4, g5, g6⟩ := gl_of G h2
        have hp := pe_lrev (p := p) (p2 := p2) (q := pos2) (pos := pos) g1 (G.blt "list" (by decide)) g4 (G.blt "reversed" (by decide)) p1 G.calm (star_each hs _ _)
        rw [G.K_] at hp
        exact Ok.val (PE.imp hp fun σ H Q q => imp_lrev (es_ok h3) ht q) (fun _ => rfl) rfl
      | _ => simp only [chkE, reduceCtorEq, Bool.false_eq_true, Bool.and_eq_true, decide_eq_true_eq] at h
    | _ => simp only [chkE, reduceCtorEq, Bool.false_eq_true, Bool.and_eq_true, decide_eq_true_eq] at h
  | .ap i es, sc, fn, X, G, ex, h => by
    cases ex with
    | Call g xs kws pos =>
      rcases xs with _ | ⟨x, xs⟩ <;> rcases kws with _ | ⟨k, kws⟩ <;> simp only [chkE, reduceCtorEq, Bool.false_eq_true, Bool.and_eq_true, decide_eq_true_eq] at h
      obtain ⟨⟨hact, hg⟩, h⟩ := h
      cases hf : Φ "@" with
      | none => exact Ok.val (PE.imp pe_nev fun σ H Q q => (ap_none hf q).elim) (fun _ => rfl) rfl
      | some sp =>
        obtain ⟨fa, n, g1, g2, ga⟩ := G.act hact sp hf
        cases g <;> simp only [chkNm, Bool.false_eq_true, Bool.and_eq_true, decide_eq_true_eq] at hg
        rename_i nm p
        have hA := sAs es G h
        have hs := es_stars h
        have hs' := hs
        simp only [List.all_cons, Bool.and_eq_true] at hs'
        obtain ⟨⟨hN, hv⟩, hok⟩ := hg
        have hvis : Vis sc nm := visB_ok hv
        simp only [okNm, Bool.and_eq_true, Bool.not_eq_true', decide_eq_true_eq] at hok
        exact Ok.val (PE.imp (ga i nm x xs p pos _ hN hvis hok.1.1 hok.1.2 (pa_all hs hA) (star_each hs'.1 _ _) (fun pos => no_stars hs'.2 _ _)) fun σ H Q q => imp_ap hf g1 (es_ok h) q) (fun _ => rfl) rfl
    | _ => simp only [chkE, reduceCtorEq, Bool.false_eq_true, Bool.and_eq_true, decide_eq_true_eq] at h
  | .and a b, sc, fn, X, G, ex, h => by
    cases ex with
    | BoolOp op xs pos =>
      cases op with
      | And =>
        rcases xs with _ | ⟨x, _ | ⟨y, _ | ⟨z, r⟩⟩⟩ <;> simp only [chkE, reduceCtorEq, Bool.false_eq_true, Bool.and_eq_true, decide_eq_true_eq] at h
        · exact absurd h.2 (by simp)
        · obtain ⟨a1, a2, _⟩ := sE a G h.1
          obtain ⟨b1, b2, _⟩ := sE b G h.2
          have pw : PW X (.BoolOp .And [x, y] pos) (tTs w K (wE Φ (.and a b))) := PW.imp (pw_and a2 (pw_and1 b2)) fun σ H Q q => ts_and q
          exact ⟨PE.imp (pe_and a1 (pe_one b1)) fun σ H Q q => imp_and q, pw.pt, fun _ => pw⟩
        · obtain ⟨a1, a2, _⟩ := sE a G h.1
          obtain ⟨b1, _, b3⟩ := sE b G h.2
          have pw : PW X (.BoolOp .And (x :: y :: z :: r) pos) (tTs w K (wE Φ (.and a b))) := PW.imp (pw_and a2 (b3 rfl)) fun σ H Q q => ts_and q
          exact ⟨PE.imp (pe_and a1 b1) fun σ H Q q => imp_and q, pw.pt, fun _ => pw⟩
      | Or => simp only [chkE, reduceCtorEq, Bool.false_eq_true, Bool.and_eq_true, decide_eq_true_eq] at h
    | _ => simp only [chkE, reduceCtorEq, Bool.false_eq_true, Bool.and_eq_true, decide_eq_true_eq] at h
  | .or a b, sc, fn, X, G, ex, h => by
    cases ex with
    | BoolOp op xs pos =>
      cases op with
      | Or =>
        rcases xs with _ | ⟨x, _ | ⟨y, _ | ⟨z, r⟩⟩⟩ <;> simp only [chkE, reduceCtorEq, Bool.false_eq_true, Bool.and_eq_true, decide_eq_true_eq] at h
        · exact absurd h.2 (by simp)
        · obtain ⟨a1, a2, _⟩ := sE a G h.1
          obtain ⟨b1, b2, _⟩ := sE b G h.2
          have pw : PW X (.BoolOp .Or [x, y] pos) (tTs w K (wE Φ (.or a b))) := PW.imp (pw_or a2 (pw_or1 b2)) fun σ H Q q => ts_or q
          exact ⟨PE.imp (pe_or a1 (pe_one b1)) fun σ H Q q => imp_or q, pw.pt, fun _ => pw⟩
        · obtain ⟨a1, a2, _⟩ := sE a G h.1
          obtain ⟨b1, _, b3⟩ := sE b G h.2
          have pw : PW X (.BoolOp .Or (x :: y :: z :: r) pos) (tTs w K (wE Φ (.or a b))) := PW.imp (pw_or a2 (b3 rfl)) fun σ H Q q => ts_or q
          exact ⟨PE.imp (pe_or a1 b1) fun σ H Q q => imp_or q, pw.pt, fun _ => pw⟩
      | And => simp only [chkE, reduceCtorEq, Bool.false_eq_true, Bool.and_eq_true, decide_eq_true_eq] at h
    | _ => simp only [chkE, reduceCtorEq, Bool.false_eq_true, Bool.and_eq_true, decide_eq_true_eq] at h
  | .not a, sc, fn, X, G, ex, h => by
    cases ex with
    | UnaryOp op x pos =>
      cases op <;> simp only [chkE, reduceCtorEq, Bool.false_eq_true, Bool.and_eq_true, decide_eq_true_eq] at h
      obtain ⟨a1, a2, _⟩ := sE a G h
      exact ⟨PE.imp (pe_not a1) fun σ H Q q => imp_not q, PT.imp (pt_not a2) fun σ H Q q => ts_not q, fun z => by cases z⟩
    | _ => simp only [chkE, reduceCtorEq, Bool.false_eq_true, Bool.and_eq_true, decide_eq_true_eq] at h
  | .ite c a b, sc, fn, X, G, ex, h => by
    cases ex with
    | IfExp x y z pos =>
      simp only [chkE, reduceCtorEq, Bool.false_eq_true, Bool.and_eq_true, decide_eq_true_eq] at h
      obtain ⟨_, c2, _⟩ := sE c G h.1.1
      obtain ⟨a1, a2, _⟩ := sE a G h.1.2
      obtain ⟨b1, b2, _⟩ := sE b G h.2
      exact ⟨PE.imp (pe_ifExp c2 a1 b1) fun σ H Q q => imp_ite q, PT.imp (pt_ifExp c2 a2 b2) fun σ H Q q => ts_ite q, fun z => by cases z⟩
    | _ => simp only [chkE, reduceCtorEq, Bool.false_eq_true, Bool.and_eq_true, decide_eq_true_eq] at h
  | .tup es, sc, fn, X, G, ex, h => by
    cases ex <;> simp only [chkE, reduceCtorEq, Bool.false_eq_true, Bool.and_eq_true, decide_eq_true_eq] at h
    exact Ok.val (PE.imp (pe_tupN (pa_all (es_stars h) (sAs es G h))) fun σ H Q q => imp_tup q) (fun _ => rfl) rfl
  | .tupM i es, sc, fn, X, G, ex, h => by
    cases ex with
    | Tuple xs a b =>
    cases xs <;> simp only [chkE, reduceCtorEq, Bool.false_eq_true, Bool.and_eq_true, decide_eq_true_eq] at h
    rename_i x xs
    have hst : (x :: xs).all notStar = true := es_stars (es := .nm i es) (by simp only [chkEs, Bool.and_eq_true]; exact h)
    have hA : OkA w K Φ X (.nm i es) (x :: xs) := .cons (nm_ok G h.1) (sAs es G h.2)
    exact Ok.val (PE.imp (pe_tupN (pa_all hst hA)) fun σ H Q q => imp_tupM q) (fun _ => rfl) rfl
    | _ => simp only [chkE, reduceCtorEq, Bool.false_eq_true, Bool.and_eq_true, decide_eq_true_eq] at h
  | .lst es, sc, fn, X, G, ex, h => by
    cases ex <;> simp only [chkE, reduceCtorEq, Bool.false_eq_true, Bool.and_eq_true, decide_eq_true_eq] at h
    exact Ok.val (PE.imp (pe_lst (pa_all (es_stars h) (sAs es G h))) fun σ H Q q => imp_lst q) (fun _ => rfl) rfl
  | .dct0, sc, fn, X, G, ex, h => by
    cases ex with
    | Dict ks vs pos =>
      rcases ks with _ | ⟨k, ks⟩ <;> rcases vs with _ | ⟨v, vs⟩ <;> simp only [chkE, reduceCtorEq, Bool.false_eq_true, Bool.and_eq_true, decide_eq_true_eq] at h
      exact Ok.val (PE.imp pe_dnewK fun σ H Q q => imp_dct0 q) (fun _ => rfl) rfl
    | _ => simp only [chkE, reduceCtorEq, Bool.false_eq_true, Bool.and_eq_true, decide_eq_true_eq] at h
  | .idx es, sc, fn, X, G, ex, h => by
    cases ex <;> simp only [chkE, reduceCtorEq, Bool.false_eq_true, Bool.and_eq_true, decide_eq_true_eq] at h
    obtain ⟨t1, t2, ht, p1, p2⟩ := two_len (sAs es G h.2) rfl
    have hi := ix_ok (X := X) G.hu
    rw [G.w_, G.K_] at hi
    exact Ok.val (PE.imp (pe_ix hi p1 p2 (plain_ix h.1)) fun σ H Q q => imp_idx (es_ok h.2) ht q) (fun _ => rfl) rfl
  | .av i f, sc, fn, X, G, ex, h => by
    cases ex <;> simp only [chkE, reduceCtorEq, Bool.false_eq_true, Bool.and_eq_true, decide_eq_true_eq] at h
    obtain ⟨⟨rfl, hsup⟩, hnm⟩ := h
    refine Ok.val (PE.imp (pe_fld (f := s_ f) (nm_ok G hnm) (no_sup hsup _ _)) fun σ H Q q => ?_) (fun _ => rfl) rfl
    rw [G.K_]
    exact imp_av q
  | .mth k c m i es, sc, fn, X, G, ex, h => by
    cases ex with
    | Call g xs kws pos =>
      rcases kws with _ | ⟨kw, kws⟩
      rotate_left
      · cases g <;> simp only [chkE, reduceCtorEq, Bool.false_eq_true] at h
      cases g with
      | Attribute ob nm ap =>
        simp only [chkE, Bool.and_eq_true, decide_eq_true_eq] at h
        obtain ⟨⟨⟨⟨⟨⟨⟨⟨hat, him⟩, hsp⟩, rfl⟩, hsup⟩, hline⟩, hfew⟩, hnm⟩, h⟩ := h
        cases hf : Φ k with
        | none => exact Ok.val (PE.imp pe_nev fun σ H Q q => (mth_none hf q).elim) (fun _ => rfl) rfl
        | some sp =>
          obtain ⟨a, fd, ps, F, hent, hb, _⟩ := G.fns k sp hf hat
          have hmt := (hent.2 him).1
          rw [hsp] at hmt
          rw [← G.w_, ← G.K_] at F
          rw [← G.K_] at hmt hb
          have hA := sAs es G h
          have hs := es_stars h
          have hok := es_ok h
          refine Ok.val ⟨fun pins s σ H Q I q => ?_⟩ (fun _ => rfl) rfl
          have hq := imp_mth hf hok q
          have hcl := hq.1
          rw [← G.K_] at hcl
          refine (pe_methG (E := E0) (nm_ok G hnm) hcl.1 hmt F G.room hb pass0 (pa_all hs hA) (no_sup hsup _ _) hs hfew hline (fun z => by subst z; cases es <;> first | rfl | (simp [chkEs] at h))).run pins s σ H Q I ?_
          have := hq.2
          rw [G.w_, G.K_]
          exact this
      | _ => simp only [chkE, reduceCtorEq, Bool.false_eq_true] at h
    | _ => simp only [chkE, reduceCtorEq, Bool.false_eq_true] at h
  | .new k c es, sc, fn, X, G, ex, h => by
    cases ex with
    | Call g xs kws pos =>
      rcases kws with _ | ⟨kw, kws⟩ <;> simp only [chkE, reduceCtorEq, Bool.false_eq_true, Bool.and_eq_true, decide_eq_true_eq] at h
      obtain ⟨⟨⟨⟨⟨hmk, hat⟩, him⟩, hsp⟩, hg⟩, h⟩ := h
      have hroom := G.room1 hmk
      obtain ⟨p, rfl, g1, g2, g3⟩ := gl_of G hg
      cases hf : Φ k with
      | none => exact Ok.val (PE.imp pe_nev fun σ H Q q => (new_none hf q).elim) (fun _ => rfl) rfl
      | some sp =>
        obtain ⟨a, fd, ps, F, hent, hb, _⟩ := G.fns k sp hf hat
        have hmk := (hent.2 him).2 (by rw [hsp])
        rw [hsp] at hmk
        obtain ⟨ck, hmg, mk⟩ := hmk
        rw [← G.w_, ← G.K_] at F
        rw [← G.K_] at hb hmg mk
        have hA := sAs es G h
        have hs := es_stars h
        have hok := es_ok h
        cases xs with
        | nil =>
          cases es <;> simp only [chkEs, reduceCtorEq, Bool.false_eq_true] at h
          refine Ok.val (PE.imp (pe_make0 (ds := []) (dvs := []) (E := E0) mk F hroom g1 hmg hb .nil pass0 g2) fun σ H Q q => ?_) (fun _ => rfl) rfl
          have := imp_new hf ck hok q
          rw [G.w_, G.K_]
          exact this
        | cons x xs =>
          have hs' := hs
          simp only [List.all_cons, Bool.and_eq_true] at hs'
          refine Ok.val (PE.imp (pe_make (ds := []) (dvs := []) (E := E0) mk F hroom g1 hmg hb .nil pass0 (pa_all hs hA) g2 (star_each hs'.1 _ _) (no_stars hs'.2 _ _)) fun σ H Q q => ?_) (fun _ => rfl) rfl
          have := imp_new hf ck hok q
          rw [G.w_, G.K_]
          exact this
    | _ => simp only [chkE, reduceCtorEq, Bool.false_eq_true] at h
  | .frz e, sc, fn, X, G, ex, h => by
    simp only [chkE, Bool.and_eq_true] at h
    have hp := PE.imp (pe_frz (sE e G h.2).1) fun σ H Q q => imp_frz q
    cases ex <;> first | exact Ok.val hp (fun _ => rfl) rfl | (exfalso; have := h.1; simp [frzB] at this)
  | .idxT e k, sc, fn, X, G, ex, h => by
    cases ex <;> simp only [chkE, reduceCtorEq, Bool.false_eq_true, Bool.and_eq_true, decide_eq_true_eq] at h
    have hi := ixT_ok (X := X) G.hu
    rw [G.w_, G.K_] at hi
    exact Ok.val (PE.imp (pe_ix hi (sE e G h.1.2).1 (sE k G h.2).1 (plain_ix h.1.1)) fun σ H Q q => imp_idxT q) (fun _ => rfl) rfl
  | .isi ts es, sc, fn, X, G, ex, h => by
    cases ex with
    | Call f xs kws pos =>
      rcases xs with _ | ⟨x, _ | ⟨c, _ | ⟨d, xs⟩⟩⟩ <;> rcases kws with _ | ⟨k, kws⟩ <;> simp only [chkE, reduceCtorEq, Bool.false_eq_true, Bool.and_eq_true, decide_eq_true_eq] at h
      obtain ⟨t1, ht, p1⟩ := one_of (sAs es G h.2)
      have hs := es_stars h.2
      simp only [List.all_cons, List.all_nil, Bool.and_true] at hs
      exact Ok.val (pe_isiD G h.1.1 h.1.2 p1 hs (es_ok h.2) ht) (fun _ => rfl) rfl
    | _ => simp only [chkE, reduceCtorEq, Bool.false_eq_true, Bool.and_eq_true, decide_eq_true_eq] at h
  | .bf f es, sc, fn, X, G, ex, h => by
    cases ex with
    | Call g xs kws pos =>
      rcases xs with _ | ⟨x, xs⟩ <;> rcases kws with _ | ⟨k, kws⟩ <;> simp only [chkE, reduceCtorEq, Bool.false_eq_true, Bool.and_eq_true, decide_eq_true_eq] at h
      exact Ok.val (PE.imp (pe_bf G h.1 (pa_all (es_stars h.2) (sAs es G h.2)) (es_stars h.2)) fun σ H Q q => imp_bf (es_ok h.2) q) (fun _ => rfl) rfl
    | _ => simp only [chkE, reduceCtorEq, Bool.false_eq_true, Bool.and_eq_true, decide_eq_true_eq] at h
  | .mr m i es, sc, fn, X, G, ex, h => by
    cases ex with
    | Call g xs kws pos =>
      rcases xs with _ | ⟨x, xs⟩ <;> rcases kws with _ | ⟨k, kws⟩ <;> (try (simp only [chkE, reduceCtorEq, Bool.false_eq_true, Bool.and_eq_true, decide_eq_true_eq] at h; done))
      cases g with
      | Attribute o nm ap =>
        simp only [chkE, reduceCtorEq, Bool.false_eq_true, Bool.and_eq_true, decide_eq_true_eq] at h
        obtain ⟨⟨⟨⟨⟨rfl, h2⟩, h3⟩, h4⟩, h5⟩, h6⟩ := h
        exact Ok.val (PE.imp (pe_bmD (nm_ok G h5) (pa_all (es_stars h6) (sAs es G h6)) (no_sup h2 _ _) (es_stars h6) h4 h3) fun σ H Q q => imp_mr G.hu G.w_ G.K_ (es_ok h6) q) (fun _ => rfl) rfl
      | _ => simp only [chkE, reduceCtorEq, Bool.false_eq_true, Bool.and_eq_true, decide_eq_true_eq] at h
    | _ => simp only [chkE, reduceCtorEq, Bool.false_eq_true, Bool.and_eq_true, decide_eq_true_eq] at h
  | .mrA m i f es, sc, fn, X, G, ex, h => by
    cases ex with
    | Call g xs kws pos =>
      rcases xs with _ | ⟨x, xs⟩ <;> rcases kws with _ | ⟨k, kws⟩ <;> (try (cases g with | Attribute o nm ap => (cases o <;> simp only [chkE, reduceCtorEq, Bool.false_eq_true] at h; done) | _ => (simp only [chkE, reduceCtorEq, Bool.false_eq_true] at h; done)))
      cases g with
      | Attribute o nm ap =>
        cases o with
        | Attribute o fn' fp =>
          simp only [chkE, Bool.and_eq_true, decide_eq_true_eq] at h
          obtain ⟨⟨⟨⟨⟨⟨rfl, rfl⟩, h2⟩, h3⟩, h4⟩, h5⟩, h6⟩ := h
          exact Ok.val (PE.imp (pe_bmD (pe_fld (f := s_ f) (nm_ok G h5) (no_sup h2 _ _)) (pa_all (es_stars h6) (sAs es G h6)) rfl (es_stars h6) h4 h3) fun σ H Q q => imp_mrA G.hu G.w_ G.K_ (es_ok h6) q) (fun _ => rfl) rfl
        | _ => simp only [chkE, reduceCtorEq, Bool.false_eq_true] at h
      | _ => simp only [chkE, reduceCtorEq, Bool.false_eq_true] at h
    | _ => simp only [chkE, reduceCtorEq, Bool.false_eq_true] at h
  | .mm m i es, sc, fn, X, G, ex, h => by
    cases ex with
    | Call g xs kws pos =>
      rcases xs with _ | ⟨x, xs⟩ <;> rcases kws with _ | ⟨k, kws⟩ <;> (try (simp only [chkE, reduceCtorEq, Bool.false_eq_true, Bool.and_eq_true, decide_eq_true_eq] at h; done))
      cases g with
      | Attribute o nm ap =>
        simp only [chkE, reduceCtorEq, Bool.false_eq_true, Bool.and_eq_true, decide_eq_true_eq] at h
        obtain ⟨⟨⟨⟨⟨rfl, h2⟩, h3⟩, h4⟩, h5⟩, h6⟩ := h
        exact Ok.val (PE.imp (pe_bmD (nm_ok G h5) (pa_all (es_stars h6) (sAs es G h6)) (no_sup h2 _ _) (es_stars h6) h4 h3) fun σ H Q q => imp_mm G.w_ G.K_ q) (fun _ => rfl) rfl
      | _ => simp only [chkE, reduceCtorEq, Bool.false_eq_true, Bool.and_eq_true, decide_eq_true_eq] at h
    | _ => simp only [chkE, reduceCtorEq, Bool.false_eq_true, Bool.and_eq_true, decide_eq_true_eq] at h
  | .fn f es, sc, fn, X, G, ex, h => by
    cases ex with
    | Call g xs kws pos =>
      rcases kws with _ | ⟨k, kws⟩ <;> simp only [chkE, reduceCtorEq, Bool.false_eq_true, Bool.and_eq_true, decide_eq_true_eq] at h
      obtain ⟨⟨hg, h⟩, hat, hism⟩ := h
      have hism : isM f = false := by simpa using hism
      obtain ⟨p, rfl, g1, g2, g3⟩ := gl_of G hg
      cases hf : Φ f with
      | none => exact Ok.val (PE.imp pe_nev fun σ H Q q => (fn_none hf q).elim) (fun _ => rfl) rfl
      | some sp =>
        obtain ⟨a, fd, ps, F, hent, hb, _⟩ := G.fns f sp hf hat
        obtain ⟨hm, hk⟩ := hent.1 hism
        rw [← G.w_, ← G.K_] at F
        rw [← G.K_] at hk hb
        have hA := sAs es G h
        have hs := es_stars h
        have hok := es_ok h
        cases xs with
        | nil =>
          cases es <;> simp only [chkEs, reduceCtorEq, Bool.false_eq_true] at h
          refine Ok.val (PE.imp (pe_call0 (ds := []) (dvs := []) (E := E0) F G.room g1 hm hk hb .nil pass0 g2) fun σ H Q q => ?_) (fun _ => rfl) rfl
          have := imp_fn hf hok q
          rw [G.w_, G.K_]
          exact this
        | cons x xs =>
          have hs' := hs
          simp only [List.all_cons, Bool.and_eq_true] at hs'
          refine Ok.val (PE.imp (pe_call (ds := []) (dvs := []) (E := E0) F G.room g1 hm hk hb .nil pass0 (pa_all hs hA) g2 (star_each hs'.1 _ _) (no_stars hs'.2 _ _)) fun σ H Q q => ?_) (fun _ => rfl) rfl
          have := imp_fn hf hok q
          rw [G.w_, G.K_]
          exact this
    | _ => simp only [chkE, reduceCtorEq, Bool.false_eq_true, Bool.and_eq_true, decide_eq_true_eq] at h
  | .comp elt tg it ifs own, sc, fn, X, G, ex, h => by
    cases ex with
    | ListComp elt' gens scope pos =>
      rcases gens with _ | ⟨⟨tgE, iter, ifs', ia⟩, _ | ⟨g2, gens⟩⟩ <;> simp only [chkE, reduceCtorEq, Bool.false_eq_true, Bool.and_eq_true, decide_eq_true_eq] at h
      obtain ⟨⟨⟨⟨⟨⟨⟨⟨⟨rfl, hset⟩, hit⟩, hblk⟩, htg⟩, hsl⟩, hlen⟩, hifs⟩, helt⟩, hLt⟩ := h
      have bok : BlkOk X.N X.env.scope scope (ownS own) := by rw [G.N_, G.sc_]; exact blkOk_by hblk
      have GB := fun s H C cl fp => G.blk scope bok.kind s H C cl fp
      have hI := sIt it G hit
      refine Ok.val (PE.imp (pe_lc G.calm (by rw [G.N_]; exact G.nd) hI bok (fun s H C cl fp => tg_ok (GB s H C cl fp) htg) (fun s H C cl fp => sTs ifs (GB s H C cl fp) hlen hifs) (fun s H C cl fp => (sE elt (GB s H C cl fp) helt).1) (no_fold hset X.env)) fun σ H Q q => ?_) (fun _ => rfl) rfl
      rw [ownS_slots]
      refine imp_comp (fun i hi => ?_) (fun hp i hi => ?_) hLt q
      · rw [List.all_eq_true] at hsl
        simpa using hsl i hi
      · subst hi
        exact pr_nm hp hit htg
    | _ => simp only [chkE, reduceCtorEq, Bool.false_eq_true, Bool.and_eq_true, decide_eq_true_eq] at h
  | .slc l hh es, sc, fn, X, G, ex, h => by
    cases ex with
    | Subscript a sl pos =>
      cases sl with
      | Slice lo hi stp p2 =>
        cases stp with
        | some _ => simp only [chkE, reduceCtorEq, Bool.false_eq_true, Bool.and_eq_true, decide_eq_true_eq] at h
        | none =>
          simp only [chkE, reduceCtorEq, Bool.false_eq_true, Bool.and_eq_true, decide_eq_true_eq] at h
          obtain ⟨⟨rfl, rfl⟩, h⟩ := h
          have hsl := sl_ok (X := X)
          rw [G.w_, G.K_] at hsl
          have hA := sAs es G h
          have hok := es_ok h
          cases lo with
          | none => cases hi with
            | none =>
              obtain ⟨t1, ht, p1⟩ := one_of hA
              exact Ok.val (PE.imp (pe_slice hsl p1 po_none po_none) fun σ H Q q => slc00 hok ht q) (fun _ => rfl) rfl
            | some b =>
              obtain ⟨t1, t2, ht, p1, p2⟩ := two_of (es := es) hA
              exact Ok.val (PE.imp (pe_slice hsl p1 po_none (po_some p2)) fun σ H Q q => slc01 hok ht q) (fun _ => rfl) rfl
          | some a' => cases hi with
            | none =>
              obtain ⟨t1, t2, ht, p1, p2⟩ := two_of (es := es) hA
              exact Ok.val (PE.imp (pe_slice hsl p1 (po_some p2) po_none) fun σ H Q q => slc10 hok ht q) (fun _ => rfl) rfl
            | some b =>
              obtain ⟨t1, t2, t3, ht, p1, p2, p3⟩ := three_ofE hA
              exact Ok.val (PE.imp (pe_slice3 hsl p1 p2 p3) fun σ H Q q => slc11 hok ht q) (fun _ => rfl) rfl
      | _ => simp only [chkE, reduceCtorEq, Bool.false_eq_true, Bool.and_eq_true, decide_eq_true_eq] at h
    | _ => simp only [chkE, reduceCtorEq, Bool.false_eq_true, Bool.and_eq_true, decide_eq_true_eq] at h
  | .lrng tp two es, sc, fn, X, G, ex, h => by
    cases ex with
    | Call f as kws pos =>
      rcases as with _ | ⟨a, _ | ⟨b, as⟩⟩ <;> rcases kws with _ | ⟨k, kws⟩ <;> (try (simp only [chkE, reduceCtorEq, Bool.false_eq_true, Bool.and_eq_true, decide_eq_true_eq] at h; done))
      cases a with
      | Call g xs kws2 p2 =>
        rcases kws2 with _ | ⟨k, kws2⟩ <;> simp only [chkE, reduceCtorEq, Bool.false_eq_true, Bool.and_eq_true, decide_eq_true_eq] at h
        obtain ⟨⟨⟨h1, h2⟩, h3⟩, h4⟩ := h
        obtain ⟨p, rfl, g1, g2, g3⟩ := gl_of G h2
        have hA := sAs es G h4
        have hok := es_ok h4
        have hst := es_stars h4
        cases two with
        | false =>
          rcases xs with _ | ⟨x, _ | ⟨y, xs⟩⟩ <;> simp at h3
          obtain ⟨t1, ht, q1⟩ := one_of hA
          simp only [List.all_cons, Bool.and_eq_true] at hst
          exact Ok.val (PE.imp (pe_lrng G h1 (prg_1 g1 (G.blt "range" (by decide)) q1 (star_each hst.1 _ _)) rfl) fun σ H Q q => lrng1 hok ht q) (fun _ => rfl) rfl
        | true =>
          rcases xs with _ | ⟨x, _ | ⟨y, _ | ⟨z, xs⟩⟩⟩ <;> simp at h3
          obtain ⟨t1, t2, ht, q1, q2⟩ := two_of (es := es) hA
          simp only [List.all_cons, Bool.and_eq_true] at hst
          exact Ok.val (PE.imp (pe_lrng G h1 (prg_2 g1 (G.blt "range" (by decide)) q1 q2 (star_each hst.1 _ _) (star_each hst.2.1 _ _) (no_stars (by simp [hst.2.1]) _ _)) rfl) fun σ H Q q => lrng2 hok ht q) (fun _ => rfl) rfl
      | _ => simp only [chkE, reduceCtorEq, Bool.false_eq_true, Bool.and_eq_true, decide_eq_true_eq] at h
    | _ => simp only [chkE, reduceCtorEq, Bool.false_eq_true, Bool.and_eq_true, decide_eq_true_eq] at h
  | .dct1 k v, sc, fn, X, G, ex, h => by
    cases ex with
    | Dict ks vs pos =>
      rcases ks with _ | ⟨_ | kx, _ | ⟨k2, ks⟩⟩ <;> rcases vs with _ | ⟨vx, _ | ⟨v2, vs⟩⟩ <;> simp only [chkE, reduceCtorEq, Bool.false_eq_true, Bool.and_eq_true, decide_eq_true_eq] at h
      exact Ok.val (PE.imp (pe_disp (pps_cons (sE k G h.1).1 (sE v G h.2).1 pps_nil) rfl rfl (by simp) (by simp)) fun σ H Q q => imp_dct1 q) (fun _ => rfl) rfl
    | _ => simp only [chkE, reduceCtorEq, Bool.false_eq_true, Bool.and_eq_true, decide_eq_true_eq] at h
  | .dctT k v, sc, fn, X, G, ex, h => by
    cases ex with
    | Dict ks vs pos =>
      rcases ks with _ | ⟨_ | kx, _ | ⟨k2, ks⟩⟩ <;> rcases vs with _ | ⟨vx, _ | ⟨v2, vs⟩⟩ <;> simp only [chkE, reduceCtorEq, Bool.false_eq_true, Bool.and_eq_true, decide_eq_true_eq] at h
      exact Ok.val (PE.imp (by have := pe_dispT (pos := pos) G.hu (sE k G h.1).1 (sE v G h.2).1; rw [G.w_, G.K_] at this; exact this) fun σ H Q q => imp_dctT q) (fun _ => rfl) rfl
    | _ => simp only [chkE, reduceCtorEq, Bool.false_eq_true, Bool.and_eq_true, decide_eq_true_eq] at h
  | .mmd i k c, sc, fn, X, G, ex, h => by
    obtain ⟨o, _, _, _, ap, c', _, _, cp, rfl, h3, h4, h5⟩ := mmd_of h
    have hi := ix_ok (X := X) G.hu
    rw [G.w_, G.K_] at hi
    refine Ok.val (PE.imp (pe_bmD (pe_ix hi (nm_ok G h4) pe_int (fun _ _ => rfl)) (pa_cons (k_ok h5) pa_nil rfl) rfl rfl rfl h3) fun σ H Q q => ?_) (fun _ => rfl) rfl
    exact imp_mmd G.w_ G.K_ q
theorem sTs : ∀ (es : Es) {sc : Scope} {fn : Str → Bool} {X : Cx}, Good w K Φ N cs lv sc fn X → ∀ {xs : List Expr}, xs.length ≤ 1 → chkEs N cs sc fn es xs = true → PTs X xs (tBl w K (wT Φ es))
  | .nil, sc, fn, X, G, xs, hl, h => by
    cases xs <;> simp only [chkEs, reduceCtorEq, Bool.false_eq_true] at h
    exact PTs.imp pts_nil fun σ H Q q => imp_t0 q
  | .cons e es, sc, fn, X, G, xs, hl, h => by
    cases xs <;> simp only [chkEs, reduceCtorEq, Bool.false_eq_true, Bool.and_eq_true] at h
    rename_i x xs
    obtain rfl : xs = [] := by
      cases xs with
      | nil => rfl
      | cons _ _ => simp at hl
    have h2 := h.2
    cases es <;> simp only [chkEs, reduceCtorEq, Bool.false_eq_true] at h2
    exact PTs.imp (pts_one (sE e G h.1.2).2.1) fun σ H Q q => imp_t1 q
  | .nm i es, sc, fn, X, G, xs, hl, h => PTs.imp pts_never fun σ H Q q => (imp_tn q).elim
  | .pl ps es, sc, fn, X, G, xs, hl, h => PTs.imp pts_never fun σ H Q q => (imp_tp q).elim
  | .tp ps es, sc, fn, X, G, xs, hl, h => PTs.imp pts_never fun σ H Q q => (imp_tt q).elim
  | .at i f es, sc, fn, X, G, xs, hl, h => PTs.imp pts_never fun σ H Q q => (imp_ta q).elim
theorem sAs : ∀ (es : Es) {sc : Scope} {fn : Str → Bool} {X : Cx}, Good w K Φ N cs lv sc fn X → ∀ {xs : List Expr}, chkEs N cs sc fn es xs = true → OkA w K Φ X es xs
  | .nil, sc, fn, X, G, xs, h => by
    cases xs <;> simp only [chkEs, reduceCtorEq, Bool.false_eq_true] at h
    exact .nil
  | .cons e es, sc, fn, X, G, xs, h => by
    cases xs <;> simp only [chkEs, reduceCtorEq, Bool.false_eq_true, Bool.and_eq_true] at h
    exact .cons (sE e G h.1.2).1 (sAs es G h.2)
  | .nm i es, sc, fn, X, G, xs, h => by
    cases xs <;> simp only [chkEs, reduceCtorEq, Bool.false_eq_true, Bool.and_eq_true] at h
    exact .cons (nm_ok G h.1) (sAs es G h.2)
  | .pl ps es, sc, fn, X, G, xs, h => by
    cases xs with
    | nil => simp only [chkEs, reduceCtorEq, Bool.false_eq_true] at h
    | cons x xs =>
      cases x <;> simp only [chkEs, reduceCtorEq, Bool.false_eq_true, Bool.and_eq_true] at h
      obtain ⟨t1, t2, ht, p1, p2⟩ := two_len (sAs ps G h.1.2) rfl
      refine .cons ?_ (sAs es G h.2)
      have hi := ix_ok (X := X) G.hu
      rw [G.w_, G.K_] at hi
      rw [ht]
      exact pe_ix hi p1 p2 (plain_ix h.1.1)
  | .at i f es, sc, fn, X, G, xs, h => by
    cases xs with
    | nil => simp only [chkEs, reduceCtorEq, Bool.false_eq_true] at h
    | cons x xs =>
      cases x <;> simp only [chkEs, reduceCtorEq, Bool.false_eq_true, Bool.and_eq_true, decide_eq_true_eq] at h
      obtain ⟨⟨⟨rfl, hsup⟩, hnm⟩, h⟩ := h
      refine .cons ?_ (sAs es G h)
      rw [← G.K_]
      exact pe_fld (f := s_ f) (nm_ok G hnm) (no_sup hsup _ _)
  | .tp ps es, sc, fn, X, G, xs, h => by
    cases xs with
    | nil => simp only [chkEs, reduceCtorEq, Bool.false_eq_true] at h
    | cons x xs =>
      cases x <;> simp only [chkEs, reduceCtorEq, Bool.false_eq_true, Bool.and_eq_true] at h
      exact .cons (pe_tupN (pa_all (es_stars h.1) (sAs ps G h.1))) (sAs es G h.2)
theorem sIt : ∀ (it : It) {sc : Scope} {fn : Str → Bool} {X : Cx}, Good w K Φ N cs lv sc fn X → ∀ {tg x : Expr}, chkIt N cs sc fn it tg x = true → PI X tg x (tI w K it (wIt Φ it))
  | .rng1 a, sc, fn, X, G, tg, x, h => by
    cases x with
    | Call f xs kws pos =>
      rcases xs with _ | ⟨x, _ | ⟨y, xs⟩⟩ <;> rcases kws with _ | ⟨k, kws⟩ <;> simp only [chkIt, reduceCtorEq, Bool.false_eq_true, Bool.and_eq_true, decide_eq_true_eq] at h
      obtain ⟨p, rfl, g1, g2, g3⟩ := gl_of G h.1.1
      exact PI.imp (pi_range1 g1 (G.blt "range" (by decide)) (pa_cons (sE a G h.2).1 pa_nil (star_each h.1.2 _ _)) (star_each h.1.2 _ _)) fun σ H R q => imp_rng1 q
    | _ => simp only [chkIt, reduceCtorEq, Bool.false_eq_true, Bool.and_eq_true, decide_eq_true_eq] at h
  | .rng2 a b, sc, fn, X, G, tg, x, h => by
    cases x with
    | Call f xs kws pos =>
      rcases xs with _ | ⟨x, _ | ⟨y, _ | ⟨z, xs⟩⟩⟩ <;> rcases kws with _ | ⟨k, kws⟩ <;> simp only [chkIt, reduceCtorEq, Bool.false_eq_true, Bool.and_eq_true, decide_eq_true_eq] at h
      obtain ⟨⟨⟨⟨h0, h1⟩, h2⟩, h3⟩, h4⟩ := h
      obtain ⟨p, rfl, g1, g2, g3⟩ := gl_of G h0
      have e2 : starEach [y] X.env = [(false, eval y X.env)] := star_each h2 _ _
      have e1 : starEach [x, y] X.env = [(false, eval x X.env), (false, eval y X.env)] := (star_each h1 _ _).trans (by rw [e2])
      exact PI.imp (pi_range2 g1 (G.blt "range" (by decide)) (pa_cons (sE a G h3).1 (pa_cons (sE b G h4).1 pa_nil (star_each h2 _ _)) (star_each h1 _ _)) e1 e2) fun σ H R q => imp_rng2 q
    | _ => simp only [chkIt, reduceCtorEq, Bool.false_eq_true, Bool.and_eq_true, decide_eq_true_eq] at h
  | .rng3 a b c, sc, fn, X, G, tg, x, h => by
    cases x with
    | Call f xs kws pos =>
      rcases xs with _ | ⟨x, _ | ⟨y, _ | ⟨z, _ | ⟨u, xs⟩⟩⟩⟩ <;> rcases kws with _ | ⟨k, kws⟩ <;> simp only [chkIt, reduceCtorEq, Bool.false_eq_true, Bool.and_eq_true, decide_eq_true_eq] at h
      obtain ⟨⟨⟨⟨⟨h0, h1⟩, h2⟩, hz⟩, h3⟩, h4⟩ := h
      obtain ⟨j, p2, rfl⟩ := isIntK_of hz
      obtain ⟨p, rfl, g1, g2, g3⟩ := gl_of G h0
      refine PI.imp (pi_range3 g1 (G.blt "range" (by decide)) (pa_cons (sE a G h3).1 (pa_cons (sE b G h4).1 (pa_cons pe_int pa_nil (star_each rfl _ _)) (star_each h2 _ _)) (star_each h1 _ _)) (star_each h1 _ _) ?_) fun σ H R q => imp_rng3 q
      exact no_stars (by rw [List.all_cons, h2]; rfl) _ _
    | _ => simp only [chkIt, reduceCtorEq, Bool.false_eq_true, Bool.and_eq_true, decide_eq_true_eq] at h
  | .seq e, sc, fn, X, G, tg, x, h => by
    simp only [chkIt] at h
    have := pi_seq (X := X) (tg := tg) (sE e G h).1
    rw [G.K_] at this
    exact PI.imp this fun σ H R q => imp_seq q
  | .seqA i f, sc, fn, X, G, tg, x, h => by
    cases x <;> simp only [chkIt, reduceCtorEq, Bool.false_eq_true, Bool.and_eq_true, decide_eq_true_eq] at h
    obtain ⟨⟨rfl, h2⟩, h3⟩ := h
    refine PI.imp (pi_seq (X := X) (tg := tg) (pe_fld (f := s_ f) (nm_ok G h3) (no_sup h2 _ _))) fun σ H R q => ?_
    rw [G.K_]
    exact imp_seqA q
  | .seqN i, sc, fn, X, G, tg, x, h => by
    simp only [chkIt] at h
    have := pi_seq (X := X) (tg := tg) (nm_ok G h)
    rw [G.K_] at this
    exact PI.imp this fun σ H R q => imp_seqN q
  | .enum e, sc, fn, X, G, tg, x, h => by
    cases x with
    | Call f xs kws pos =>
      rcases xs with _ | ⟨x, _ | ⟨y, xs⟩⟩ <;> rcases kws with _ | ⟨k, kws⟩ <;> simp only [chkIt, reduceCtorEq, Bool.false_eq_true, Bool.and_eq_true, decide_eq_true_eq] at h
      obtain ⟨p, rfl, g1, g2, g3⟩ := gl_of G h.1.1.2
      cases tg <;> simp only [isTuple, Bool.false_eq_true, false_and] at h
      have := pi_enumS (X := X) (tpos := ‹_›) (elts := ‹_›) (kk := ‹_›) (p := p) (pos := pos) g1 (G.blt "enumerate" (by decide)) (pa_cons (sE e G h.2).1 pa_nil (star_each h.1.2 _ _)) (star_each h.1.2 _ _)
      rw [G.K_] at this
      exact PI.imp this fun σ H R q => imp_enum q
    | _ => simp only [chkIt, reduceCtorEq, Bool.false_eq_true, Bool.and_eq_true, decide_eq_true_eq] at h
  | .enumN i, sc, fn, X, G, tg, x, h => by
    cases x with
    | Call f xs kws pos =>
      rcases xs with _ | ⟨x, _ | ⟨y, xs⟩⟩ <;> rcases kws with _ | ⟨k, kws⟩ <;> simp only [chkIt, reduceCtorEq, Bool.false_eq_true, Bool.and_eq_true, decide_eq_true_eq] at h
      obtain ⟨p, rfl, g1, g2, g3⟩ := gl_of G h.1.2
      have hx : notStar x = true := by cases x <;> simp [chkNm] at h <;> rfl
      cases tg <;> simp only [isTuple, Bool.false_eq_true, false_and] at h
      have := pi_enumS (X := X) (tpos := ‹_›) (elts := ‹_›) (kk := ‹_›) (p := p) (pos := pos) g1 (G.blt "enumerate" (by decide)) (pa_cons (nm_ok G h.2) pa_nil (star_each hx _ _)) (star_each hx _ _)
      rw [G.K_] at this
      exact PI.imp this fun σ H R q => imp_enumN q
    | _ => simp only [chkIt, reduceCtorEq, Bool.false_eq_true, Bool.and_eq_true, decide_eq_true_eq] at h
end
end
end Dl
/-! DlStmt: statements are what they are worth. -/
namespace Dl
open PySem PySem.Spec PyProof.Rows L2
variable [Tab]
section
variable {w : World} {K : PySem.W.Frag} {Φ : Phi} {R : Addr → Prop} {H H' : Hp} {σ σ' : L2.St} {ρ st : DS} {fp : Fp} {fx : List Nat}
/-- what comes behind -/
def Go (w : World) (K : PySem.W.Frag) (fx : List Nat) (R : Addr → Prop) (H : Hp) (σ : L2.St) (fp : Fp) (P : DS → Prop) (M : L2.St → Hp → Prop) : Prop := ∀ st' σ' H' fp', P st' → Ext (Mine fp) H H' (Mine fp') → Own w K R H' σ' st' fp' → σ'.length = σ.length → (∀ i ∈ fx, σ'[i]? = σ[i]?) → M σ' H'
def GoR (w : World) (K : PySem.W.Frag) (fx : List Nat) (R : Addr → Prop) (H : Hp) (σ : L2.St) (fp : Fp) (P : D → DS → Prop) (M : VK) : Prop := ∀ d st' σ' v H' fp' B, P d st' → Ext (Mine fp) H H' (fun x => Mine fp' x ∨ x ∈ B) → Own w K R H' σ' st' fp' → σ'.length = σ.length → (∀ i ∈ fx, σ'[i]? = σ[i]?) → Rep w K H' v d B → B.Nodup → (∀ x ∈ B, ¬ Mine fp' x) → M v H'
structure After (w : World) (K : PySem.W.Frag) (fx : List Nat) (R : Addr → Prop) (H : Hp) (σ : L2.St) (fp : Fp) (Nd : Dl.Ends) (M : L2.Ends) : Prop where
  nx : Go w K fx R H σ fp Nd.nx M.nx
  bk : Go w K fx R H σ fp Nd.bk M.bk
  ct : Go w K fx R H σ fp Nd.ct M.ct
  rt : GoR w K fx R H σ fp Nd.rt M.rt
/-- a statement's reading -/
def tSt (w : World) (K : PySem.W.Frag) (fx : List Nat) (wf : DS → Dl.Ends → DS → Prop) : TS := fun M σ H => ∃ ρ st fp R Nd, Env w K R H σ ρ ∧ Own w K R H σ st fp ∧ (∀ (i : Nat) (d : D), ρ[i]? = some (some d) → i ∈ fx) ∧ wf ρ Nd st ∧ After w K fx R H σ fp Nd M
theorem Go.back {fp0 : Fp} {H0 : Hp} {σ0 : L2.St} {P : DS → Prop} {M : L2.St → Hp → Prop} (g : Go w K fx R H0 σ0 fp0 P M) (x : Ext (Mine fp0) H0 H (Mine fp)) (hl : σ.length = σ0.length) (hf : ∀ i ∈ fx, σ[i]? = σ0[i]?) : Go w K fx R H σ fp P M :=
  fun st' σ' H' fp' p x' o' l' f' => g st' σ' H' fp' p (x.trans x') o' (l'.trans hl) fun i hi => (f' i hi).trans (hf i hi)
theorem GoR.back {fp0 : Fp} {H0 : Hp} {σ0 : L2.St} {P : D → DS → Prop} {M : VK} (g : GoR w K fx R H0 σ0 fp0 P M) (x : Ext (Mine fp0) H0 H (Mine fp)) (hl : σ.length = σ0.length) (hf : ∀ i ∈ fx, σ[i]? = σ0[i]?) : GoR w K fx R H σ fp P M :=
  fun d st' σ' v H' fp' B p x' o' l' f' => g d st' σ' v H' fp' B p (x.trans x') o' (l'.trans hl) fun i hi => (f' i hi).trans (hf i hi)
theorem After.back {fp0 : Fp} {H0 : Hp} {σ0 : L2.St} {Nd : Dl.Ends} {M : L2.Ends} (g : After w K fx R H0 σ0 fp0 Nd M) (x : Ext (Mine fp0) H0 H (Mine fp)) (hl : σ.length = σ0.length) (hf : ∀ i ∈ fx, σ[i]? = σ0[i]?) : After w K fx R H σ fp Nd M :=
  ⟨g.nx.back x hl hf, g.bk.back x hl hf, g.ct.back x hl hf, g.rt.back x hl hf⟩
theorem keepE {M' : Addr → Prop} (e : Env w K R H σ ρ) (o : Own w K R H σ st fp) (x : Ext (Mine fp) H H' M') (hρ : ∀ (i : Nat) (d : D), ρ[i]? = some (some d) → i ∈ fx) (hl : σ'.length = σ.length) (hf : ∀ i ∈ fx, σ'[i]? = σ[i]?) : Env w K R H' σ' ρ := e.keep o x hl fun i d q => hf i (hρ i d q)

/-! ### stores -/
theorem Own.store (o : Own w K R H σ st fp) {i : Nat} {v : V} {d : D} {B : List Addr} (r : Rep w K H v d B) (nd : B.Nodup) (hd : ∀ x ∈ B, ¬ Mine fp x) (hR : ∀ x ∈ B, ¬ R x) :
    ∃ fp', Own w K R H (σ.set i (some v)) (st.set i (some d)) fp' ∧ ∀ x, Mine fp' x → Mine fp x ∨ x ∈ B := by
  by_cases hi : i < st.length
  · exact ⟨_, o.put r nd hd hR hi, fun x m => m.upd⟩
  · have hl := o.len
    rw [List.set_eq_of_length_le (by omega), List.set_eq_of_length_le (by omega)]
    exact ⟨fp, o, fun x m => .inl m⟩
theorem not_R {T M : Addr → Prop} (e : Env w K R H σ ρ) (o : Own w K R H σ st fp) (x : Ext (Mine fp) H H' (fun x => M x ∨ T x)) {y : Addr} (hy : T y) : ¬ R y := fun hR => by
  rcases x.from_ y (.inr hy) with ⟨i, hi⟩ | z
  · exact o.out y i hR hi
  · exact e.there y hR z
theorem storeAll : ∀ {is : List Nat} {vs : List V} {ds : List D} {B : List Addr} {σ : L2.St} {st : DS} {fp : Fp}, is.length = ds.length → Reps w K H vs ds B → B.Nodup → (∀ x ∈ B, ¬ Mine fp x) → (∀ x ∈ B, ¬ R x) → Own w K R H σ st fp → ∀ {Qs : L2.St → Hp → Prop},
    (∀ σ' fp', Own w K R H σ' (setAll st is ds) fp' → (∀ x, Mine fp' x → Mine fp x ∨ x ∈ B) → σ'.length = σ.length → (∀ j, j ∉ is → σ'[j]? = σ[j]?) → Qs σ' H) → gNames is vs σ H Qs
  | [], _, [], _, σ, st, fp, _, rs, _, _, _, o, Qs, k => by
    cases rs
    exact ⟨rfl, k σ fp o (fun _ m => .inl m) rfl fun _ _ => rfl⟩
  | [], _, _ :: _, _, _, _, _, hl, _, _, _, _, _, _, _ => by simp at hl
  | _ :: _, _, [], _, _, _, _, hl, _, _, _, _, _, _, _ => by simp at hl
  | i :: is, _, d :: ds, _, σ, st, fp, hl, rs, nd, hd, hR, o, Qs, k => by
    cases rs with
    | @cons v vs _ _ A B r rs =>
      obtain ⟨n1, n2, n3⟩ := List.nodup_append.mp nd
      obtain ⟨fp1, o1, h1⟩ := o.store (i := i) r n1 (fun x hx => hd x (List.mem_append_left _ hx)) (fun x hx => hR x (List.mem_append_left _ hx))
      refine ⟨v, vs, rfl, ?_⟩
      show gNames is vs (σ.set i (some v)) H Qs
      refine storeAll (by simpa using hl) rs n2 (fun x hx m => ?_) (fun x hx => hR x (List.mem_append_right _ hx)) o1 fun σ' fp' o' m' l' s' => ?_
      · rcases h1 x m with z | z
        · exact hd x (List.mem_append_right _ hx) z
        · exact n3 x z x hx rfl
      · refine k σ' fp' o' (fun x m => ?_) (by rw [l', List.length_set]) fun j hj => ?_
        · rcases m' x m with z | z
          · exact (h1 x z).imp id fun z => List.mem_append_left _ z
          · exact .inr (List.mem_append_right _ z)
        · rw [List.mem_cons, not_or] at hj
          rw [s' j hj.2, get_set_ne (Ne.symm hj.1)]

/-! ### small statements -/
theorem imp_asg {i : Nat} {ex : E} (hi : i ∉ fx) {M : L2.Ends} (h : tSt w K fx (wS Φ (.asg i ex)) M σ H) : tAsg (tE w K (wE Φ ex)) (gName i) M σ H := by
  obtain ⟨ρ, st, fp, R, Nd, e, o, hρ, h, k⟩ := h
  rw [wS] at h
  refine tE_at e o h fun d st1 v H1 fp1 B q x1 o1 r nd dj => ?_
  obtain ⟨fp2, o2, h2⟩ := o1.store (i := i) r nd dj fun y hy => not_R e o x1 hy
  exact k.nx _ _ H1 fp2 q (x1.mono fun y m => h2 y m) o2 (by rw [List.length_set]) fun j hj => get_set_ne fun z => hi (by rw [z]; exact hj)
theorem imp_unp {is : List Nat} {ex : E} (hi : ∀ i ∈ is, i ∉ fx) {M : L2.Ends} (h : tSt w K fx (wS Φ (.unp is ex)) M σ H) : tAsg (tE w K (wE Φ ex)) (gTg K (.tp is)) M σ H := by
  obtain ⟨ρ, st, fp, R, Nd, e, o, hρ, h, k⟩ := h
  rw [wS] at h
  refine tE_at e o h fun d st1 v H1 fp1 B q x1 o1 r nd dj => ?_
  cases d <;> first | exact q.elim | skip
  cases r with
  | @tup a vs ds _ t rs =>
    refine ⟨a, vs, rfl, t.sq, by rw [rs.length]; exact q.1.symm, ?_⟩
    refine storeAll q.1 rs nd dj (fun y hy => not_R e o x1 hy) o1 fun σ' fp' o' m' l' s' => ?_
    exact k.nx _ _ H1 fp' q.2 (x1.mono fun y m => m' y m) o' l' fun j hj => s' j fun z => hi j z hj
theorem imp_par2 {i j : Nat} {es : Es} (hi : i ∉ fx) (hj : j ∉ fx) {M : L2.Ends} (h : tSt w K fx (wS Φ (.par [i, j] es)) M σ H) : tPar i j (seqT (trs w K Φ es)) M σ H := by
  obtain ⟨ρ, st, fp, R, Nd, e, o, hρ, h, k⟩ := h
  rw [wS] at h
  refine impVs es e o h fun ds st1 vs H1 fp1 B q x1 o1 rs nd dj => ?_
  obtain ⟨q1, q2⟩ := q
  have := storeAll (Qs := M.nx) q1 rs nd dj (fun y hy => not_R e o x1 hy) o1 fun σ' fp' o' m' l' s' => k.nx _ _ H1 fp' q2 (x1.mono fun y m => m' y m) o' l' fun a ha => s' a fun z => by
    simp only [List.mem_cons, List.not_mem_nil, or_false] at z
    rcases z with z | z <;> subst z <;> first | exact hi ha | exact hj ha
  obtain ⟨v, r, rfl, v2, r2, rfl, h3⟩ := this
  obtain ⟨rfl, h4⟩ := h3
  exact ⟨v, v2, rfl, h4⟩
theorem imp_par3 {i j l : Nat} {es : Es} (hi : i ∉ fx) (hj : j ∉ fx) (hl : l ∉ fx) {M : L2.Ends} (h : tSt w K fx (wS Φ (.par [i, j, l] es)) M σ H) : tPar3 i j l (seqT (trs w K Φ es)) M σ H := by
  obtain ⟨ρ, st, fp, R, Nd, e, o, hρ, h, k⟩ := h
  rw [wS] at h
  refine impVs es e o h fun ds st1 vs H1 fp1 B q x1 o1 rs nd dj => ?_
  obtain ⟨q1, q2⟩ := q
  have := storeAll (Qs := M.nx) q1 rs nd dj (fun y hy => not_R e o x1 hy) o1 fun σ' fp' o' m' l' s' => k.nx _ _ H1 fp' q2 (x1.mono fun y m => m' y m) o' l' fun a ha => s' a fun z => by
    simp only [List.mem_cons, List.not_mem_nil, or_false] at z
    rcases z with z | z | z <;> subst z <;> first | exact hi ha | exact hj ha | exact hl ha
  obtain ⟨v, r, rfl, v2, r2, rfl, v3, r3, rfl, h3⟩ := this
  obtain ⟨rfl, h4⟩ := h3
  exact ⟨v, v2, v3, rfl, h4⟩
theorem imp_sto {i : Nat} {ke ex : E} {M : L2.Ends} (h : tSt w K fx (wS Φ (.sto i ke ex)) M σ H) : tAsg (tE w K (wE Φ ex)) (gSub (tVar i) (tE w K (wE Φ ke)) (rSt w K)) M σ H := by
  obtain ⟨ρ, st, fp, R, Nd, e, o, hρ, h, k⟩ := h
  rw [wS] at h
  refine tE_at e o h fun d st1 v H1 fp1 B q x1 o1 r nd dj => ?_
  obtain ⟨q0, q⟩ := q
  have e1 := e.keep' o x1
  obtain ⟨d0, hd0⟩ : ∃ d0, st1[i]? = some (some d0) := by
    unfold isRw at q0
    cases hz : st1[i]? with
    | none => rw [hz] at q0; cases q0
    | some u =>
      rw [hz] at q0
      cases u with
      | none => cases q0
      | some d0 => exact ⟨d0, rfl⟩
  obtain ⟨vo, hvo, _, _⟩ := o1.at_ i d0 hd0
  refine ⟨vo, hvo, ?_⟩
  refine tE_at e1 o1 q fun kd st2 vk H2 fp2 Bk q2 x2 o2 rk ndk djk => ?_
  obtain ⟨q20, q2⟩ := q2
  split at q2
  · rename_i od hod
    cases hm : mset od kd d with
    | none => rw [hm] at q2; exact q2.elim
    | some o' =>
      rw [hm] at q2
      obtain ⟨vo', hvo', ro, ndo⟩ := o2.at_ i od hod
      rw [hvo] at hvo'
      cases hvo'
      have r2 := r.out o1 x2 dj
      have dj2 : ∀ x ∈ B, ¬ Mine fp2 x := tmp_out (M := fun x => x ∈ Bk) x2 (fun x hx => r.there hx) dj
      refine ⟨od, kd, d, o', fp2 i, Bk, B, ro, rk, r2, hm, ndo, nd, fun x hx z => dj2 x hx ⟨i, z⟩, fun H3 B3 r3 kp hb ndb => ?_⟩
      have o3 := o2.change hod hvo r3 ndb kp fun x hx => (hb x hx).imp id fun z => ⟨dj2 x z, not_R e o x1 z⟩
      refine k.nx _ _ H3 _ q2 ?_ o3 rfl fun _ _ => rfl
      have x02 : Ext (Mine fp) H H2 (fun x => Mine fp2 x ∨ x ∈ B) := by
        refine ⟨fun x u hx hm => x2.keep x u (x1.keep x u hx hm) fun m => ?_, fun x hx => ?_⟩
        · rcases x1.from_ x (.inl m) with z | z
          · exact hm z
          · rw [hx] at z; cases z
        · rcases hx with hx | hx
          · exact ((ext1 x1).trans (ext1 x2)).from_ x hx
          · exact x1.from_ x (.inr hx)
      refine ⟨fun x u hx hm => kp x u (x02.keep x u hx hm) fun z => ?_, fun x hx => ?_⟩
      · rcases x02.from_ x (.inl ⟨i, z⟩) with z | z
        · exact hm z
        · rw [hx] at z; cases z
      · rcases hx.upd with z | z
        · exact x02.from_ x (.inl z)
        · rcases hb x z with z | z
          · exact x02.from_ x (.inl ⟨i, z⟩)
          · exact x02.from_ x (.inr z)
  · exact q2.elim
theorem imp_ex {ex : E} {M : L2.Ends} (h : tSt w K fx (wS Φ (.ex ex)) M σ H) : tDrop (tE w K (wE Φ ex)) M σ H := by
  obtain ⟨ρ, st, fp, R, Nd, e, o, hρ, h, k⟩ := h
  rw [wS] at h
  exact tE_at e o h fun d st1 v H1 fp1 B q x1 o1 r nd dj => k.nx _ _ H1 fp1 q (ext1 x1) o1 rfl fun _ _ => rfl
theorem imp_ret {ex : E} {M : L2.Ends} (h : tSt w K fx (wS Φ (.ret ex)) M σ H) : tRet (tE w K (wE Φ ex)) M σ H := by
  obtain ⟨ρ, st, fp, R, Nd, e, o, hρ, h, k⟩ := h
  rw [wS] at h
  exact tE_at e o h fun d st1 v H1 fp1 B q x1 o1 r nd dj => k.rt _ _ _ v H1 fp1 B q x1 o1 rfl (fun _ _ => rfl) r nd dj
theorem imp_retN {M : L2.Ends} (h : tSt w K fx (wS Φ .retN) M σ H) : tRetN M σ H := by
  obtain ⟨ρ, st, fp, R, Nd, e, o, hρ, h, k⟩ := h
  rw [wS] at h
  exact k.rt _ _ _ .non H fp [] h (extE (Ext.refl _ _)) o rfl (fun _ _ => rfl) .non List.nodup_nil fun _ z => nomatch z
theorem imp_pass {M : L2.Ends} (h : tSt w K fx (wS Φ .pass) M σ H) : tNext M σ H := by
  obtain ⟨ρ, st, fp, R, Nd, e, o, hρ, h, k⟩ := h
  rw [wS] at h
  exact k.nx st σ H fp h (Ext.refl _ _) o rfl fun _ _ => rfl
theorem imp_brk {M : L2.Ends} (h : tSt w K fx (wS Φ .brk) M σ H) : tBreak M σ H := by
  obtain ⟨ρ, st, fp, R, Nd, e, o, hρ, h, k⟩ := h
  rw [wS] at h
  exact k.bk st σ H fp h (Ext.refl _ _) o rfl fun _ _ => rfl
theorem imp_cont {M : L2.Ends} (h : tSt w K fx (wS Φ .cont) M σ H) : tCont M σ H := by
  obtain ⟨ρ, st, fp, R, Nd, e, o, hρ, h, k⟩ := h
  rw [wS] at h
  exact k.ct st σ H fp h (Ext.refl _ _) o rfl fun _ _ => rfl
theorem imp_raise {M : L2.Ends} (h : tSt w K fx (wS Φ .raise) M σ H) : tNever M σ H := by
  obtain ⟨ρ, st, fp, R, Nd, e, o, hρ, h, k⟩ := h
  rw [wS] at h
  exact h
theorem imp_nil {M : L2.Ends} (h : tSt w K fx (wSs Φ []) M σ H) : tNext M σ H := by
  obtain ⟨ρ, st, fp, R, Nd, e, o, hρ, h, k⟩ := h
  rw [wSs] at h
  exact k.nx st σ H fp h (Ext.refl _ _) o rfl fun _ _ => rfl
theorem imp_cons {s : S} {r : List S} {M : L2.Ends} (h : tSt w K fx (wSs Φ (s :: r)) M σ H) : tSeq (tSt w K fx (wS Φ s)) (tSt w K fx (wSs Φ r)) M σ H := by
  obtain ⟨ρ, st, fp, R, Nd, e, o, hρ, h, k⟩ := h
  rw [wSs] at h
  refine ⟨ρ, st, fp, R, _, e, o, hρ, h, ⟨fun st' σ' H' fp' p x' o' l' f' => ?_, k.bk, k.ct, k.rt⟩⟩
  exact ⟨ρ, st', fp', R, Nd, keepE e o x' hρ l' f', o', hρ, p, k.back x' l' f'⟩
theorem imp_if {c : E} {a b : List S} {M : L2.Ends} (h : tSt w K fx (wS Φ (.ite c a b)) M σ H) : tIfS (tTs w K (wE Φ c)) (tSt w K fx (wSs Φ a)) (tSt w K fx (wSs Φ b)) M σ H := by
  obtain ⟨ρ, st, fp, R, Nd, e, o, hρ, h, k⟩ := h
  rw [wS] at h
  refine ⟨ρ, st, fp, R, _, e, o, h, fun d st1 H1 fp1 q x1 o1 => ?_⟩
  have e1 := e.keep' o x1
  cases d <;> first | exact q.elim | skip
  rename_i bb
  refine ⟨bb, rfl, ?_⟩
  cases bb with
  | true => rw [if_pos rfl]; exact ⟨ρ, st1, fp1, R, Nd, e1, o1, hρ, q, k.back x1 rfl fun _ _ => rfl⟩
  | false => rw [if_neg (by decide)]; exact ⟨ρ, st1, fp1, R, Nd, e1, o1, hρ, q, k.back x1 rfl fun _ _ => rfl⟩
theorem imp_whl {c : E} {b : List S} {M : L2.Ends} (h : tSt w K fx (wS Φ (.whl c b)) M σ H) : tWhile (tTs w K (wE Φ c)) (tSt w K fx (wSs Φ b)) M σ H := by
  obtain ⟨ρ, st, fp, R, Nd, e, o, hρ, h, k⟩ := h
  rw [wS] at h
  obtain ⟨W, ⟨m0, w0⟩, turn⟩ := h
  let Wv := fun (m : Nat) (σ' : L2.St) (H' : Hp) => ∃ st' fp', W m st' ∧ Ext (Mine fp) H H' (Mine fp') ∧ Own w K R H' σ' st' fp' ∧ σ'.length = σ.length ∧ ∀ i ∈ fx, σ'[i]? = σ[i]?
  refine ⟨Wv, ⟨m0, st, fp, w0, Ext.refl _ _, o, rfl, fun _ _ => rfl⟩, ?_⟩
  rintro m σ1 H1 ⟨st1, fp1, w1, x1, o1, l1, f1⟩
  have e1 := keepE e o x1 hρ l1 f1
  refine ⟨ρ, st1, fp1, R, _, e1, o1, turn m st1 w1, fun d st2 H2 fp2 q x2 o2 => ?_⟩
  have e2 := e1.keep' o1 x2
  have x12 := x1.trans x2
  cases d <;> first | exact q.elim | skip
  rename_i bb
  refine ⟨bb, rfl, ?_⟩
  cases bb with
  | true =>
    rw [if_pos rfl]
    have again : Go w K fx R H2 σ1 fp2 (fun st3 => ∃ m', m' < m ∧ W m' st3) (fun σ3 H3 => ∃ m', m' < m ∧ Wv m' σ3 H3) := fun st3 σ3 H3 fp3 p x3 o3 l3 f3 => by
      obtain ⟨m', hm, w3⟩ := p
      exact ⟨m', hm, st3, fp3, w3, x12.trans x3, o3, l3.trans l1, fun i hi => (f3 i hi).trans (f1 i hi)⟩
    exact ⟨_, fun σ' H' hh => hh, ρ, st2, fp2, R, _, e2, o2, hρ, q, ⟨again, k.nx.back x12 l1 f1, again, k.rt.back x12 l1 f1⟩⟩
  | false => rw [if_neg (by decide)]; exact k.nx st2 σ1 H2 fp2 q x12 o2 l1 f1

/-! ### for -/
theorem Env.forget (e : Env w K R H σ ρ) {i : Nat} {v : V} : Env w K R H (σ.set i (some v)) (ρ.set i none) where
  len := by rw [List.length_set, List.length_set]; exact e.len
  at_ j d q := by
    obtain ⟨h1, h2⟩ := get_set_none q
    rw [get_set_ne h1]
    exact e.at_ j d h2
  there := e.there
theorem bindFs_len : ∀ {is : List Nat} {ds : List D} {ρ st : DS} {Q : DS → DS → Prop}, bindFs is ds ρ st Q → is.length = ds.length
  | [], [], _, _, _, _ => rfl
  | [], _ :: _, _, _, _, h => h.elim
  | _ :: _, [], _, _, _, h => h.elim
  | i :: is, d :: ds, ρ, st, Q, h => by
    rw [bindFs] at h
    unfold bindF at h
    split at h
    · simp [bindFs_len h]
    · simp [bindFs_len h]
theorem bindFs_ok : ∀ {is : List Nat} {vs : List V} {ds : List D} {B : List Addr} {σ : L2.St} {ρ st : DS} {fp : Fp} {Qd : DS → DS → Prop}, bindFs is ds ρ st Qd → Reps w K H vs ds B → (∀ x ∈ B, R x) → Env w K R H σ ρ → Own w K R H σ st fp → ∀ {Qs : L2.St → Hp → Prop},
    (∀ σ' ρ' st' fp', Qd ρ' st' → Env w K R H σ' ρ' → Own w K R H σ' st' fp' → (∀ x, Mine fp' x → Mine fp x) → σ'.length = σ.length → (∀ j, j ∉ is → σ'[j]? = σ[j]?) → (∀ (j : Nat) (d : D), ρ'[j]? = some (some d) → (j ∈ is ∧ ¬ immutAll ds = true) ∨ ρ[j]? = some (some d)) → Qs σ' H) → gNames is vs σ H Qs
  | [], _, [], _, σ, ρ, st, fp, Qd, h, rs, _, e, o, Qs, k => by
    cases rs
    exact ⟨rfl, k σ ρ st fp h e o (fun _ m => m) rfl (fun _ _ => rfl) fun _ _ q => .inr q⟩
  | [], _, _ :: _, _, _, _, _, _, _, h, _, _, _, _, _, _ => h.elim
  | _ :: _, _, [], _, _, _, _, _, _, h, _, _, _, _, _, _ => h.elim
  | i :: is, _, d :: ds, _, σ, ρ, st, fp, Qd, h, rs, hB, e, o, Qs, k => by
    cases rs with
    | @cons v vs _ _ A B r rs =>
      refine ⟨v, vs, rfl, ?_⟩
      show gNames is vs (σ.set i (some v)) H Qs
      rw [bindFs] at h
      unfold bindF at h
      have hA : ∀ x ∈ A, R x := fun x hx => hB x (List.mem_append_left _ hx)
      have hB' : ∀ x ∈ B, R x := fun x hx => hB x (List.mem_append_right _ hx)
      split at h
      · rename_i him
        have e0 := r.immut him
        subst e0
        have e1 : Env w K R H (σ.set i (some v)) (ρ.set i none) := e.forget
        obtain ⟨fp1, o1, h1⟩ := o.store (i := i) r List.nodup_nil (fun _ z => nomatch z) (fun _ z => nomatch z)
        refine bindFs_ok h rs hB' e1 o1 fun σ' ρ' st' fp' q' e' o' m' l' s' d' => ?_
        refine k σ' ρ' st' fp' q' e' o' (fun x m => (h1 x (m' x m)).elim id fun z => nomatch z) (by rw [l', List.length_set]) (fun j hj => ?_) fun j d2 hd => ?_
        · rw [List.mem_cons, not_or] at hj
          rw [s' j hj.2, get_set_ne (Ne.symm hj.1)]
        · rcases d' j d2 hd with z | z
          · exact .inl ⟨List.mem_cons_of_mem _ z.1, fun y => z.2 (by simp only [immutAll, Bool.and_eq_true] at y; exact y.2)⟩
          · exact .inr (get_set_none z).2
      · rename_i him
        have him' : ¬ immutAll (d :: ds) = true := fun y => him (by simp only [immutAll, Bool.and_eq_true] at y; exact y.1)
        have e1 := e.bind (i := i) r hA
        have o1 : Own w K R H (σ.set i (some v)) (st.set i none) (updF fp i []) := (o.move i).bind fun d2 hd => (get_set_none hd).1 rfl
        refine bindFs_ok h rs hB' e1 o1 fun σ' ρ' st' fp' q' e' o' m' l' s' d' => ?_
        refine k σ' ρ' st' fp' q' e' o' (fun x m => (m' x m).move) (by rw [l', List.length_set]) (fun j hj => ?_) fun j d2 hd => ?_
        · rw [List.mem_cons, not_or] at hj
          rw [s' j hj.2, get_set_ne (Ne.symm hj.1)]
        · rcases d' j d2 hd with z | z
          · exact .inl ⟨List.mem_cons_of_mem _ z.1, him'⟩
          · by_cases hij : i = j
            · exact .inl ⟨by rw [hij]; exact List.mem_cons_self, him'⟩
            · rw [get_set_ne hij] at z; exact .inr z
theorem bindTgF {tg : Tg} {v : V} {x : D} {B : List Addr} {Qd : DS → DS → Prop} (h : setTgF ρ st tg x Qd) (y : Yd w K H v x B) (ynm : ∀ i, tg = .nm i → Rep w K H v x B) (hB : ∀ a ∈ B, R a) (e : Env w K R H σ ρ) (o : Own w K R H σ st fp) {Qs : L2.St → Hp → Prop}
    (k : ∀ σ' ρ' st' fp', Qd ρ' st' → Env w K R H σ' ρ' → Own w K R H σ' st' fp' → (∀ x, Mine fp' x → Mine fp x) → σ'.length = σ.length → (∀ j, j ∉ tg.slots → σ'[j]? = σ[j]?) → (∀ (j : Nat) (d : D), ρ'[j]? = some (some d) → (j ∈ tg.slots ∧ ¬ x.immut = true) ∨ ρ[j]? = some (some d)) → Qs σ' H) : gTg K tg v σ H Qs := by
  cases tg with
  | nm i =>
    have hb : bindFs [i] [x] ρ st Qd := h
    have rs : Reps w K H [v] [x] (B ++ []) := .cons (ynm i rfl) .nil
    have := bindFs_ok hb rs (by simpa using hB) e o (Qs := Qs) fun σ' ρ' st' fp' q e' o' m l f dd => k σ' ρ' st' fp' q e' o' m l f fun j d hd => (dd j d hd).imp (fun z => ⟨z.1, fun y => z.2 (by simp [immutAll, y])⟩) id
    obtain ⟨v', r', e1, h1⟩ := this
    cases e1
    exact h1.2
  | tp is =>
    have y' : ∃ a vs ds, v = .ref a ∧ SqT K H a vs ∧ x = .tup ds ∧ Reps w K H vs ds B := by
      rcases y with r | y
      · cases x <;> first | (simp only [setTgF] at h; done) | skip
        cases r with
        | tup t rs => exact ⟨_, _, _, rfl, t.sq, rfl, rs⟩
      · exact y
    obtain ⟨a, vs, ds, rfl, hq, rfl, rs⟩ := y'
    rw [setTgF] at h
    have hl : is.length = ds.length := bindFs_len h
    refine ⟨a, vs, rfl, hq, by rw [rs.length, hl], ?_⟩
    exact bindFs_ok h rs hB e o fun σ' ρ' st' fp' q e' o' m l f dd => k σ' ρ' st' fp' q e' o' m l f fun j d hd => (dd j d hd).imp (fun z => ⟨z.1, fun y => z.2 (by simpa [D.immut] using y)⟩) id
theorem imp_forG {tg : Tg} {it : It} {body : List S} {W : DS → Ends → DS → Prop} {wi : DS → DS → (List D → Option Nat → DS → Prop) → Prop} (hW : ∀ ρ N st, W ρ N st = wi ρ st fun xs root st1 => xs.length ≤ lim ∧ wFor tg (wSs Φ body) { nx := fun st2 => N.nx (restore root.toList st1 st2), rt := fun d st2 => N.rt d (restore root.toList st1 st2) } (lock ρ st1 root) xs (hide root.toList st1)) (htg : ∀ i ∈ tg.slots, i ∉ fx ++ it.root.toList) (hpr : it.pr = true → ∀ i, tg ≠ .nm i) (hLt : tabI ∉ it.root.toList) {M : L2.Ends} (h : tSt w K fx W M σ H) :
    tFor (tI w K it wi) (gTg K tg) (tSt w K (fx ++ it.root.toList ++ it.keep tg) (wSs Φ body)) M σ H := by
  obtain ⟨ρ, st, fp, R, Nd, e, o, hρ, h, k⟩ := h
  rw [hW] at h
  refine ⟨ρ, st, fp, R, _, e, o, h, fun xs st1 H1 fp1 J T C q x1 o1 hTm hTt hC wk hrg => ?_⟩
  obtain ⟨hlim, q⟩ := q
  have e1 := e.keep' o x1
  have x1' : Ext (Mine fp) H H1 (Mine fp1) := ext1' x1
  generalize hL : it.root.toList = L at *
  have hrL : ∀ i, it.root = some i → i ∈ L := fun i hi => by rw [← hL, hi]; simp
  let R' := Lk R T fp1 L
  have ol : Own w K R' H1 σ (hide L st1) (cut fp1 L) := o1.hide hLt hTm rfl fun i d hi _ => rfl
  have el : Env w K R' H1 σ (lock ρ st1 it.root) := e1.lock o1 hrL hTt [] rfl fun i d hi _ => rfl
  have hCR : ∀ x, C x → R' x := fun x hx => by
    rcases hC x hx with z | z | ⟨i, hi, z⟩
    · exact .inl z
    · exact .inr (.inl z)
    · exact .inr (.inr ⟨i, hrL i hi, z⟩)
  have dρ : ∀ (i : Nat) (d : D), (lock ρ st1 it.root)[i]? = some (some d) → i ∈ fx ++ L := fun i d hd => by
    rcases lock_some hd with ⟨z, _⟩ | z
    · exact List.mem_append_right _ (hrL i z)
    · exact List.mem_append_left _ (hρ i d z)
  let D0 : Dl.Ends := { nx := fun st2 => Nd.nx (restore L st1 st2), rt := fun d st2 => Nd.rt d (restore L st1 st2) }
  let Wd := fun (i : Nat) (σ2 : L2.St) (H2 : Hp) => ∃ st2 fp2, wFor tg (wSs Φ body) D0 (lock ρ st1 it.root) (xs.drop i) st2 ∧ Own w K R' H2 σ2 st2 fp2 ∧ Ext (Mine (cut fp1 L)) H1 H2 (Mine fp2) ∧ σ2.length = σ.length ∧ ∀ j ∈ fx ++ L, σ2[j]? = σ[j]?
  have stayC : ∀ {H2 : Hp} {M : Addr → Prop}, Ext (Mine (cut fp1 L)) H1 H2 M → Stay C H1 H2 := fun {H2 M} x a u ha hc => ol.stayOut x a u ha fun z => fun ⟨j, hj⟩ => ol.out a j (hCR a (hc z)) hj
  -- back to what was ahead of the loop
  have unh : ∀ {M' : Addr → Prop} {H2 : Hp} {σ2 : L2.St} {st2 : DS} {fp2 : Fp}, Ext (Mine (cut fp1 L)) H1 H2 M' → Own w K R' H2 σ2 st2 fp2 → σ2.length = σ.length → (∀ j ∈ fx ++ L, σ2[j]? = σ[j]?) → Own w K R H2 σ2 (restore L st1 st2) (fun i => if i ∈ L then fp1 i else fp2 i) :=
    fun {M' H2 σ2 st2 fp2} x2 o2 l2 f2 => by
      have hll : st1.length = st2.length := by rw [o1.len, o2.len, l2]
      have olr : Own w K R' H1 σ2 (hide L st1) (cut fp1 L) ∨ True := .inr trivial
      refine ⟨by rw [restore_len]; exact o2.len, fun i d hd => ?_, fun i j a ha hb => ?_, fun i hit hn => ?_, fun a i hR ha => ?_, by rw [restore_len]; exact o2.short, by simp only [if_neg hLt]; exact o2.tabc, by simp only [if_neg hLt]; exact o2.tabs, fun x u hx => ⟨(o1.base x u hx).1, (o2.base x u hx).2⟩⟩
      · by_cases hi : i ∈ L
        · rw [restore_on hi hll] at hd
          obtain ⟨v, g1, g2, g3⟩ := o1.at_ i d hd
          simp only [if_pos hi]
          exact ⟨v, (f2 i (List.mem_append_right _ hi)).trans g1, g2.stay (ol.stayOut x2) (fun a ha ⟨j, hj⟩ => (cut_mem hj).1 (by rw [o1.dis j i a (cut_mem hj).2 ha]; exact hi)), g3⟩
        · rw [restore_off hi] at hd
          simp only [if_neg hi]
          exact o2.at_ i d hd
      · by_cases hi : i ∈ L
        · by_cases hj : j ∈ L
          · simp only [if_pos hi] at ha; simp only [if_pos hj] at hb; exact o1.dis i j a ha hb
          · simp only [if_pos hi] at ha; simp only [if_neg hj] at hb
            exact absurd hb (o2.out a j (.inr (.inr ⟨i, hi, ha⟩)))
        · by_cases hj : j ∈ L
          · simp only [if_neg hi] at ha; simp only [if_pos hj] at hb
            exact absurd ha (o2.out a i (.inr (.inr ⟨j, hj, hb⟩)))
          · simp only [if_neg hi] at ha; simp only [if_neg hj] at hb; exact o2.dis i j a ha hb
      · by_cases hi : i ∈ L
        · simp only [if_pos hi]
          exact o1.off i hit fun d => by have := hn d; rw [restore_on hi hll] at this; exact this
        · simp only [if_neg hi]
          exact o2.off i hit fun d => by have := hn d; rw [restore_off hi] at this; exact this
      · by_cases hi : i ∈ L
        · simp only [if_pos hi] at ha; exact o1.out a i hR ha
        · simp only [if_neg hi] at ha; exact o2.out a i (.inl hR) ha
  have unx : ∀ {B : List Addr} {H2 : Hp} {fp2 : Fp}, Ext (Mine (cut fp1 L)) H1 H2 (fun x => Mine fp2 x ∨ x ∈ B) → Ext (Mine fp) H H2 (fun x => Mine (fun i => if i ∈ L then fp1 i else fp2 i) x ∨ x ∈ B) := fun {B H2 fp2} x2 =>
    x1'.trans ⟨fun x u hx hm => x2.keep x u hx fun z => hm (mine_cut z), fun x hx => by
      rcases hx with hx | hx
      · rcases mine_un hx with ⟨j, hj, z⟩ | z
        · exact .inl ⟨j, z⟩
        · exact (x2.from_ x (.inl z)).imp mine_cut id
      · exact (x2.from_ x (.inr hx)).imp mine_cut id⟩
  have fin : ∀ {σ2 : L2.St} {H2 : Hp} {st2 : DS} {fp2 : Fp}, D0.nx st2 → Ext (Mine (cut fp1 L)) H1 H2 (Mine fp2) → Own w K R' H2 σ2 st2 fp2 → σ2.length = σ.length → (∀ j ∈ fx ++ L, σ2[j]? = σ[j]?) → M.nx σ2 H2 := fun {σ2 H2 st2 fp2} p x2 o2 l2 f2 =>
    k.nx _ σ2 H2 _ p (ext1 (unx (B := []) (extE x2))) (unh x2 o2 l2 f2) l2 fun j hj => f2 j (List.mem_append_left _ hj)
  refine ⟨fun i m σ2 H2 => m = xs.length - i ∧ i ≤ xs.length ∧ Wd i σ2 H2, ⟨xs.length, by simp, Nat.zero_le _, hide L st1, cut fp1 L, q, ol, Ext.refl _ _, rfl, fun _ _ => rfl⟩, ?_⟩
  rintro i m σ2 H2 ⟨rfl, hi, st2, fp2, wf, o2, x2, l2, f2⟩
  have e2 : Env w K R' H2 σ2 (lock ρ st1 it.root) := el.keep ol x2 l2 fun j d hd => f2 j (dρ j d hd)
  obtain ⟨wk1, wk2⟩ := wk H2 (stayC x2) i
  cases hx : xs[i]? with
  | none =>
    have hie : i = xs.length := by rw [List.getElem?_eq_none_iff] at hx; omega
    rw [hie, List.drop_length] at wf
    exact .inl ⟨wk2 hie, fin wf x2 o2 l2 f2⟩
  | some x =>
    obtain ⟨g1, g2⟩ := wk1 x hx
    have hlt : i < xs.length := (List.getElem?_eq_some_iff.mp hx).1
    refine .inr ⟨g1, Wd (i + 1), fun σ' H' hS => ⟨xs.length - (i + 1), by omega, rfl, hlt, hS⟩, fun v H3 hy => ?_⟩
    obtain ⟨s3, Bx, yd, ynm, hBx⟩ := g2 v H3 hy
    rw [drop_cons hx] at wf
    rw [wFor] at wf
    refine bindTgF wf yd (fun j hj => ynm (by cases hp : it.pr with | false => rfl | true => exact absurd hj (hpr hp j))) (fun a ha => hCR a (hBx a ha)) (e2.sub s3) (o2.sub s3) fun σ4 ρ4 st4 fp4 q4 e4 o4 m4 l4 f4 d4 => ?_
    have x3 : Ext (Mine fp2) H2 H3 (Mine fp4) := ⟨fun x u hx _ => s3 x u hx, fun x m => .inl (m4 x m)⟩
    have x23 := x2.trans x3
    have f24 : ∀ j ∈ fx ++ L, σ4[j]? = σ[j]? := fun j hj => (f4 j fun z => htg j z hj).trans (f2 j hj)
    have l24 : σ4.length = σ.length := l4.trans l2
    have fx' : ∀ {σ5 : L2.St}, (∀ j ∈ fx ++ L ++ it.keep tg, σ5[j]? = σ4[j]?) → ∀ j ∈ fx ++ L, σ5[j]? = σ[j]? := fun h5 j hj => (h5 j (List.mem_append_left _ hj)).trans (f24 j hj)
    have again : Go w K (fx ++ L ++ it.keep tg) R' H3 σ4 fp4 (wFor tg (wSs Φ body) D0 (lock ρ st1 it.root) (xs.drop (i + 1))) (Wd (i + 1)) := fun st5 σ5 H5 fp5 p x5 o5 l5 f5 =>
      ⟨st5, fp5, p, o5, x23.trans x5, l5.trans l24, fx' f5⟩
    refine ⟨ρ4, st4, fp4, R', _, e4, o4, fun j d hd => ?_, q4, ⟨again, fun st5 σ5 H5 fp5 p x5 o5 l5 f5 => fin p (x23.trans x5) o5 (l5.trans l24) (fx' f5), again, fun d st5 σ5 v5 H5 fp5 B5 p x5 o5 l5 f5 r5 nd5 dj5 => ?_⟩⟩
    · rcases d4 j d hd with z | z
      · refine List.mem_append_right _ ?_
        unfold It.keep
        split
        · rename_i hr
          exact absurd (hrg hr x (List.mem_of_getElem? hx)) z.2
        · exact z.1
      · exact List.mem_append_left _ (dρ j d z)
    · have x25 := x23.trans x5
      refine k.rt d _ σ5 v5 H5 _ B5 p (unx x25) (unh x25 o5 (l5.trans l24) (fx' f5)) (l5.trans l24) (fun j hj => fx' f5 j (List.mem_append_left _ hj)) r5 nd5 fun y hy m => ?_
      rcases mine_un m with ⟨j, hj, z⟩ | z
      · have hR : R' y := .inr (.inr ⟨j, hj, z⟩)
        rcases x25.from_ y (.inr hy) with ⟨j', hj'⟩ | z'
        · exact ol.out y j' hR hj'
        · exact el.there y hR z'
      · exact dj5 y hy z
theorem imp_for {tg : Tg} {it : It} {body : List S} (htg : ∀ i ∈ tg.slots, i ∉ fx ++ it.root.toList) (hpr : it.pr = true → ∀ i, tg ≠ .nm i) (hLt : tabI ∉ it.root.toList) {M : L2.Ends} (h : tSt w K fx (wS Φ (.for_ tg it body)) M σ H) :
    tFor (tI w K it (wIt Φ it)) (gTg K tg) (tSt w K (fx ++ it.root.toList ++ it.keep tg) (wSs Φ body)) M σ H := imp_forG (fun ρ N st => by rw [wS]) htg hpr hLt h
/-! what is made of lambdas -/
theorem imp_asg2 {i : Nat} {ex : E2} (hi : i ∉ fx) {M : L2.Ends} (h : tSt w K fx (wS Φ (.asg2 i ex)) M σ H) : tAsg (tE w K (wE2 Φ ex)) (gName i) M σ H := by
  obtain ⟨ρ, st, fp, R, Nd, e, o, hρ, h, k⟩ := h
  rw [wS] at h
  refine tE_at e o h fun d st1 v H1 fp1 B q x1 o1 r nd dj => ?_
  obtain ⟨fp2, o2, h2⟩ := o1.store (i := i) r nd dj fun y hy => not_R e o x1 hy
  exact k.nx _ _ H1 fp2 q (x1.mono fun y m => h2 y m) o2 (by rw [List.length_set]) fun j hj => get_set_ne fun z => hi (by rw [z]; exact hj)
theorem imp_ret2 {ex : E2} {M : L2.Ends} (h : tSt w K fx (wS Φ (.ret2 ex)) M σ H) : tRet (tE w K (wE2 Φ ex)) M σ H := by
  obtain ⟨ρ, st, fp, R, Nd, e, o, hρ, h, k⟩ := h
  rw [wS] at h
  exact tE_at e o h fun d st1 v H1 fp1 B q x1 o1 r nd dj => k.rt _ _ _ v H1 fp1 B q x1 o1 rfl (fun _ _ => rfl) r nd dj
def wi2 (wf : DS → DS → (D → DS → Prop) → Prop) : DS → DS → (List D → Option Nat → DS → Prop) → Prop := fun ρ st Q => wf ρ st fun d st1 => match items? d with | some xs => Q xs none st1 | none => False
theorem imp_seqG {wf : DS → DS → (D → DS → Prop) → Prop} {ex : E} {Rr : L2.It → Hp → Prop} (h : tI w K (.seq ex) (wi2 wf) σ H Rr) : iSeq K (tE w K wf) σ H Rr := by
  obtain ⟨ρ, st, fp, R, Qd, e, o, h, k⟩ := h
  unfold wi2 at h
  refine tE_at e o h fun d st1 v H1 fp1 B q x1 o1 r nd dj => ?_
  cases hi : items? d with
  | none => rw [hi] at q; exact q.elim
  | some xs =>
    rw [hi] at q
    obtain ⟨a, rfl, z⟩ := wk_seq r hi
    refine ⟨a, rfl, ?_⟩
    rcases z with ⟨z1, z2, _⟩ | ⟨z1, z2, _⟩
    · exact .inl ⟨z1, k _ st1 H1 fp1 _ (fun x => x ∈ B) (fun x => x ∈ B) q x1 o1 dj (fun x hx => r.there hx) (fun x hx => .inr (.inl hx)) z2 (fun z => by cases z)⟩
    · exact .inr (.inl ⟨z1, k _ st1 H1 fp1 _ (fun x => x ∈ B) (fun x => x ∈ B) q x1 o1 dj (fun x hx => r.there hx) (fun x hx => .inr (.inl hx)) z2 (fun z => by cases z)⟩)
theorem imp_for2 {tg : Tg} {e2 : E2} {body : List S} (htg : ∀ i ∈ tg.slots, i ∉ fx) {M : L2.Ends} (h : tSt w K fx (wS Φ (.for2 tg e2 body)) M σ H) :
    tFor (tI w K (.seq (.v 0)) (wi2 (wE2 Φ e2))) (gTg K tg) (tSt w K (fx ++ [] ++ tg.slots) (wSs Φ body)) M σ H :=
  imp_forG (it := .seq (.v 0)) (fun ρ N st => by
    rw [wS]; unfold wi2
    congr 1) (fun i hi => by simpa [It.root] using htg i hi) (fun z => by simp [It.pr] at z) (by simp [It.root]) h
/-- x, o[k] = e: both parts can't be changed -/
theorem imp_unpS {i oo kk : Nat} {ex : E} (hi : i ∉ fx) {M : L2.Ends} (h : tSt w K fx (wS Φ (.unpS i oo kk ex)) M σ H) : tAsg (tE w K (wE Φ ex)) (gTup K 2 (gCons (gName i) (gCons (gSub (tVar oo) (tVar kk) (rSt w K)) gNil))) M σ H := by
  obtain ⟨ρ, st, fp, R, Nd, e, o, hρ, h, k⟩ := h
  rw [wS] at h
  refine tE_at e o h fun d st1 v H1 fp1 B q x1 o1 r nd dj => ?_
  split at q
  rotate_left
  · exact q.elim
  rename_i da db
  obtain ⟨ia, ib, hio, q⟩ := q
  have e1 := e.keep' o x1
  split at q
  rotate_left
  · exact q.elim
  rename_i od hod
  cases hpk : peek ρ (st1.set i (some da)) kk with
  | none => rw [hpk] at q; exact q.elim
  | some kd =>
    rw [hpk] at q
    obtain ⟨ik, q⟩ := q
    cases hm : mset od kd db with
    | none => rw [hm] at q; exact q.elim
    | some o' =>
      rw [hm] at q
      cases r with
      | @tup a vs ds _ t rs =>
        cases rs with
        | @cons va _ _ _ _ _ ra rs2 =>
          cases rs2 with
          | @cons vb _ _ _ _ _ rb rs3 =>
            cases rs3
            have ea := ra.immut ia
            have eb := rb.immut ib
            subst ea eb
            refine ⟨a, _, rfl, t.sq, rfl, ⟨_, _, rfl, ?_⟩⟩
            obtain ⟨fp2, o2, h2⟩ := o1.store (i := i) ra List.nodup_nil (fun _ z => nomatch z) fun _ z => nomatch z
            have hod2 : (st1.set i (some da))[oo]? = some (some od) := by rw [List.getElem?_set_ne hio]; exact hod
            obtain ⟨vo, hvo, ro, ndo⟩ := o2.at_ oo od hod2
            obtain ⟨vk, Bk, hvk, rk⟩ : ∃ vk Bk, (σ.set i (some va))[kk]? = some (some vk) ∧ Rep w K H1 vk kd Bk := by
              unfold peek at hpk
              split at hpk
              · rename_i d' hd'
                cases hpk
                obtain ⟨vk, g1, g2, _⟩ := o2.at_ kk kd hd'
                exact ⟨vk, _, g1, g2⟩
              · cases hz : ρ[kk]? with
                | none => rw [hz] at hpk; cases hpk
                | some u =>
                  rw [hz] at hpk
                  cases u with
                  | none => cases hpk
                  | some d' =>
                    cases hpk
                    obtain ⟨vk, Bk, g1, g2, _⟩ := e1.at_ kk kd hz
                    have hne : kk ≠ i := fun z => hi (by rw [← z]; exact hρ kk kd hz)
                    exact ⟨vk, Bk, by rw [List.getElem?_set_ne (Ne.symm hne)]; exact g1, g2⟩
            refine ⟨_, _, rfl, vo, hvo, vk, hvk, od, kd, db, o', fp2 oo, Bk, [], ro, rk, rb, hm, ndo, List.nodup_nil, (fun _ z => by cases z), fun H3 B3 r3 kp hb ndb => ⟨rfl, ?_⟩⟩
            have o3 := o2.change hod2 hvo r3 ndb kp fun x hx => (hb x hx).imp id fun z => nomatch z
            have x02 : Ext (Mine fp) H H1 (Mine fp2) := x1.mono fun x m => h2 x m
            refine k.nx _ _ H3 _ q ⟨fun x u hx hm => kp x u (x02.keep x u hx hm) fun z => ?_, fun x hx => ?_⟩ o3 (by rw [List.length_set]) fun j hj => get_set_ne fun z => hi (by rw [z]; exact hj)
            · rcases x02.from_ x ⟨oo, z⟩ with z | z
              · exact hm z
              · rw [hx] at z; cases z
            · rcases hx.upd with z | z
              · exact x02.from_ x z
              · rcases hb x z with z | z
                · exact x02.from_ x ⟨oo, z⟩
                · cases z
/-- self.f = e -/
theorem imp_sta {i : Nat} {f : String} {ex : E} {M : L2.Ends} (h : tSt w K fx (wS Φ (.sta i f ex)) M σ H) : sFld K (tVar i) (tE w K (wE Φ ex)) (s_ f) M σ H := by
  obtain ⟨ρ, st, fp, R, Nd, e, o, hρ, h, k⟩ := h
  rw [wS] at h
  refine tE_at e o h fun d st1 v H1 fp1 B q x1 o1 r nd dj => ?_
  split at q
  rotate_left
  · exact q.elim
  rename_i c fs hod
  obtain ⟨hf, hlen, q⟩ := q
  have hnR : ∀ y ∈ B, ¬ R y := fun y hy => not_R e o x1 hy
  obtain ⟨vo, hvo, ro, ndo⟩ := o1.at_ i _ hod
  generalize hF : fp1 i = F at *
  cases ro with
  | @obj a dx _ fv _ B' ck sub ea nn rs =>
    have hfl : fv.length = fs.length := by have := congrArg List.length nn; simpa using this
    refine ⟨_, hvo, a, _, dx, fv, rfl, ea, ck.1, ck.2 f hf, by omega, ?_⟩
    rw [List.nodup_cons] at ndo
    have hBa : ∀ x ∈ B, x ≠ a := fun x hx z => dj x hx ⟨i, by rw [hF, z]; exact List.mem_cons_self⟩
    have sy : Stay (fun x => x ≠ a) H1 (upd H1 a (.ins (He.ga K (Str.ofString c)) dx (putF (s_ f) v fv))) := fun x u hx cc => by
      by_cases hxa : x = a
      · subst hxa; rw [ea] at hx; cases hx; exact absurd rfl (cc trivial)
      · rw [upd_ne hxa]; exact hx
    obtain ⟨i1, B2, i2, i3, i4⟩ := obj_put (r.stay sy hBa) (f := f) nn (rs.stay sy fun x hx z => ndo.1 (by rw [← z]; exact hx))
    have dj2 : ∀ x ∈ B, x ∉ B' := fun x hx z => dj x hx ⟨i, by rw [hF]; exact List.mem_cons_of_mem _ z⟩
    have nd2 := i4 ndo.2 nd dj2
    have ha2 : a ∉ B2 := fun z => (i3 a z).elim ndo.1 fun y => hBa a y rfl
    have r3 : Rep w K (upd H1 a (.ins (He.ga K (Str.ofString c)) dx (putF (s_ f) v fv))) (.ref a) (.obj c (oput f d fs)) (a :: B2) :=
      .obj ck (fun p hp => (oput_mem hp).elim (sub p) fun z => by rw [z]; exact hf) upd_same i1 i2
    have hsub : ∀ x ∈ a :: B2, x ∈ fp1 i ∨ (¬ Mine fp1 x ∧ ¬ R x) := fun x hx => by
      rcases List.mem_cons.mp hx with z | z
      · exact .inl (by rw [hF, z]; exact List.mem_cons_self)
      · rcases i3 x z with y | y
        · exact .inl (by rw [hF]; exact List.mem_cons_of_mem _ y)
        · exact .inr ⟨dj x y, hnR x y⟩
    have kp : ∀ x u, H1 x = some u → x ∉ fp1 i → upd H1 a (.ins (He.ga K (Str.ofString c)) dx (putF (s_ f) v fv)) x = some u := fun x u hx hn => by
      rw [upd_ne fun z => hn (by rw [hF, z]; exact List.mem_cons_self)]; exact hx
    have o3 := o1.change hod hvo r3 (List.nodup_cons.mpr ⟨ha2, nd2⟩) kp hsub
    refine k.nx _ _ _ _ q ⟨fun x u hx hm => kp x u (x1.keep x u hx hm) fun z => ?_, fun x hx => ?_⟩ o3 (by rfl) fun _ _ => rfl
    · rcases x1.from_ x (.inl ⟨i, z⟩) with y | y
      · exact hm y
      · rw [hx] at y; cases y
    · rcases hx.upd with z | z
      · exact x1.from_ x (.inl z)
      · rcases List.mem_cons.mp z with y | y
        · exact x1.from_ x (.inl ⟨i, by rw [hF, y]; exact List.mem_cons_self⟩)
        · rcases i3 x y with y | y
          · exact x1.from_ x (.inl ⟨i, by rw [hF]; exact List.mem_cons_of_mem _ y⟩)
          · exact x1.from_ x (.inr y)
/-- one thing of a row is changed where it stands -/
theorem Reps.place {w : World} {K : PySem.W.Frag} {H : Hp} : ∀ {vs : List V} {ds : List D} {B : List Addr}, Reps w K H vs ds B → ∀ {j : Nat} {d : D}, ds[j]? = some d → ∃ v L M R, vs[j]? = some v ∧ B = L ++ (M ++ R) ∧ Rep w K H v d M ∧
    ∀ {H' : Hp} {d' : D} {M' : List Addr}, Stay (fun x => x ∉ M) H H' → B.Nodup → Rep w K H' v d' M' → Reps w K H' vs (ds.set j d') (L ++ (M' ++ R))
  | _, _, _, .nil, j, d, h => by simp at h
  | _, _, _, @Reps.cons _ _ _ v vs d0 ds A B r t, 0, d, h => by
    simp at h
    subst h
    refine ⟨v, [], A, B, rfl, by simp, r, fun {H' d' M'} sy nd r' => ?_⟩
    rw [List.nodup_append] at nd
    have := Reps.cons r' (t.stay sy fun x hx z => nd.2.2 x z x hx rfl)
    simpa using this
  | _, _, _, @Reps.cons _ _ _ v vs d0 ds A B r t, j + 1, d, h => by
    obtain ⟨v1, L, M, R, h1, h2, h3, h4⟩ := Reps.place t (j := j) (by simpa using h)
    subst h2
    refine ⟨v1, A ++ L, M, R, by simpa using h1, by simp, h3, fun {H' d' M'} sy nd r' => ?_⟩
    rw [List.nodup_append] at nd
    have q := h4 sy nd.2.1 r'
    have := Reps.cons (r.stay sy fun x hx z => nd.2.2 x hx x (List.mem_append_right _ (List.mem_append_left _ z)) rfl) q
    simpa using this
theorem atI_ix {α : Type} {xs : List α} {n : Nat} (hn : n = xs.length) {z : Int} {j : Nat} {x : α} (h : ixZ n z = some j) (hx : xs[j]? = some x) : atI xs z = some x := by
  rw [atI_Z]
  unfold atZ
  unfold ixZ at h
  subst hn
  split at h
  · rename_i h0
    rw [if_pos h0]
    split at h
    · cases h; exact hx
    · cases h
  · rename_i h0
    rw [if_neg h0]
    split at h
    · rename_i h1
      rw [if_pos h1]
      cases h; exact hx
    · cases h
/-- o[k1][c] = e -/
theorem imp_sto2 {i : Nat} {k1 ex : E} {c : K0} {M : L2.Ends} (h : tSt w K fx (wS Φ (.sto2 i k1 c ex)) M σ H) : tAsg (tE w K (wE Φ ex)) (gSub (tOp (rIxL K) (tVar i) (tE w K (wE Φ k1))) (tC c.v) (rSt w K)) M σ H := by
  obtain ⟨ρ, st, fp, R, Nd, e, o, hρ, h, k⟩ := h
  rw [wS] at h
  refine tE_at e o h fun d st1 v H1 fp1 B q x1 o1 r nd dj => ?_
  obtain ⟨q0, hid, q⟩ := q
  have e1 := e.keep' o x1
  obtain ⟨d0, hd0⟩ : ∃ d0, st1[i]? = some (some d0) := by
    unfold isRw at q0
    cases hz : st1[i]? with
    | none => rw [hz] at q0; cases q0
    | some u =>
      rw [hz] at q0
      cases u with
      | none => cases q0
      | some d0 => exact ⟨d0, rfl⟩
  obtain ⟨vo, hvo, _, _⟩ := o1.at_ i d0 hd0
  have eB := r.immut hid
  subst eB
  refine ⟨vo, hvo, ?_⟩
  refine tE_at e1 o1 q fun kd st2 vk H2 fp2 Bk q2 x2 o2 rk ndk djk => ?_
  split at q2
  rotate_left
  · exact q2.elim
  rename_i xs z hod
  split at q2
  rotate_left
  · exact q2.elim
  rename_i j hj
  split at q2
  rotate_left
  · exact q2.elim
  rename_i d1 hd1
  split at q2
  rotate_left
  · exact q2.elim
  rename_i d2 hm
  obtain ⟨vo', hvo', ro, ndo⟩ := o2.at_ i _ hod
  rw [hvo] at hvo'
  cases hvo'
  have r2 := r.out o1 x2 (fun _ z => nomatch z)
  generalize hF : fp2 i = F at *
  cases rk
  cases ro with
  | @lst a vs _ B' ea rs =>
    obtain ⟨v1, L, M1, R1, g1, g2, g3, g4⟩ := rs.place hd1
    subst g2
    rw [List.nodup_cons] at ndo
    refine ⟨a, vs, z, v1, rfl, rfl, SqL.of ea, atI_ix rs.length.symm hj g1, ?_⟩
    have ndM : M1.Nodup := by
      have := ndo.2
      rw [List.nodup_append] at this
      have := this.2.1
      rw [List.nodup_append] at this
      exact this.1
    have hc : Rep w K H2 c.v c.d [] := by cases c <;> first | exact .non | exact .bl _ | exact .int _ | exact .str _
    refine ⟨d1, c.d, d, d2, M1, [], [], g3, hc, r2, hm, ndM, List.nodup_nil, fun _ z => (by cases z), fun H3 B3 r3 kp hb ndb => ?_⟩
    have hbM : ∀ x ∈ B3, x ∈ M1 := fun x hx => (hb x hx).elim id fun z => nomatch z
    have sy : Stay (fun x => x ∉ M1) H2 H3 := fun x u hx cc => kp x u hx fun z => by
      have := g3.chg x z
      rw [hx] at this
      exact cc this z
    have ham : a ∉ M1 := fun z => ndo.1 (List.mem_append_right _ (List.mem_append_left _ z))
    have ea3 : H3 a = some (.lst vs) := kp a _ ea ham
    have rs3 := g4 sy ndo.2 r3
    have hsub : ∀ x ∈ a :: (L ++ (B3 ++ R1)), x ∈ fp2 i := fun x hx => by
      rw [hF]
      rcases List.mem_cons.mp hx with z | z
      · rw [z]; exact List.mem_cons_self
      · refine List.mem_cons_of_mem _ ?_
        rcases List.mem_append.mp z with z | z
        · exact List.mem_append_left _ z
        · rcases List.mem_append.mp z with z | z
          · exact List.mem_append_right _ (List.mem_append_left _ (hbM x z))
          · exact List.mem_append_right _ (List.mem_append_right _ z)
    have nd3 : (a :: (L ++ (B3 ++ R1))).Nodup := by
      have h0 := ndo.2
      rw [List.nodup_append] at h0
      have h1 := h0.2.1
      rw [List.nodup_append] at h1
      refine List.nodup_cons.mpr ⟨fun z => ?_, ?_⟩
      · refine ndo.1 ?_
        rcases List.mem_append.mp z with z | z
        · exact List.mem_append_left _ z
        · rcases List.mem_append.mp z with z | z
          · exact List.mem_append_right _ (List.mem_append_left _ (hbM _ z))
          · exact List.mem_append_right _ (List.mem_append_right _ z)
      · rw [List.nodup_append]
        refine ⟨h0.1, ?_, fun x hx y hy => h0.2.2 x hx y ?_⟩
        · rw [List.nodup_append]
          exact ⟨ndb, h1.2.1, fun x hx y hy => h1.2.2 x (hbM x hx) y hy⟩
        · rcases List.mem_append.mp hy with z | z
          · exact List.mem_append_left _ (hbM y z)
          · exact List.mem_append_right _ z
    have kpF : ∀ x u, H2 x = some u → x ∉ fp2 i → H3 x = some u := fun x u hx hn => kp x u hx fun z => hn (by rw [hF]; exact List.mem_cons_of_mem _ (List.mem_append_right _ (List.mem_append_left _ z)))
    have o3 := o2.change hod hvo (.lst ea3 rs3) nd3 kpF fun x hx => .inl (hsub x hx)
    refine k.nx _ _ H3 _ q2 (((ext1 x1).trans (ext1 x2)).trans ⟨fun x u hx hm => kpF x u hx fun z => hm ⟨i, z⟩, fun x hx => ?_⟩) o3 rfl fun _ _ => rfl
    rcases hx.upd with z | z
    · exact .inl z
    · exact .inl ⟨i, hsub x z⟩
/-- o[k1], o[k2] = e: both parts can't be changed -/
theorem imp_swp {i : Nat} {k1 k2 ex : E} {M : L2.Ends} (h : tSt w K fx (wS Φ (.swp i k1 k2 ex)) M σ H) : tAsg (tE w K (wE Φ ex)) (gTup K 2 (gCons (gSub (tVar i) (tE w K (wE Φ k1)) (rSt w K)) (gCons (gSub (tVar i) (tE w K (wE Φ k2)) (rSt w K)) gNil))) M σ H := by
  obtain ⟨ρ, st, fp, R, Nd, e, o, hρ, h, k⟩ := h
  rw [wS] at h
  refine tE_at e o h fun d st1 v H1 fp1 B q x1 o1 r nd dj => ?_
  split at q
  rotate_left
  · exact q.elim
  rename_i da db
  obtain ⟨ia, ib, q0, q⟩ := q
  have e1 := e.keep' o x1
  obtain ⟨d0, hd0⟩ : ∃ d0, st1[i]? = some (some d0) := by
    unfold isRw at q0
    cases hz : st1[i]? with
    | none => rw [hz] at q0; cases q0
    | some u =>
      rw [hz] at q0
      cases u with
      | none => cases q0
      | some d0 => exact ⟨d0, rfl⟩
  obtain ⟨vo, hvo, _, _⟩ := o1.at_ i d0 hd0
  cases r with
  | @tup a vs ds _ t rs =>
    cases rs with
    | @cons va _ _ _ _ _ ra rs2 =>
      cases rs2 with
      | @cons vb _ _ _ _ _ rb rs3 =>
        cases rs3
        have ea := ra.immut ia
        have eb := rb.immut ib
        subst ea eb
        refine ⟨a, _, rfl, t.sq, rfl, ⟨_, _, rfl, vo, hvo, ?_⟩⟩
        refine tE_at e1 o1 q fun kd st2 vk H2 fp2 Bk q2 x2 o2 rk ndk djk => ?_
        obtain ⟨q20, q2⟩ := q2
        split at q2
        rotate_left
        · exact q2.elim
        rename_i od hod
        cases hm : mset od kd da with
        | none => rw [hm] at q2; exact q2.elim
        | some o' =>
          rw [hm] at q2
          obtain ⟨vo', hvo', ro, ndo⟩ := o2.at_ i od hod
          rw [hvo] at hvo'
          cases hvo'
          have ra2 := ra.out o1 x2 (fun _ z => nomatch z)
          have rb2 := rb.out o1 x2 (fun _ z => nomatch z)
          refine ⟨od, kd, da, o', fp2 i, Bk, [], ro, rk, ra2, hm, ndo, List.nodup_nil, fun _ z => (by cases z), fun H3 B3 r3 kp hb ndb => ?_⟩
          have o3 := o2.change hod hvo r3 ndb kp fun x hx => (hb x hx).imp id fun z => nomatch z
          have x3 : Ext (Mine fp2) H2 H3 (Mine (updF fp2 i B3)) := by
            refine ⟨fun x u hx hm => kp x u hx fun z => hm ⟨i, z⟩, fun x hx => ?_⟩
            rcases hx.upd with z | z
            · exact .inl z
            · rcases hb x z with z | z
              · exact .inl ⟨i, z⟩
              · cases z
          have e3 := (e1.keep' o1 x2).keep' o2 x3
          have rb3 := rb2.out o2 x3 (fun _ z => nomatch z)
          refine ⟨_, _, rfl, vo, hvo, ?_⟩
          refine tE_at e3 o3 q2 fun kd2 st4 vk2 H4 fp4 Bk2 q4 x4 o4 rk2 ndk2 djk2 => ?_
          obtain ⟨q40, q4⟩ := q4
          split at q4
          rotate_left
          · exact q4.elim
          rename_i od2 hod2
          cases hm2 : mset od2 kd2 db with
          | none => rw [hm2] at q4; exact q4.elim
          | some o2' =>
            rw [hm2] at q4
            obtain ⟨vo2, hvo2, ro2, ndo2⟩ := o4.at_ i od2 hod2
            rw [hvo] at hvo2
            cases hvo2
            have rb4 := rb3.out o3 x4 (fun _ z => nomatch z)
            refine ⟨od2, kd2, db, o2', fp4 i, Bk2, [], ro2, rk2, rb4, hm2, ndo2, List.nodup_nil, fun _ z => (by cases z), fun H5 B5 r5 kp5 hb5 ndb5 => ⟨rfl, ?_⟩⟩
            have o5 := o4.change hod2 hvo r5 ndb5 kp5 fun x hx => (hb5 x hx).imp id fun z => nomatch z
            have x5 : Ext (Mine fp4) H4 H5 (Mine (updF fp4 i B5)) := by
              refine ⟨fun x u hx hm => kp5 x u hx fun z => hm ⟨i, z⟩, fun x hx => ?_⟩
              rcases hx.upd with z | z
              · exact .inl z
              · rcases hb5 x z with z | z
                · exact .inl ⟨i, z⟩
                · cases z
            exact k.nx _ _ H5 _ q4 (((((ext1 x1).trans (ext1 x2)).trans x3).trans (ext1 x4)).trans x5) o5 rfl fun _ _ => rfl
end
end Dl
set_option maxHeartbeats 2000000
/-! DlLam: lambdas: made, called. -/
namespace Dl
open PySem PySem.Spec PyProof.Rows L2 LamX
variable [Tab]
section
variable {X : Cx} {pins : List (Addr × Obj)} {σ : L2.St} {H : Hp} {s : Shared}
/-- the lambda is made; F: where the tables stand, and what they tell -/
theorem lam_make3 {F : List Addr} {c P : Addr} {params : Arguments} {body : Expr} {scope : Scope} {pos : Pos} {E : Value → Shared → Prop} {Q : Value → Shared → Prop} (I : Inv X pins σ H s) (TB : TabB X.base X.mg c P) (hcode : X.env.code = .ref c)
    (hm : (P, X.env.qual ++ "<lambda>") ∈ Tab.tt) (hu : ∀ p ∈ Tab.tt, p.1 = P → p.2 = X.env.qual ++ "<lambda>") (hc : ∀ x ∈ F, Chg (H x)) (hT : ∀ p ∈ Tab.tt, TabIn H F p.1 p.2) (hdef : defaultsOf params X.env = ([], [])) (hfree : ∀ y ∈ scope.names, y.2 = .free → ∃ c, X.env.cells.lookup y.1 = some c)
    (h : ∀ (f c' : Addr) (pm ctv : Value) (H1 : Hp) (F' : List Addr) (s' : Shared), Inv X pins σ H1 s' → Ext (fun x => x ∈ F) H H1 (fun x => x ∈ F') → (∀ x ∈ F', Chg (H1 x)) → (∀ p ∈ Tab.tt, TabIn H1 F' p.1 p.2) →
      s'.heap.get? f = some (PySem.W.kla_obj "<lambda>" (X.env.qual ++ "<lambda>") params body scope (cloFrom X.env.cells scope.names []) pm c' ctv) → H1 f = none → s.heap.objs.size ≤ f → H1 c' = some (CodeO c' (X.env.qual ++ "<lambda>")) → c' ∈ F' → Q (.ref f) s') :
    wpAny (model X.prog X.w) X.A (eval (.Lambda params body scope pos) X.env) Q E s := by
  obtain ⟨hPF, ps, hP, ht, ha⟩ := hT _ hm
  refine PySem.W.kla_eval hdef ?_
  have bP : s.heap.BuiltinsAt X.mg P := TB.bm.keeps I.bk
  have hP' : s.heap.get? P = some { cls := .none, data := .fields ps } := I.hok P _ hP
  cases hcc : codeAmong pos ps.toList with
  | none =>
    refine PySem.W.kla_makeFunction (mg := X.mg) (c := c) (P := P) (ps := ps) (closure_ok hfree) I.ok.glob (I.mod.glob.keeps I.bk) hcode (TB.code.keeps I.bk) hP' ht hcc TB.gP bP fun c' ctv h' tk hx hge hlt hrec htb => ?_
    obtain ⟨c2, oc, vs, t, e2, hoc, hd, hv⟩ := hrec
    cases e2
    have hsz : s.heap.objs.size ≤ h'.objs.size := Nat.le_trans hge (Nat.le_of_lt hlt)
    have nC : H c' = none := I.hok.fresh hge
    have I1 := inv_table (t' := tk) (more := #[rawInt pos.line, rawInt pos.col, .ref c']) (h' := h'.push (PySem.W.kla_obj "<lambda>" (X.env.qual ++ "<lambda>") params body scope (cloFrom X.env.cells scope.names []) ((X.mg "__name__").getD .none) c' ctv)) I hP
      (fun b o hb e => Heap.get?_push_of_some _ (hx b o hb e)) (Heap.get?_push_of_some _ htb) hge ⟨oc, vs, t, Heap.get?_push_of_some _ hoc, hd, hv⟩
    have nPc : P ≠ c' := ne_of_none hP nC
    have off : ∀ b, b ≠ P → b ≠ c' → upd (upd H P (.tbl (ps ++ #[rawInt pos.line, rawInt pos.col, .ref c']))) c' (CodeO c' (X.env.qual ++ "<lambda>")) b = H b := fun b h1 h2 => by rw [upd_ne h2, upd_ne h1]
    have onP : upd (upd H P (.tbl (ps ++ #[rawInt pos.line, rawInt pos.col, .ref c']))) c' (CodeO c' (X.env.qual ++ "<lambda>")) P = some (.tbl (ps ++ #[rawInt pos.line, rawInt pos.col, .ref c'])) := by rw [upd_ne nPc, upd_same]
    have eL : (ps ++ #[rawInt pos.line, rawInt pos.col, .ref c']).toList = ps.toList ++ [rawInt pos.line, rawInt pos.col, .ref c'] := by simp
    have codeK : ∀ {c0 : Addr} {q : Str}, H c0 = some (CodeO c0 q) → upd (upd H P (.tbl (ps ++ #[rawInt pos.line, rawInt pos.col, .ref c']))) c' (CodeO c' (X.env.qual ++ "<lambda>")) c0 = some (CodeO c0 q) := fun {c0 q} e => by
      rw [off c0 (fun z => by rw [z, hP] at e; exact codeO_ne ps (Option.some.inj e).symm) (ne_of_none e nC)]; exact e
    refine h h'.objs.size c' ((X.mg "__name__").getD .none) ctv _ (c' :: F) _ I1 ⟨fun b o e n => ?_, fun x hx => ?_⟩ (fun x hx => ?_) (fun p hp => ?_) (Heap.get?_push_size _ rfl) ?_ hsz upd_same List.mem_cons_self
    · rw [off b (fun z => n (by rw [z]; exact hPF)) (ne_of_none e nC)]; exact e
    · rcases List.mem_cons.mp hx with rfl | hx
      · exact .inr nC
      · exact .inl hx
    · rcases List.mem_cons.mp hx with rfl | hx
      · rw [upd_same]; trivial
      · have hz := hc x hx
        by_cases hxP : x = P
        · rw [hxP, onP]; trivial
        · rw [off x hxP fun z => by rw [z, nC] at hz; exact hz]; exact hz
    · obtain ⟨g0, ps', a1, a2, a3⟩ := hT p hp
      refine ⟨List.mem_cons_of_mem _ g0, ?_⟩
      by_cases hb : p.1 = P
      · rw [hu p hp hb, hb]
        refine ⟨_, onP, by rw [eL]; exact PySem.TriplesOk_snoc _ _ _ _ ht, fun p' cv hcv => ?_⟩
        rw [eL] at hcv
        rcases among_app _ ht hcv with z | z
        · obtain ⟨c0, e1, e2, e3⟩ := ha p' cv z
          exact ⟨c0, e1, codeK e2, List.mem_cons_of_mem _ e3⟩
        · exact ⟨c', z, upd_same, List.mem_cons_self⟩
      · refine ⟨ps', by rw [off _ hb (ne_of_none a1 nC)]; exact a1, a2, fun p' cv hcv => ?_⟩
        obtain ⟨c0, e1, e2, e3⟩ := a3 p' cv hcv
        exact ⟨c0, e1, codeK e2, List.mem_cons_of_mem _ e3⟩
    · have n1 : h'.objs.size ≠ c' := Nat.ne_of_gt hlt
      have n2 : h'.objs.size ≠ P := Nat.ne_of_gt (Nat.lt_of_lt_of_le (Heap.lt_size hP') hsz)
      rw [off _ n2 n1]
      exact I.hok.fresh hsz
  | some cv =>
    obtain ⟨c', e, hco, hcF⟩ := ha pos cv hcc
    subst e
    refine PySem.W.kla_makeFunctionHit (mg := X.mg) (c := c) (P := P) (ps := ps) (closure_ok hfree) I.ok.glob (I.mod.glob.keeps I.bk) hcode (TB.code.keeps I.bk) hP' ht hcc bP fun ctv h' tk hx hsz => ?_
    have I1 : Inv X pins σ H { s with heap := h'.push (PySem.W.kla_obj "<lambda>" (X.env.qual ++ "<lambda>") params body scope (cloFrom X.env.cells scope.names []) ((X.mg "__name__").getD .none) c' ctv), toks := tk } := I.kept fun b o e => Heap.get?_push_of_some _ (hx b o e)
    exact h h'.objs.size c' ((X.mg "__name__").getD .none) ctv H F _ I1 (Ext.refl _ H) hc hT (Heap.get?_push_size _ rfl) (I.hok.fresh hsz) hsz hco hcF
/-! ### the lambda's names -/
/-- parameters that are plain locals, captured names, globals -/
structure LamP (sc scope : Scope) (ps : List Str) : Prop where
  kind : scope.kind = .function
  co : scope.isCoroutine = false
  gen : scope.isGenerator = false
  own : ∀ y ∈ scope.names, y.2 ≠ .cell ∧ (y.2 = .local → y.1 ∈ ps)
  par : ∀ y ∈ ps, scope.names.lookup y = some .local
  free : ∀ y ∈ scope.names, y.2 = .free → sc.names.lookup y.1 = some .cell ∨ sc.names.lookup y.1 = some .free
def lamPB (sc scope : Scope) (ps : List Str) : Bool :=
  decide (scope.kind = .function) && !scope.isCoroutine && !scope.isGenerator && (scope.names.all fun y => !decide (y.2 = .cell) && (!decide (y.2 = .local) || decide (y.1 ∈ ps)) && (!decide (y.2 = .free) || decide (sc.names.lookup y.1 = some .cell) || decide (sc.names.lookup y.1 = some .free))) && ps.all fun y => decide (scope.names.lookup y = some .local)
omit [Tab] in
theorem lamP_by {sc scope : Scope} {ps : List Str} (h : lamPB sc scope ps = true) : LamP sc scope ps := by
  unfold lamPB at h
  simp only [Bool.and_eq_true, Bool.or_eq_true, Bool.not_eq_true', decide_eq_true_eq, decide_eq_false_iff_not, List.all_eq_true] at h
  obtain ⟨⟨⟨⟨h1, h2⟩, h3⟩, h4⟩, h5⟩ := h
  refine ⟨h1, h2, h3, fun y hy => ⟨(h4 y hy).1.1, fun e => ?_⟩, h5, fun y hy e => ?_⟩
  · rcases (h4 y hy).1.2 with z | z
    · exact absurd e z
    · exact z
  · rcases (h4 y hy).2 with (z | z) | z
    · exact absurd e z
    · exact .inl z
    · exact .inr z
omit [Tab] in
theorem LamP.has {scope : Scope} {ps : List Str} (L : LamP X.env.scope scope ps) (ok : X.Ok) : ∀ y ∈ scope.names, y.2 = .free → ∃ c, X.env.cells.lookup y.1 = some c := fun y hy e => by
  rcases L.free y hy e with k | k
  · exact ok.has _ (.inl k)
  · exact ok.has _ (.inr k)
/-! ### the parameters' slots -/
def setVs (σ : L2.St) (js : List Nat) (vs : List V) : L2.St := (js.zip vs).foldl (fun s p => s.set p.1 (some p.2)) σ
omit [Tab] in
theorem setVs_len : ∀ {js : List Nat} {vs : List V} {σ : L2.St}, (setVs σ js vs).length = σ.length
  | [], _, _ => rfl
  | _ :: _, [], _ => rfl
  | j :: js, v :: vs, σ => by
    show (setVs (σ.set j (some v)) js vs).length = _
    rw [setVs_len, List.length_set]
omit [Tab] in
theorem setVs_off : ∀ {js : List Nat} {vs : List V} {σ : L2.St} {i : Nat}, i ∉ js → (setVs σ js vs)[i]? = σ[i]?
  | [], _, _, _, _ => rfl
  | _ :: _, [], _, _, _ => rfl
  | j :: js, v :: vs, σ, i, h => by
    rw [List.mem_cons, not_or] at h
    show (setVs (σ.set j (some v)) js vs)[i]? = _
    rw [setVs_off h.2, List.getElem?_set_ne (Ne.symm h.1)]
omit [Tab] in
theorem setVs_on : ∀ {js : List Nat} {vs : List V} {σ : L2.St} {i k : Nat} {v : V}, js.Nodup → js[k]? = some i → vs[k]? = some v → i < σ.length → (setVs σ js vs)[i]? = some (some v)
  | [], _, _, _, _, _, _, h, _, _ => by simp at h
  | _ :: _, [], _, _, _, _, _, _, h, _ => by simp at h
  | j :: js, u :: vs, σ, i, 0, v, nd, h1, h2, hl => by
    simp at h1 h2
    subst h1 h2
    show (setVs (σ.set j (some u)) js vs)[j]? = _
    rw [setVs_off (List.nodup_cons.mp nd).1, List.getElem?_set_self hl]
  | j :: js, u :: vs, σ, i, k + 1, v, nd, h1, h2, hl => by
    show (setVs (σ.set j (some u)) js vs)[i]? = _
    exact setVs_on (List.nodup_cons.mp nd).2 (by simpa using h1) (by simpa using h2) (by rw [List.length_set]; exact hl)
omit [Tab] in
theorem lookup_of_mem {α β : Type} [BEq α] [LawfulBEq α] : ∀ {l : List (α × β)} {x : α} {y : β}, (l.map (·.1)).Nodup → (x, y) ∈ l → l.lookup x = some y
  | [], _, _, _, h => by cases h
  | (a, b) :: l, x, y, nd, h => by
    rw [List.map_cons, List.nodup_cons] at nd
    rcases List.mem_cons.mp h with e | h
    · cases e; simp [List.lookup]
    · have : (x == a) = false := by
        rw [beq_eq_false_iff_ne]
        intro z
        exact nd.1 (by rw [← z]; exact List.mem_map.mpr ⟨(x, y), h, rfl⟩)
      rw [List.lookup, this]
      exact lookup_of_mem nd.2 h
omit [Tab] in
theorem zip_look {ps : List Str} {us : List Value} (nd : ps.Nodup) {k : Nat} {p : Str} {u : Value} (h1 : ps[k]? = some p) (h2 : us[k]? = some u) (hl : ps.length = us.length) : (ps.zip us).reverse.lookup p = some u := by
  refine lookup_of_mem ?_ (List.mem_reverse.mpr (List.mem_of_getElem? (i := k) ?_))
  · rw [List.map_reverse, (List.reverse_perm _).nodup_iff, List.map_fst_zip (by omega)]; exact nd
  · rw [List.getElem?_zip_eq_some]; exact ⟨h1, h2⟩
/-- what stands for the lambda's parameters -/
structure ParS (N : List Str) (ps : List Str) (js : List Nat) : Prop where
  nd : ps.Nodup
  jd : js.Nodup
  len : js.length = ps.length
  at_ : ∀ (k j : Nat), js[k]? = some j → ∃ p, ps[k]? = some p ∧ N[j]? = some p
/-- the lambda's body is entered -/
theorem lam_startN {A : Around} {outer : List PySem.Env} {E : XK} {scope : Scope} {f c' : Addr} {h₁ : Heap} {tk : Nat} {HZ : Hp} {s1 : Shared} {ps : List Str} {js : List Nat} {vs : List V} {us : List Value} (I : Inv X pins σ H s) (L : LamP X.env.scope scope ps) (hN : X.N.Nodup) (PS : ParS X.N ps js) (rv : Vals vs us) (hlv : vs.length = ps.length) (e0 : Env0 X.prog X.w X.K X.mg X.base A outer s1 HZ) (hd : A.handled = none)
    (un : Un (frs X.stack) [] H HZ s.heap s1.heap) (hns : h₁.Ns s1.heap.objs.size fun y => (ps.zip us).reverse.lookup y) (kp : ∀ b o, s1.heap.get? b = some o → h₁.get? b = some o) :
    Inv (lamCx X A outer s1 HZ E scope f c') [] (setVs σ js vs) HZ { s1 with heap := h₁, toks := tk } := by
  have hfree := L.has I.ok
  have cm : ∀ {y c}, (cloFrom X.env.cells scope.names []).lookup y = some c → X.env.cells.lookup y = some c := fun {y c} e => by
    rcases cloFrom_mem (PySem.mem_of_lookup e) with hm | ⟨h1, h2⟩
    · cases hm
    · obtain ⟨c1, hc⟩ := hfree _ h1 rfl
      have hc : X.env.cells.lookup y = some c1 := hc
      have e2 : c = c1 := by
        rw [h2, hc] <;> rfl
      rw [e2]
      exact hc
  have look : ∀ {y}, scope.names.lookup y = some .free → ∃ c, (cloFrom X.env.cells scope.names []).lookup y = some c := fun {y} hl => by
    have hy : (y, NameKind.free) ∈ scope.names := PySem.mem_of_lookup hl
    exact mem_lookup (cloFrom_has (cells := X.env.cells) (acc := []) hy)
  have cellK : ∀ {c : Addr} {v : Option Value}, H c = none → s.heap.IsCell c v → h₁.IsCell c v := fun {c v} n ⟨o, ho, hd⟩ => by
    obtain ⟨sl, q⟩ := un.any ho n (by simp)
    exact ⟨_, kp _ _ q, hd⟩
  have noA : ∀ b : Addr, b ∉ (lamCx X A outer s1 HZ E scope f c').ex := fun b z => absurd (show b ∈ ([] : List Addr) from z) (by simp)
  have noP : ∀ {i : Nat} {y : Str}, X.N[i]? = some y → y ∉ ps → i ∉ js := fun {i y} e1 hy hi => by
    obtain ⟨k, hk⟩ := List.mem_iff_getElem?.mp hi
    obtain ⟨p, g1, g2⟩ := PS.at_ k i hk
    rw [e1] at g2
    cases g2
    exact hy (List.mem_of_getElem? g1)
  refine ⟨⟨e0.mod, L.kind, rfl, rfl, Nat.le_refl _, fun y z c e1 e2 => I.ok.inj y z c (cm e1) (cm e2), fun y hy => ?_, fun y c z _ => ?_, fun _ => hd, Around.frames_deeper e0.frames, .inr ⟨rfl, rfl⟩, fun b z => absurd z (noA b), e0.bs, e0.bsz, fun b _ _ => noA b,
      fun b z => absurd z (noA b), e0.funs, e0.frf⟩,
    rfl, e0.bare, Un.kept kp, ⟨_, hns, fun i y v e1 e2 e3 => ?_⟩, fun y c e => ?_, e0.hok.fresh (Nat.le_refl _), fun y c e => ?_, fun q hq => absurd (show q ∈ ([] : List (Addr × Obj)) ++ [] from hq) (by simp), e0.hok.kept kp, by rw [setVs_len]; exact I.len⟩
  · have hy : scope.names.lookup y = some .cell ∨ scope.names.lookup y = some .free := hy
    rcases hy with hy | hy
    · exact absurd rfl (L.own _ (PySem.mem_of_lookup hy)).1
    · exact look hy
  · have z : false = true := z
    cases z
  · have e1 : X.N[i]? = some y := e1
    have e3 : Vis scope y := e3
    rcases e3 with k | k | k
    · have hyp : y ∈ ps := (L.own _ (PySem.mem_of_lookup k)).2 rfl
      obtain ⟨kk, hkk⟩ := List.mem_iff_getElem?.mp hyp
      have hkl := (List.getElem?_eq_some_iff.mp hkk).1
      have hkj : kk < js.length := by rw [PS.len]; exact hkl
      have hkv : kk < vs.length := by omega
      have hjk : js[kk]? = some js[kk] := List.getElem?_eq_getElem hkj
      obtain ⟨p, g1, g2⟩ := PS.at_ kk _ hjk
      rw [hkk] at g1
      cases g1
      have hij : i = js[kk] := nodup_ix hN e1 g2
      have hvk : vs[kk]? = some vs[kk] := List.getElem?_eq_getElem hkv
      have hil : i < σ.length := by
        rw [I.len]
        exact (List.getElem?_eq_some_iff.mp e1).1
      have := setVs_on (σ := σ) PS.jd (by rw [hij]; exact hjk) hvk hil
      rw [this] at e2
      cases e2
      obtain ⟨u, hu, ru⟩ := rv.get hvk
      refine ⟨u, ru, .inl ⟨k, zip_look PS.nd hkk hu (by rw [← hlv, rv.length])⟩⟩
    · exact absurd rfl (L.own _ (PySem.mem_of_lookup k)).1
    · have hyp : y ∉ ps := fun z => by rw [L.par y z] at k; cases k
      rw [setVs_off (noP e1 hyp)] at e2
      obtain ⟨m, hn, hl⟩ := I.loc
      have hvis : Vis X.env.scope y := (L.free _ (PySem.mem_of_lookup k) rfl).elim (fun k => .inr (.inl k)) (fun k => .inr (.inr k))
      obtain ⟨w', r, q⟩ := hl i y v e1 e2 hvis
      obtain ⟨c2, h2⟩ := look k
      refine ⟨w', r, .inr ⟨.inr k, c2, h2, ?_⟩⟩
      have c1 := cm h2
      rcases q with ⟨k', _⟩ | ⟨_, c3, e', z⟩
      · have k' : X.env.scope.names.lookup y = some .local := k'
        rcases L.free _ (PySem.mem_of_lookup k) rfl with k2 | k2 <;> rw [show X.env.scope.names.lookup y = _ from k2] at k' <;> cases k'
      · rw [c1] at e'
        cases e'
        exact cellK (I.freeC y _ c1) z
  · obtain ⟨w', z⟩ := I.cell y c (cm e)
    exact ⟨w', cellK (I.freeC y c (cm e)) z⟩
  · obtain ⟨v, o, ho, hd⟩ := I.cell y c (cm e)
    exact un.free c o ho (I.freeC y c (cm e)) (by simp)
/-- THE LAMBDA IS CALLED, somewhere deeper: at s1 over HZ -/
theorem lam_call {A : Around} {outer : List PySem.Env} {scope : Scope} {f c' : Addr} {pm ctv : Value} {params : Arguments} {body : Expr} {HZ : Hp} {s1 : Shared} {ps : List Str} {js : List Nat} {vs : List V} {us : List Value} {k : Nat} {tb : TE} {Q : VK}
    (I : Inv X pins σ H s) (L : LamP X.env.scope scope ps) (hN : X.N.Nodup) (PS : ParS X.N ps js) (rv : Vals vs us) (hlv : vs.length = ps.length) (e0 : Env0 X.prog X.w X.K X.mg X.base A outer s1 HZ) (nl : s1.heap.NoLimit) (hr : Room (k + 1) A) (un : Un (frs X.stack) [] H HZ s.heap s1.heap)
    (of1 : s1.heap.get? f = some (PySem.W.kla_obj "<lambda>" (X.env.qual ++ "<lambda>") params body scope (cloFrom X.env.cells scope.names []) pm c' ctv)) (hc : HZ c' = some (CodeO c' (X.env.qual ++ "<lambda>")))
    (hbind : bindArgs (PySem.W.kla_fn "<lambda>" (X.env.qual ++ "<lambda>") params body scope (cloFrom X.env.cells scope.names []) pm (.ref c') ctv) ⟨us, []⟩ = pure (ps.zip us))
    (hbody : Room k (A.deeper (lamEnv X scope s1.heap.objs.size f c')) → PE (lamCx X A outer s1 HZ E0 scope f c') body tb) (q : tb (setVs σ js vs) HZ Q) :
    codeAny (model X.prog X.w) A (.call (.ref f) ⟨us, []⟩) (CR (L2.CX X.prog X.w) outer X.prog X.w HZ s1 Q E0) s1 := by
  obtain ⟨⟨oc, ws, t, hoc, hdc, hvc⟩, _, _⟩ := e0.hok c' _ hc
  refine PySem.W.kla_callFunE hr.depth of1 rfl L.co L.gen rfl ⟨c', oc, ws, t, rfl, hoc, hdc, hvc⟩ ?_
  rw [hbind]
  refine wpAny_pure (wpAny_newFunctionEnv (fun y hy => (L.own y hy).1) (fun y hy => L.par _ (List.of_mem_zip hy).1) (fun h₁ hns hsb => ⟨nl.fresh _ hsb, ?_⟩) L.kind)
  show codeAny _ _ (.expr body (lamEnv X scope s1.heap.objs.size f c')) _ _
  have kp : ∀ b o, s1.heap.get? b = some o → h₁.get? b = some o := fun b o e => hsb.extBut b o (Nat.ne_of_lt (Heap.lt_size e)) (Heap.get?_push_of_some _ e)
  have J : Inv (lamCx X A outer s1 HZ E0 scope f c') [] (setVs σ js vs) HZ { s1 with heap := h₁, toks := s1.toks + (ps.zip us).length } :=
    lam_startN I L hN PS rv hlv e0 hr.hd un hns kp
  refine PySem.W.kla_codeExpr (wpAny_mono ((hbody (hr.deeper _)).run [] _ _ HZ Q J q) (fun v s' hq => ?_) fun e s' hq => hq)
  obtain ⟨w', H', J', rv, q⟩ := hq
  exact ⟨w', H', J'.os, J'.bare, J'.base, J'.hok, rv, q⟩
end
end Dl
set_option maxHeartbeats 2000000
/-! DlKey: sorted(.., key=lambda ..), min(.., key=lambda ..). -/
namespace Dl
open PySem PySem.Spec PyProof.Rows L2 LamX PySem.W
section
variable {X : Cx}
/-- the lambda's object -/
abbrev lamO (X : Cx) (params : Arguments) (body : Expr) (scope : Scope) (pm : Value) (c' : Addr) (ctv : Value) : Obj := PySem.W.kla_obj "<lambda>" (X.env.qual ++ "<lambda>") params body scope (cloFrom X.env.cells scope.names []) pm c' ctv
/-- one call of the lambda, in a built-in's midst -/
theorem lam_step {A : Around} {scope : Scope} {f c' : Addr} {pm ctv : Value} {params : Arguments} {body : Expr} {p : Str} {j k : Nat} {x : V} {u : Value} {tb : TE} {Q : VK} {pins : List (Addr × Obj)} {σ : L2.St} {H : Hp} {s : Shared} {E : Value → Shared → Prop}
    (I : Inv X pins σ H s) (L : LamP X.env.scope scope [p]) (hN : X.N.Nodup) (hj : X.N[j]? = some p) (rv : RelV x u) (hA : A.frames = X.A.frames) (hr : Room (k + 1) A)
    (of1 : s.heap.get? f = some (lamO X params body scope pm c' ctv)) (hc : H c' = some (CodeO c' (X.env.qual ++ "<lambda>")))
    (hbind : bindArgs (PySem.W.kla_fn "<lambda>" (X.env.qual ++ "<lambda>") params body scope (cloFrom X.env.cells scope.names []) pm (.ref c') ctv) ⟨[u], []⟩ = pure ([p].zip [u]))
    (hbody : ∀ (A : Around) (outer : List PySem.Env) (s : Shared) (H : Hp) (f c' : Addr), Room k (A.deeper (lamEnv X scope s.heap.objs.size f c')) → PE (lamCx X A outer s H E0 scope f c') body tb) (q : tb (setVs σ [j] [x]) H Q) :
    wpAny (model X.prog X.w) A (call (.ref f) [u]) (fun u' s' => ∃ v H', Inv X pins σ H' s' ∧ RelV v u' ∧ Q v H' ∧ Un (frs X.stack) [] H H' s.heap s'.heap) E s := by
  have e0 : Env0 X.prog X.w X.K X.mg X.base A X.stack s H := { I.env0 with frames := by rw [hA]; exact I.ok.frames }
  have PS : ParS X.N [p] [j] := ⟨by simp, by simp, rfl, fun kk jj h => by
    cases kk with
    | zero => simp at h; subst h; exact ⟨p, rfl, hj⟩
    | succ kk => simp at h⟩
  letI : Tab := ⟨[], fun _ => none⟩
  refine wpAny_call (codeAny_mono (lam_call (outer := X.stack) (ps := [p]) (js := [j]) (vs := [x]) (us := [u]) (tb := tb) (Q := Q) (k := k) I L hN PS (.cons rv .nil) rfl e0 I.nolimit hr Un.refl of1 hc hbind (fun hr' => hbody A X.stack s H f c' hr') q) fun r s2 hq => ?_)
  cases r with
    | error e =>
      obtain ⟨_, _, _, _, _, _, _, _, _, _, _, _, z⟩ := (show L2.CX X.prog X.w X.stack H s E0 e s2 from hq)
      exact z.elim
    | ok fl =>
      cases fl with
      | ret u =>
        have hq : CE X.stack X.prog X.w H s Q u s2 := hq
        obtain ⟨v, H', os, bare, un, hok, r, q⟩ := hq
        obtain ⟨hp, g, d, t, os'⟩ := s2
        obtain rfl : os' = s.os := os
        exact ⟨v, H', I.call (h' := hp) (g' := g) (d' := d) (t' := t) (ch := []) un hok bare (fun b z => absurd z (by simp)), r, q, un⟩
      | next => exact False.elim hq
      | brk => exact False.elim hq
      | cont => exact False.elim hq
theorem stk_out {pins : List (Addr × Obj)} {σ : L2.St} {H Hi : Hp} {s : Shared} {b : Addr} (I : Inv X pins σ H s) (f : FpOk X pins Hi b) : b ∉ frs X.stack := fun z => by
  rcases List.mem_cons.mp (I.stkSub b z) with h | h
  · exact f.2.1 h
  · exact f.2.2.1 h
/-- everything but the object at l is kept -/
def SubBut (l : Addr) (H H' : Hp) : Prop := ∀ b o, b ≠ l → H b = some o → H' b = some o
/-- min(xs, key=f): xs a list of one's own, f's keys whole numbers -/
theorem minK_run {scope : Scope} {f c' l : Addr} {pm ctv : Value} {params : Arguments} {body : Expr} {p : Str} {j k : Nat} {xs : List V} {tb : TE} {Q : VK} {pins : List (Addr × Obj)} {σ : L2.St} {H : Hp} {s : Shared} {E : Value → Shared → Prop} {kf : Nat → Int}
    (I : Inv X pins σ H s) (L : LamP X.env.scope scope [p]) (hN : X.N.Nodup) (hj : X.N[j]? = some p) (hr : Room (k + 2) X.A) (hl : H l = some (.lst xs)) (hne : 0 < xs.length)
    (of1 : s.heap.get? f = some (lamO X params body scope pm c' ctv)) (hfF : FpOk X pins H f) (hc : H c' = some (CodeO c' (X.env.qual ++ "<lambda>")))
    (hbind : ∀ u, bindArgs (PySem.W.kla_fn "<lambda>" (X.env.qual ++ "<lambda>") params body scope (cloFrom X.env.cells scope.names []) pm (.ref c') ctv) ⟨[u], []⟩ = pure ([p].zip [u]))
    (hbody : ∀ (A : Around) (outer : List PySem.Env) (s : Shared) (H : Hp) (f c' : Addr), Room k (A.deeper (lamEnv X scope s.heap.objs.size f c')) → PE (lamCx X A outer s H E0 scope f c') body tb)
    (hb : ∀ i x, xs[i]? = some x → ∀ Hi, SubBut l H Hi → tb (setVs σ [j] [x]) Hi (fun v H' => v = .int (kf i) ∧ Sub Hi H'))
    (hq : ∀ x Hn, xs[argBest (fun a b => decide (kf a < kf b)) (xs.length - 1)]? = some x → Sub H Hn → Q x Hn) :
    wpAny (model X.prog X.w) X.A (call (.builtin "min") [.ref l] [(Str.ofString "key", .ref f)]) (EP X pins σ Q) E s := by
  obtain ⟨od, IL⟩ := I.lock hl trivial
  have hnf := I.nofrz hl trivial
  have hld : s.heap.get? l = some od := (IL.hok l _ upd_same).1
  obtain ⟨its, rv, pl, hz⟩ := IL.list (.inl (.inr ⟨od, upd_same⟩) : SqL X.K (upd H l (.frz od (.lst xs))) l xs)
  have hcl : c' ≠ l := fun z => by rw [z, hl] at hc; cases hc
  have hlo : H l ≠ none := by rw [hl]; simp
  have hfl : f ≠ l := fun z => hlo (by rw [← z]; exact hfF.1)
  have hlsz : l < s.heap.objs.size := Heap.lt_size hld
  have hilen : its.length = xs.length := rv.length.symm
  have hh : X.A.in1.handled = none := hr.hd
  refine call_min_walkK (A := X.A) (wpAny_pyIter_list pl.isList ?_)
  have hnI : upd H l (.frz od (.lst xs)) s.heap.objs.size = none := by rw [upd_ne (Nat.ne_of_gt hlsz)]; exact I.hok.fresh (Nat.le_refl _)
  have kpI : ∀ b o, s.heap.get? b = some o → (s.heap.push { cls := .type "list_iterator", data := .fields #[.ref l, .int 0 0] }).get? b = some o := fun b o e => Heap.get?_push_of_some _ e
  have fI : ∀ Hi : Hp, Hi s.heap.objs.size = none → FpOk X pins Hi s.heap.objs.size := fun Hi hn => I.fpOk (Nat.le_refl _) hn
  have fS : ∀ Hi : Hp, Hi (s.heap.objs.size + 1) = none → FpOk X pins Hi (s.heap.objs.size + 1) := fun Hi hn => I.fpOk (Nat.le_succ _) hn
  have esz : (s.heap.push { cls := .type "list_iterator", data := .fields #[.ref l, .int 0 0] }).objs.size = s.heap.objs.size + 1 := Heap.size_push _ _
  refine ⟨s.heap.objs.size, [s.heap.objs.size, l], [s.heap.objs.size], _, its.toArray.size, _, _, fun s' => ∃ Hi, Inv X pins σ Hi s' ∧ Sub (upd H l (.frz od (.lst xs))) Hi ∧ s'.heap.get? f = some (lamO X params body scope pm c' ctv) ∧ Hi s.heap.objs.size = none ∧ Hi (s.heap.objs.size + 1) = none ∧ Hi f = none,
    fun i k _ => ∃ t, k = .int (kf i) t, fun a b => decide (kf a < kf b), rfl, (Walks.list hh s.heap.objs.size l (Nat.ne_of_lt hlsz) its.toArray).toS, ⟨⟨_, Heap.get?_push_size _ rfl, rfl, rfl⟩, pl.isList.push _⟩, ?_, ?_, ?_, ?_, ?_⟩
  · intro b hb
    simp only [List.mem_cons, List.not_mem_nil, or_false] at hb
    simp only [esz]
    rcases hb with rfl | rfl
    · exact Nat.lt_succ_self _
    · exact Nat.lt_succ_of_lt hlsz
  · rw [List.size_toArray]; omega
  · refine ⟨fun s1 s2 ⟨Hi, J, sb, hf, n1, n2, n3⟩ hm => ?_, fun _ _ _ _ h _ => h, fun i v s1 o Q' E' hi hv ⟨Hi, J, sb, hf, n1, n2, n3⟩ hst hS hk => ?_, fun i j ki kj s1 Q' E' _ ⟨t1, h1⟩ ⟨t2, h2⟩ hq' => ?_⟩
    · obtain ⟨h', g', d', tk', os'⟩ := s2
      obtain rfl : g' = s1.gens := hm.gens
      obtain rfl : d' = s1.drawn := hm.drawn
      obtain rfl : os' = s1.os := hm.os
      have hm1 : ∀ b o, b ∉ [s.heap.objs.size + 1, s.heap.objs.size] → s1.heap.get? b = some o → h'.get? b = some o := fun b o hb e => hm.heap b o (by rw [esz]; exact hb) e
      refine ⟨Hi, J.turnedL hm1 fun b hb => ?_, sb, hm1 f _ ?_ hf, n1, n2, n3⟩
      · simp only [List.mem_cons, List.not_mem_nil, or_false] at hb
        rcases hb with rfl | rfl
        · exact fS _ n2
        · exact fI _ n1
      · have := Heap.lt_size of1
        simp only [List.mem_cons, List.not_mem_nil, or_false, not_or]
        exact ⟨Nat.ne_of_lt (Nat.lt_succ_of_lt this), Nat.ne_of_lt this⟩
    · have hi2 : i < xs.length := by rw [List.size_toArray, hilen] at hi; exact hi
      have hx : xs[i]? = some xs[i] := List.getElem?_eq_getElem hi2
      obtain ⟨u, hu, rx⟩ := rv.get hx
      have hv' : its[i]? = some v := by simpa using hv
      rw [hv'] at hu
      cases hu
      have sbut : SubBut l H Hi := fun b o hb e => sb b o (by rw [upd_ne hb]; exact e)
      refine wpAny_mono (lam_step (A := X.A.in1) (k := k) (tb := tb) (Q := fun v H' => v = .int (kf i) ∧ Sub Hi H') J L hN hj rx rfl hr.in1 hf (sbut c' _ hcl hc) (hbind v) hbody (hb i _ hx Hi sbut)) (fun u' s' h' => ?_) fun _ _ e => e
      obtain ⟨v', H', J', r', ⟨rfl, sb'⟩, un⟩ := h'
      obtain ⟨t, rfl⟩ := r'
      obtain ⟨⟨oI, hI1, hI2, hI3⟩, hL⟩ := hst
      have gl : ∀ o, s.heap.get? l = some o → s'.heap.get? l = some o := fun o e => by
        rw [hld] at e
        cases e
        exact (J'.hok l _ (sb' l _ (sb l _ upd_same))).1
      refine hk _ s' ⟨H', J', fun b o e => sb' b o (sb b o e), un.keep f _ hf n3 (stk_out I hfF) (by simp), un.free _ _ hI1 n1 (by simp), un.free _ o (by rw [esz] at hS; exact hS) n2 (by simp), un.free _ _ hf n3 (by simp)⟩
        ⟨⟨oI, un.keep _ _ hI1 n1 (stk_out I (fI _ n1)) (by simp), hI2, hI3⟩, pl.isList.at gl⟩ ?_ ⟨t, rfl⟩ fun _ _ h => h
      rw [esz] at hS ⊢
      exact un.keep _ _ hS n2 (stk_out I (fS _ n2)) (by simp)
    · subst h1 h2
      exact wpAny_lt_int hq'
  · exact ⟨_, IL.kept (t' := s.toks) kpI, fun _ _ h => h, kpI _ _ of1, hnI, by rw [upd_ne (Nat.ne_of_gt (Nat.lt_succ_of_lt hlsz))]; exact I.hok.fresh (Nat.le_succ _), by rw [upd_ne hfl]; exact hfF.1⟩
  · rintro v s' hv ⟨Hi, J, sb, _, _, _, _⟩
    rw [List.size_toArray, hilen] at hv
    have hv' : its[argBest (fun a b => decide (kf a < kf b)) (xs.length - 1)]? = some v := by simpa using hv
    generalize argBest (fun a b => decide (kf a < kf b)) (xs.length - 1) = m at *
    have hm : m < xs.length := by rw [← hilen]; exact (List.getElem?_eq_some_iff.mp hv').1
    have hx : xs[m]? = some xs[m] := List.getElem?_eq_getElem hm
    obtain ⟨u, hu, rx⟩ := rv.get hx
    rw [hv'] at hu
    cases hu
    have hfz : Hi l = some (.frz od (.lst xs)) := sb l _ upd_same
    refine ⟨_, _, J.unlock hfz hnf, rx, hq _ _ hx fun b o e => ?_⟩
    by_cases hbl : b = l
    · subst hbl; rw [upd_same, ← hl, e]
    · rw [upd_ne hbl]; exact sb b o (by rw [upd_ne hbl]; exact e)
theorem cr_range1 : CallR X (.type "range") (fun vs H Q => ∃ j, vs = [V.int j] ∧ ∀ p, H p = none → Q (.ref p) (upd H p (.rng 0 j))) := by
  intro pins s σ H vs us Q I r h
  obtain ⟨j, rfl, q⟩ := h
  cases r with
  | cons r1 r2 =>
    cases r2
    obtain ⟨t, rfl⟩ := r1
    exact call_range_1 ⟨.ref s.heap.objs.size, upd H s.heap.objs.size (.rng 0 j), I.laid (t' := _) (fun b o e => Heap.get?_push_of_some _ e) (Nat.le_refl _) ⟨_, _, _, Heap.get?_push_size _ rfl⟩, rfl, q _ (I.hok.fresh (Nat.le_refl _))⟩
def pairP (k : Int × Int) : PyData := .tuple [.int k.1, .int k.2]
theorem pairs_alike {ks : List (Int × Int)} : PySem.W.AllAlike (ks.map pairP) := by
  intro d hd d' hd'
  obtain ⟨a, _, rfl⟩ := List.mem_map.mp hd
  obtain ⟨b, _, rfl⟩ := List.mem_map.mp hd'
  simp [pairP, PySem.W.alike, PySem.W.alikeAll]
theorem pairs_sortable {ks : List (Int × Int)} : PySem.W.Sortable (ks.map pairP) := .inl fun d hd => by
  obtain ⟨a, _, rfl⟩ := List.mem_map.mp hd
  exact ⟨_, _, rfl⟩
theorem each_ix {α β : Type} {R : α → β → Prop} {as : List α} {bs : List β} (hl : as.length = bs.length) (h : ∀ (i : Nat) a b, as[i]? = some a → bs[i]? = some b → R a b) : EachIs R as bs := by
  refine EachIs.of_zip hl fun p hp => ?_
  obtain ⟨i, hi⟩ := List.mem_iff_getElem?.mp hp
  rw [List.getElem?_zip_eq_some] at hi
  exact h i _ _ hi.1 hi.2
theorem each_vals : ∀ {us : List Value} {is : List Nat}, EachIs (fun v (i : Nat) => ∃ t, v = Value.int (i : Nat) t) us is → Vals (is.map fun (i : Nat) => V.int (i : Nat)) us
  | _, _, .nil => .nil
  | _, _, .cons h t => .cons h (each_vals t)
/-- sorted(range(m), key=f): f's keys are pairs of whole numbers -/
theorem sortK_run {scope : Scope} {f c' r : Addr} {pm ctv : Value} {params : Arguments} {body : Expr} {p : Str} {j k n : Nat} {m : Int} {tb : TE} {Q : VK} {pins : List (Addr × Obj)} {σ : L2.St} {H : Hp} {s : Shared} {E : Value → Shared → Prop} {kf : Nat → Int × Int}
    (I : Inv X pins σ H s) (L : LamP X.env.scope scope [p]) (hN : X.N.Nodup) (hj : X.N[j]? = some p) (hr : Room (k + 4) X.A) (hg : H r = some (.rng 0 m)) (hm : -1000000 ≤ m) (hm2 : m ≤ 1000000) (hn : n = m.toNat)
    (of1 : s.heap.get? f = some (lamO X params body scope pm c' ctv)) (hfF : FpOk X pins H f) (hc : H c' = some (CodeO c' (X.env.qual ++ "<lambda>")))
    (hbind : ∀ u, bindArgs (PySem.W.kla_fn "<lambda>" (X.env.qual ++ "<lambda>") params body scope (cloFrom X.env.cells scope.names []) pm (.ref c') ctv) ⟨[u], []⟩ = pure ([p].zip [u]))
    (hbody : ∀ (A : Around) (outer : List PySem.Env) (s : Shared) (H : Hp) (f c' : Addr), Room k (A.deeper (lamEnv X scope s.heap.objs.size f c')) → PE (lamCx X A outer s H E0 scope f c') body tb)
    (hb : ∀ i, i < n → ∀ Hi, Sub H Hi → tb (setVs σ [j] [.int (i : Nat)]) Hi (fun v H' => (∃ B, Rep X.w X.K H' v (pairD (kf i)) B) ∧ Sub Hi H'))
    (hq : ∀ q Hn, Sub H Hn → Hn q = none → Q (.ref q) (upd Hn q (.lst (((List.range n).mergeSort (PySem.W.dataLe false fun i => pairP (kf i))).map fun (i : Nat) => V.int (i : Nat))))) :
    wpAny (model X.prog X.w) X.A (call (.builtin "sorted") [.ref r] [(Str.ofString "key", .ref f)]) (EP X pins σ Q) E s := by
  have hh : X.A.in1.handled = none := hr.hd
  obtain ⟨tR, uR, vR, hR⟩ : ∃ t u v, IsRange s.heap r 0 m 1 t u v := I.hok r _ hg
  have hsz : Builtin.Range.rangeSize 0 m 1 = n := by
    have := rangeSize_nat 0 m
    rw [this, hn]; simp
  refine call_function_entry_kw kind_sorted plain_sorted entry_sorted (ksk_s1 _ _) ?_
  unfold Builtin.«sorted»
  refine wpAny_bind (m := checkCount "sorted" 1 1 _) (wpAny_pure (wpAny_bind (collect_range (A := X.A.in1) hh hR (small_one (by omega) (by omega) (by omega) (by omega)) hsz (by omega) fun h1 tk1 acc k1 hit => ?_)))
  have haccn : acc.size = n := hit.1
  have hL : acc.toList.length ≤ sizeLine := by rw [Array.length_toList, haccn, sizeLine_eq]; omega
  refine wpAny_bind (wpAny_newList ?_ hL)
  have I1 : Inv X pins σ H { s with heap := h1, toks := tk1 } := I.kept k1
  show wpAny _ _ _ _ _ { s with heap := h1.push (seqObj "list" acc.toList.toArray 0), toks := tk1 }
  have hga : (h1.push (seqObj "list" acc.toList.toArray 0)).get? h1.objs.size = some (seqObj "list" acc.toList.toArray 0) := Heap.get?_push_size _ rfl
  refine wpAny_bind (wpAny_holding (wpAny_call_entry_kw slot_list_sort ⟨_, hga, rfl⟩ entry_list_sort ?body (ksk_l1 _ _)))
  show wpAny (model X.prog X.w) X.A.in1.in1 (Builtin.«list.sort» ⟨[.ref h1.objs.size], [(Str.ofString "key", .ref f)]⟩) _ _ _
  rw [ksk_t1]
  unfold ksk_tree
  have ha0 : H h1.objs.size = none := I1.hok.fresh (Nat.le_refl _)
  have fA : ∀ Hi : Hp, Hi h1.objs.size = none → FpOk X pins Hi h1.objs.size := fun Hi hn => I1.fpOk (Nat.le_refl _) hn
  obtain ⟨e1, ho1⟩ : ∃ e1, ((h1.push (seqObj "list" acc.toList.toArray 0)).update h1.objs.size (Obj.mapSeq fun _ => (#[] : Array Value))).get? h1.objs.size = some (seqObj "list" #[] e1) := ⟨_, get?_update_seq hga fun _ => #[]⟩
  refine wpAny_bind (listItems_at hga rfl (wpAny_bind (listUpdate_at hga rfl ?_ (by rw [List.size_toArray]; exact hL) (Nat.zero_le _))))
  refine wpAny_bind (seqEpoch_at ho1 rfl (wpAny_bind (wpAny_newTuple (wpAny_bind (wpAny_newList (wpAny_holding ?_) (Nat.zero_le _))) (by simpa using hL))))
  generalize ehU : (h1.push (seqObj "list" acc.toList.toArray 0)).update h1.objs.size (Obj.mapSeq fun _ => (#[] : Array Value)) = hU at ho1 ⊢
  have hUk : ∀ b o, h1.get? b = some o → hU.get? b = some o := fun b o e => by
    rw [← ehU]
    exact (Heap.SameBut.update (h1.push (seqObj "list" acc.toList.toArray 0)) h1.objs.size (Obj.mapSeq fun _ => (#[] : Array Value))).2 b (Nat.ne_of_lt (Heap.lt_size e)) |>.trans (Heap.get?_push_of_some _ e)
  show wpAny _ _ (ksk_rest h1.objs.size (.ref f) false acc.toList.toArray e1 (.ref (hU.push (seqObj "tuple" acc.toList.toArray 0)).objs.size)) _ _ { s with heap := (hU.push (seqObj "tuple" acc.toList.toArray 0)).push (seqObj "list" #[] 0), toks := tk1 }
  generalize ehT : hU.push (seqObj "tuple" acc.toList.toArray 0) = hT
  have hTk : ∀ b o, hU.get? b = some o → hT.get? b = some o := fun b o e => by rw [← ehT]; exact Heap.get?_push_of_some _ e
  have IT : Inv X pins σ H { s with heap := hT, toks := tk1 } := I1.kept fun b o e => hTk b o (hUk b o e)
  have fK : ∀ Hi : Hp, Hi hT.objs.size = none → FpOk X pins Hi hT.objs.size := fun Hi hn => IT.fpOk (Nat.le_refl _) hn
  have ka : hT.objs.size ≠ h1.objs.size := Nat.ne_of_gt (Heap.lt_size (hTk _ _ ho1))
  unfold ksk_rest
  refine wpAny_bind (wpAny_rule ?_)
  rw [List.forIn_toArray]
  refine wpAny_bind (ksk_fold (fun i s' => ∃ (Hi : Hp) (kA : Array Value) (e : Nat), Inv X pins σ Hi s' ∧ Sub H Hi ∧ Hi h1.objs.size = none ∧ Hi hT.objs.size = none ∧ Hi f = none ∧ s'.heap.get? f = some (lamO X params body scope pm c' ctv) ∧ s'.heap.get? hT.objs.size = some (seqObj "list" kA e) ∧
      s'.heap.get? h1.objs.size = some (seqObj "list" #[] e1) ∧ kA.size = i ∧ ∀ (q : Nat) u, kA[q]? = some u → ∃ v B, RelV v u ∧ Rep X.w X.K Hi v (pairD (kf q)) B) acc.toList 0 _ ?start ?step ?done)
  case start =>
    exact ⟨H, #[], 0, IT.kept fun b o e => Heap.get?_push_of_some _ e, fun _ _ e => e, ha0, IT.hok.fresh (Nat.le_refl _), hfF.1, Heap.get?_push_of_some _ (hTk _ _ (hUk _ _ (k1 _ _ of1))), Heap.get?_push_size _ rfl, Heap.get?_push_of_some _ (hTk _ _ ho1), rfl, fun q u z => by simp at z⟩
  case step =>
    rintro i x s' hx ⟨Hi, kA, e, J, sb, n1, n2, n3, gf, gk, ga, hsz, hkv⟩
    simp only [Nat.zero_add] at hsz ⊢
    have hi : i < n := by
      have := (List.getElem?_eq_some_iff.mp hx).1
      rw [Array.length_toList, haccn] at this
      exact this
    obtain ⟨t, rfl⟩ := hit.2 i x (by rw [← hx, Array.getElem?_toList])
    have rx : RelV (.int (i : Nat)) (Value.int (0 + (i : Int) * 1) t) := ⟨t, by rw [Int.mul_one, Int.zero_add]⟩
    refine wpAny_bind (wpAny_attempt (wpAny_mono (lam_step (A := X.A.in1.in1) (k := k) (tb := tb) (Q := fun v H' => (∃ B, Rep X.w X.K H' v (pairD (kf i)) B) ∧ Sub Hi H') J L hN hj rx rfl ((hr.in1.in1).mono (by omega)) gf (sb c' _ hc) (hbind _) hbody (hb i hi Hi sb)) (fun u s2 h2 => ?_) fun _ _ z => z))
    obtain ⟨v, H', J', r', ⟨⟨B, rp⟩, sb'⟩, un⟩ := h2
    have gk2 := un.keep _ _ gk n2 (stk_out I (fK Hi n2)) (by simp)
    have ga2 := un.keep _ _ ga n1 (stk_out I (fA Hi n1)) (by simp)
    have gf2 := un.keep _ _ gf n3 (stk_out I hfF) (by simp)
    have m1 := un.free _ _ ga n1 (by simp)
    have m2 := un.free _ _ gk n2 (by simp)
    have m3 := un.free _ _ gf n3 (by simp)
    have sm := Heap.SameBut.update s2.heap hT.objs.size (Obj.mapSeq (·.push u))
    obtain ⟨c2, hc2⟩ : ∃ c2, (s2.heap.update hT.objs.size (Obj.mapSeq (·.push u))).get? hT.objs.size = some (seqObj "list" (kA.push u) c2) := ⟨_, get?_update_seq gk2 (·.push u)⟩
    have hkl : kA.size ≤ sizeLine := by rw [hsz, sizeLine_eq]; omega
    have hfk : f ≠ hT.objs.size := Nat.ne_of_lt (Heap.lt_size (hTk _ _ (hUk _ _ (k1 _ _ of1))))
    dsimp only
    refine wpAny_bind (listUpdate_at gk2 rfl ?_ hkl (by rw [Array.size_push]; omega))
    refine wpAny_pure ⟨rfl, H', kA.push u, c2, J'.turnedL (t' := s2.toks) (ch := [hT.objs.size]) (fun b o hb e => (sm.2 b (by simpa using hb)).trans e) (fun b hb => ?_), fun b o e => sb' b o (sb b o e), m1, m2, m3, (sm.2 f hfk).trans gf2, hc2, (sm.2 _ (Ne.symm ka)).trans ga2, by rw [Array.size_push, hsz], fun q w hq => ?_⟩
    · rw [List.mem_singleton.mp hb]; exact fK _ m2
    · rw [Array.getElem?_push] at hq
      split at hq
      · rename_i hqs
        cases hq
        rw [hqs, hsz]
        exact ⟨v, B, r', rp⟩
      · obtain ⟨v0, B0, r0, rp0⟩ := hkv q w hq
        exact ⟨v0, B0, r0, rp0.sub sb'⟩
  case done =>
    rintro s' ⟨Hi, kA, e, J, sb, n1, n2, n3, gf, gk, ga, hsz, hkv⟩
    have hsz2 : kA.size = n := by rw [hsz, Array.length_toList, haccn, Nat.zero_add]
    obtain ⟨G, hG1, hG2⟩ := restrict s'.heap (fun b => decide (b ≠ hT.objs.size))
    have hGk : G.get? hT.objs.size = none := hG2 _ (by simp)
    have kp : KeepsBut h1.objs.size G s'.heap := fun b o hb e => by
      by_cases hbk : b = hT.objs.size
      · rw [hbk, hGk] at e; cases e
      · rw [← hG1 b (by simpa using hbk)]; exact e
    have hk' : EachIs (fun v d => ∃ as, Reads s'.heap v d as) kA.toList ((List.range n).map fun i => pairP (kf i)) := by
      refine each_ix (by simp [hsz2]) fun i u d h1 h2 => ?_
      rw [List.getElem?_map] at h2
      obtain ⟨q, hq2, rfl⟩ := Option.map_eq_some_iff.mp h2
      obtain ⟨hqn, rfl⟩ : i < n ∧ i = q := by
        rw [List.getElem?_eq_some_iff] at hq2
        obtain ⟨g1, g2⟩ := hq2
        simp at g1 g2
        exact ⟨g1, g2⟩
      obtain ⟨v, B, r1, r2⟩ := hkv i u (by rw [← h1, Array.getElem?_toList])
      exact Rep.reads J (n := 2) (d := pairD (kf i)) rfl r2 r1
    have hit' : EachIs (fun v (i : Nat) => ∃ t, v = Value.int (i : Nat) t) acc.toList (List.range n) := by
      refine each_ix (by simp [haccn]) fun i u q h1 h2 => ?_
      have e2 : i = q := by
        rw [List.getElem?_eq_some_iff] at h2
        obtain ⟨g1, g2⟩ := h2
        simpa using g2
      subst e2
      obtain ⟨t, rfl⟩ := hit.2 i u (by rw [← h1, Array.getElem?_toList])
      exact ⟨t, by rw [Int.mul_one, Int.zero_add]⟩
    have hall : AllAlike ((List.range n).map fun i => pairP (kf i)) := by
      have := pairs_alike (ks := (List.range n).map kf)
      rwa [List.map_map] at this
    have hsrt : Sortable ((List.range n).map fun i => pairP (kf i)) := by
      have := pairs_sortable (ks := (List.range n).map kf)
      rwa [List.map_map] at this
    refine wpAny_bind (listItems_at gk rfl ?_)
    refine keyH_end (κ := dataKind s'.heap ((List.range n).map fun i => pairP (kf i))) (h₁ := G) kp hGk gk ga ka (SortsAt.data (s := s') hk' hall hsrt fun d hd => ?_) (by rw [Array.length_toList, haccn]; exact hsz2) hL fun h3 tk3 c k3 g3 => ?_
    · obtain ⟨q, _, rfl⟩ := List.mem_map.mp hd
      have hdp : (pairP (kf q)).depth ≤ 10 := by simp [pairP, PyData.depth, PyData.depthAll]
      have := hr.un
      show X.A.units + 1 + 1 + (pairP (kf q)).depth < _
      omega
    · have ko : KeyedOut false ((List.range n).map fun i => pairP (kf i)) acc.toList _ := ⟨s'.heap, kA.toList, hall, rfl, hk'⟩
      have eo := keyedOut_each (fun i => pairP (kf i)) ko hit'
      generalize sortVals (dataKind s'.heap ((List.range n).map fun i => pairP (kf i))) false kA.toList acc.toList = out at *
      refine ⟨_, rfl, wpAny_pure ⟨_, rfl, .ref h1.objs.size, _, ?_, rfl, hq _ _ sb n1⟩⟩
      have JG : Inv X pins σ Hi { s' with heap := G, toks := s'.toks } := J.turnedL (ch := [hT.objs.size]) (fun b o hb e => by rw [hG1 b (by simpa using hb)]; exact e) fun b hb => by rw [List.mem_singleton.mp hb]; exact fK _ n2
      refine JG.take k3 (fA Hi n1) ⟨by rw [List.length_map, List.length_mergeSort, List.length_range, sizeLine_eq]; omega, out, c, each_vals eo, g3⟩
end
end Dl
set_option maxHeartbeats 2000000
/-! DlLamS: what is made of lambdas is what it is worth. -/
namespace Dl
open PySem PySem.Spec PyProof.Rows L2 LamX PySem.W
def chkLam (N : List Str) (cs : List (String × K0)) (sc : Scope) (j : Nat) (key : E) : Expr → Bool
  | .Lambda ⟨[], [⟨p, _, _⟩], none, [], [], none, []⟩ body scope _ => (decide (p = s_ "one") || decide (p = s_ "form")) && decide (N[j]? = some p) && lamPB sc scope [p] && chkE N cs scope (fun _ => false) key body
  | _ => false
def namesEs : List Nat → Es
  | [] => .nil
  | i :: is => .nm i (namesEs is)
def isArg : Expr → Bool
  | .Starred _ _ => false | _ => true
def chkLam2 (N : List Str) (cs : List (String × K0)) (sc : Scope) (js : List Nat) (key : E) : Expr → Bool
  | .Lambda ⟨[], [⟨p, _, _⟩, ⟨q, _, _⟩], none, [], [], none, []⟩ body scope _ => decide (p = s_ "room") && decide (q = s_ "letter") && decide (js.length = 2) && decide (N[js.getD 0 0]? = some p) && decide (N[js.getD 1 0]? = some q) && lamPB sc scope [p, q] && chkE N cs scope (fun _ => false) key body
  | _ => false
def chkE2 (N : List Str) (cs : List (String × K0)) (sc : Scope) (fn : Str → Bool) : E2 → Expr → Bool
  | .minK e j key, .Call g [x] [⟨some k, l, _⟩] _ => fn lamM && chkGl sc "min" g && notStar x && decide (k = s_ "key") && chkLam N cs sc j key l && chkE N cs sc fn e x
  | .sortR b j key, .Call g [.Call r [x] [] _] [⟨some k, l, _⟩] _ => fn lamM && chkGl sc "sorted" g && chkGl sc "range" r && notStar x && decide (k = s_ "key") && chkLam N cs sc j key l && chkE N cs sc fn b x
  | .act g js key is, .Call f (l :: x :: xs) [] _ => fn lamM && chkGl sc g f && chkLam2 N cs sc js key l && chkEs N cs sc fn (namesEs is) (x :: xs) && (decide (g ≠ "@") && !isM g)
  | .iteK c a b, .IfExp x y z _ => chkE N cs sc fn c x && chkE2 N cs sc fn a y && chkE N cs sc fn b z
  | _, _ => false
theorem bind_two {an bn : Option Expr} {ap bp : Pos} {q : Str} {body : Expr} {scope : Scope} {cl : List (Str × Addr)} {pm cv ctv u v : Value} : bindArgs (PySem.W.kla_fn "<lambda>" q ⟨[], [⟨s_ "room", an, ap⟩, ⟨s_ "letter", bn, bp⟩], none, [], [], none, []⟩ body scope cl pm cv ctv) ⟨[u, v], []⟩ = pure ([s_ "room", s_ "letter"].zip [u, v]) := rfl
theorem bind_one {p : Str} {an : Option Expr} {ap : Pos} {q : Str} {body : Expr} {scope : Scope} {cl : List (Str × Addr)} {pm cv ctv u : Value} (h : (decide (p = s_ "one") || decide (p = s_ "form")) = true) : bindArgs (PySem.W.kla_fn "<lambda>" q ⟨[], [⟨p, an, ap⟩], none, [], [], none, []⟩ body scope cl pm cv ctv) ⟨[u], []⟩ = pure ([p].zip [u]) := by
  simp only [Bool.or_eq_true, decide_eq_true_eq] at h
  rcases h with rfl | rfl <;> rfl
section
variable [Tab] {w : World} {K : PySem.W.Frag} {Φ : Phi} {N : List Str} {cs : List (String × K0)} {lv : Nat} {sc : Scope} {fn : Str → Bool} {X : Cx}
theorem Good.lamC (G : Good w K Φ N cs lv sc fn X) {scope : Scope} (hk : scope.kind = .function) {A : Around} {outer : List PySem.Env} {s : Shared} {H : Hp} {f c' : Addr} (hr : Room lv (A.deeper (lamEnv X scope s.heap.objs.size f c'))) :
    @Good ⟨[], fun _ => none⟩ w K (lamP Φ) N cs lv scope (fun _ => false) (lamCx X A outer s H E0 scope f c') := by
  refine @Good.mk ⟨[], fun _ => none⟩ w K (lamP Φ) N cs lv scope (fun _ => false) (lamCx X A outer s H E0 scope f c') G.w_ G.K_ G.N_ rfl (fun _ h => by cases h) rfl G.nd hr (fun h => by cases h) hk (fun h => by cases h) G.blt G.cst (fun g sp h hat => ?_) (fun h => by cases h)
  unfold lamP at h
  cases hg : Φ g with
  | none => rw [hg] at h; cases h
  | some sp' =>
    rw [hg] at h
    simp only at h
    split at h
    · rename_i hp
      cases h
      obtain ⟨a, fd, ps, _, h2, h4, h5, h6⟩ := G.fns g sp hg hat
      exact ⟨a, fd, ps, h5 hp, h2, h4, fun _ => h5 hp, h6⟩
    · cases h
/-- the lambda in the text -/
theorem lam_of (G : Good w K Φ N cs lv sc fn X) {j : Nat} {key : E} {l : Expr} (h : chkLam N cs sc j key l = true) : ∃ (p : Str) (params : Arguments) (body : Expr) (scope : Scope) (lpos : Pos), l = .Lambda params body scope lpos ∧ X.N[j]? = some p ∧ LamP X.env.scope scope [p] ∧
    defaultsOf params X.env = ([], []) ∧ (∀ (cl : List (Str × Addr)) (pm cv ctv u : Value), bindArgs (PySem.W.kla_fn "<lambda>" (X.env.qual ++ "<lambda>") params body scope cl pm cv ctv) ⟨[u], []⟩ = pure ([p].zip [u])) ∧
    ∀ (A : Around) (outer : List PySem.Env) (s : Shared) (H : Hp) (f c' : Addr), Room lv (A.deeper (lamEnv X scope s.heap.objs.size f c')) → PE (lamCx X A outer s H E0 scope f c') body (@tE ⟨[], fun _ => none⟩ w K (wE (lamP Φ) key)) := by
  unfold chkLam at h
  split at h
  · rename_i p an ap body scope lpos
    rw [Bool.and_eq_true, Bool.and_eq_true, Bool.and_eq_true, decide_eq_true_eq] at h
    have L := lamP_by h.1.2
    rw [← G.sc_] at L
    refine ⟨p, _, body, scope, lpos, rfl, by rw [G.N_]; exact h.1.1.2, L, rfl, fun cl pm cv ctv u => bind_one h.1.1.1, fun A outer s H f c' hr => ?_⟩
    exact (@sE ⟨[], fun _ => none⟩ _ _ _ _ _ _ key _ _ _ (G.lamC L.kind hr) _ h.2).1
  · cases h
omit [Tab] in
theorem Env.stayS {R S : Addr → Prop} {H H' : Hp} {σ : L2.St} {ρ : DS} (e : Env w K R H σ ρ) (s : Stay S H H') (h : ∀ y, R y → S y) : Env w K R H' σ ρ where
  len := e.len
  at_ i d q := by
    obtain ⟨v, B, h1, h2, h3⟩ := e.at_ i d q
    exact ⟨v, B, h1, h2.stay s fun y hy => h y (h3 y hy), h3⟩
  there y hy z := by
    cases hq : H y with
    | none => exact e.there y hy hq
    | some o => rw [s y o hq fun _ => h y hy] at z; cases z
omit [Tab] in
theorem own0 {R : Addr → Prop} {H : Hp} {σ : L2.St} {st : DS} (hl : st.length = σ.length) (hs : st.length ≤ tabI) : @Own ⟨[], fun _ => none⟩ w K R H σ (st.map fun _ => none) (fun _ => []) :=
  @Own.mk ⟨[], fun _ => none⟩ w K R H σ _ _ (by simpa using hl) (fun i d h => by
    rw [List.getElem?_map] at h
    cases hh : st[i]? <;> rw [hh] at h <;> simp at h) (fun _ _ _ h => by cases h) (fun _ _ _ => rfl) (fun _ _ _ h => by cases h) (by simpa using hs) (fun _ h => by cases h) (fun _ h => by cases h) (fun _ _ h => by cases h)
omit [Tab] in
theorem argm_eq {kf : Nat → Int} : ∀ n, argBest (fun a b => decide (kf a < kf b)) n = argm kf n
  | 0 => rfl
  | n + 1 => by simp only [argBest, argm, argm_eq n, decide_eq_true_eq]
omit [Tab] in
theorem reps_at {H : Hp} : ∀ {vs : List V} {ds : List D} {B : List Addr} {i : Nat} {v : V}, Reps w K H vs ds B → immutAll ds = true → vs[i]? = some v → ∃ d, ds[i]? = some d ∧ Rep w K H v d []
  | _, _, _, i, v, .nil, _, h => by simp at h
  | _, _, _, 0, v, .cons r rs, him, h => by
    simp only [immutAll, Bool.and_eq_true] at him
    simp at h; subst h
    have e := r.immut him.1
    rw [e] at r
    exact ⟨_, rfl, r⟩
  | _, _, _, i + 1, v, .cons r rs, him, h => by
    simp only [immutAll, Bool.and_eq_true] at him
    obtain ⟨d, h1, h2⟩ := reps_at rs him.2 (i := i) (by simpa using h)
    exact ⟨d, by simpa using h1, h2⟩
theorem s_minK (G : Good w K Φ N cs lv sc fn X) {e : E} {j : Nat} {key : E} {g x l : Expr} {k : Str} {kp pos : Pos} (hlam : fn lamM = true) (hg : chkGl sc "min" g = true) (hx : notStar x = true) (hk : k = s_ "key") (hl : chkLam N cs sc j key l = true) (he : chkE N cs sc fn e x = true) :
    PE X (.Call g [x] [⟨some k, l, kp⟩] pos) (tE w K (wE2 Φ (.minK e j key))) := by
  obtain ⟨p, rfl, g1, g2, g3⟩ := gl_of G hg
  obtain ⟨pn, params, body, scope, lpos, rfl, hj, L, hdef, hbind, hbody⟩ := lam_of G hl
  obtain ⟨⟨c, P, TB, hcode, hmT, hu⟩, hr⟩ := G.lam hlam
  subst hk
  refine ⟨fun pins s σ H Q I h => ?_⟩
  obtain ⟨ρ, st, fp, R, Qd, e0, o, h, kk⟩ := h
  rw [wE2] at h
  have ha := pa_cons (sE e G he).1 pa_nil (star_each hx [] X.env)
  refine wpAny_Call_Name_kw (ld_blt I g1 (G.blt "min" (by decide)) boot_min ?_ g3 g2)
  refine callWith_kw (thn (ha.run pos pins s σ H (fun vs H1 => ∃ d st1 v fp1 B, vs = [v] ∧ (match d with
    | .lst xs => immutAll xs = true ∧ ∃ kf : Nat → Int, (∀ (i : Nat) x, xs[i]? = some x → wE (lamP Φ) key ((lockAll ρ st1).set j (some x)) (st1.map fun _ => none) fun d _ => d = .int (kf i)) ∧
      ∃ x, xs[argm kf (xs.length - 1)]? = some x ∧ Qd x st1
    | _ => False) ∧ Ext (Mine fp) H H1 (fun x => Mine fp1 x ∨ x ∈ B) ∧ Own w K R H1 σ st1 fp1 ∧ Rep w K H1 v d B ∧ B.Nodup ∧ ∀ x ∈ B, ¬ Mine fp1 x) I (tE_at e0 o h fun d st1 v H1 fp1 B q x1 o1 r nd dj => ⟨d, st1, v, fp1, B, rfl, q, x1, o1, r, nd, dj⟩)) fun us s1 ⟨vs, H1, I1, r1, d, st1, v, fp1, B, ev, q, x1, o1, rp, nd, dj⟩ => ?_) (by rw [star_each hx]; rfl) (by rw [star_each hx]; rfl)
  subst ev
  cases d <;> first | exact q.elim | skip
  rename_i xs
  obtain ⟨him, kf, hkf, y, hy, hQ⟩ := q
  cases rp with
  | @lst a vs' _ B' hla rs =>
    have e1 := e0.keep' o x1
    have haM : ¬ Mine fp1 a := dj a List.mem_cons_self
    have haF : a ∉ fp1 tabI := fun z => haM ⟨tabI, z⟩
    have haR : ¬ R a := not_R e0 o x1 (T := fun x => x ∈ a :: B') List.mem_cons_self
    show wpAny _ _ (evalAll ((do let v ← eval (.Lambda params body scope lpos) X.env; standAt pos; pure v) :: [])) _ _ s1
    refine wpAny_evalAll_cons (wpAny_bind (lam_make3 (F := fp1 tabI) I1 TB hcode hmT hu o1.tabc o1.tabs hdef (L.has I1.ok) fun f c' pm ctv H2 F' s2 I2 ext tc ts hf hfn hfr hco hcF => wpAny_bind (wpAny_standAt (wpAny_pure ?_))))
    refine wpAny_evalAll_nil ?_
    show wpAny _ _ (call (.builtin "min") us [(Str.ofString "key", .ref f)]) _ _ _
    rw [Vals.ref1 r1]
    have hla2 : H2 a = some (.lst vs') := ext.keep a _ hla haF
    have hpos : 0 < vs'.length := by
      have hlen := rs.length
      have := (List.getElem?_eq_some_iff.mp hy).1
      omega
    have stH : ∀ Hi, SubBut a H2 Hi → Stay (fun y => y ∉ fp1 tabI ∧ y ≠ a) H1 Hi := fun Hi sb y ob e c => by
      have hyF : y ∉ fp1 tabI := fun z => (c (by have := o1.tabc y z; rw [e] at this; exact this)).1 z
      by_cases hya : y = a
      · rw [hya, hla] at e
        cases e
        exact absurd hya (c trivial).2
      · exact sb y ob hya (ext.keep y ob e hyF)
    have hR' : ∀ y, (R y ∨ Slot_ fp1 y) → y ∉ fp1 tabI ∧ y ≠ a := fun y hy => by
      rcases hy with hy | ⟨i, hi, hy⟩
      · exact ⟨o1.out y tabI hy, fun z => haR (z ▸ hy)⟩
      · exact ⟨fun z => hi (o1.dis i tabI y hy z), fun z => haM ⟨i, z ▸ hy⟩⟩
    refine minK_run (k := lv) (kf := kf) I2 L (by rw [G.N_]; exact G.nd) hj (hr.mono (by omega)) hla2 hpos hf (I1.fpOk hfr hfn) hco (fun u => hbind _ _ _ _ u) hbody (fun i v hv Hi sb => ?_) (fun v Hn hv sn => ?_)
    · obtain ⟨d, hd, rd⟩ := reps_at rs him hv
      have st1' := stH Hi sb
      have rd' : Rep w K Hi v d [] := rd.stay st1' fun _ z => nomatch z
      have eL := ((e1.lockAll o1).stayS st1' hR').bind (i := j) rd' fun _ z => nomatch z
      refine @tE_at ⟨[], fun _ => none⟩ _ _ _ _ _ _ _ _ _ _ _ eL (own0 (by rw [setVs_len]; exact o1.len) o1.short) (hkf i d hd) fun d' st' v' H' fp' B2 q' x' o' r' nd' dj' => ?_
      subst q'
      cases r'
      exact ⟨rfl, fun b ob e => x'.keep b ob e fun ⟨_, z⟩ => nomatch z⟩
    · rw [argm_eq, rs.length] at hv
      obtain ⟨d, hd, rd⟩ := reps_at rs him hv
      rw [hy] at hd
      cases hd
      obtain ⟨o2, _, x2⟩ := o1.retab (B := []) e1 (ext.mono fun x hx => hx.elim id fun z => nomatch z) (fun _ z => nomatch z) tc ts
      have rd' : Rep w K Hn v y [] := rd.stay (stH Hn fun b ob _ e => sn b ob e) fun _ z => nomatch z
      exact kk y st1 v Hn _ [] hQ (((ext1' x1).trans x2).trans (Ext.sub sn)) (o2.sub sn) rd' List.nodup_nil fun _ z => nomatch z
omit [Tab] in
theorem dataLe_pair {kf : Nat → Int × Int} {a b : Nat} : dataLe false (fun i => pairP (kf i)) a b = pleB (kf a) (kf b) := by
  unfold dataLe sortLe pleB pairP
  simp only [cond_false]
  generalize kf a = x
  generalize kf b = y
  obtain ⟨x1, x2⟩ := x
  obtain ⟨y1, y2⟩ := y
  have h : ∀ u v : Int, itemLt (.inl u) (.inl v) = decide (u < v) := fun _ _ => rfl
  show (!PyProof.Rows.lexLt itemOrd [.inl 1, .inl y1, .inl 1, .inl y2, .inl 0] [.inl 1, .inl x1, .inl 1, .inl x2, .inl 0]) = _
  simp only [PyProof.Rows.lexLt, h]
  rw [Bool.eq_iff_iff]
  simp
  rcases Int.lt_trichotomy x1 y1 with h1 | h1 | h1
  · simp [h1, Int.le_of_lt h1]
  · subst h1; simp
  · have h2 : ¬ x1 < y1 := by omega
    have h3 : ¬ x1 = y1 := by omega
    have h4 : ¬ x1 ≤ y1 := by omega
    simp [h2, h3, h4]
omit [Tab] in
theorem reps_nat {H : Hp} : ∀ is : List Nat, Reps w K H (is.map fun (i : Nat) => V.int (i : Nat)) (is.map fun (i : Nat) => D.int (i : Int)) []
  | [] => .nil
  | i :: is => .cons (A := []) (B := []) (.int _) (reps_nat is)
theorem s_sortR (G : Good w K Φ N cs lv sc fn X) {b : E} {j : Nat} {key : E} {g r x l : Expr} {k : Str} {kp pos pos2 : Pos} (hlam : fn lamM = true) (hg : chkGl sc "sorted" g = true) (hrg : chkGl sc "range" r = true) (hx : notStar x = true) (hk : k = s_ "key") (hl : chkLam N cs sc j key l = true) (he : chkE N cs sc fn b x = true) :
    PE X (.Call g [.Call r [x] [] pos2] [⟨some k, l, kp⟩] pos) (tE w K (wE2 Φ (.sortR b j key))) := by
  obtain ⟨p, rfl, g1, g2, g3⟩ := gl_of G hg
  obtain ⟨p2, rfl, q1, q2, q3⟩ := gl_of G hrg
  obtain ⟨pn, params, body, scope, lpos, rfl, hj, L, hdef, hbind, hbody⟩ := lam_of G hl
  obtain ⟨⟨c, P, TB, hcode, hmT, hu⟩, hr⟩ := G.lam hlam
  subst hk
  refine ⟨fun pins s σ H Q I h => ?_⟩
  obtain ⟨ρ, st, fp, R, Qd, e0, o, h, kk⟩ := h
  rw [wE2] at h
  have hb := pa_cons (sE b G he).1 pa_nil (star_each hx [] X.env)
  have hrn : PE X (.Call (.Name (s_ "range") p2) [x] [] pos2) _ := pe_callTy (T := "range") cr_range1 q1 (G.blt "range" (by decide)) boot_range hb q3 q2 (star_each hx [] X.env) rfl
  have ha := pa_cons hrn pa_nil rfl
  refine wpAny_Call_Name_kw (ld_blt I g1 (G.blt "sorted" (by decide)) boot_sorted ?_ g3 g2)
  refine callWith_kw (thn (ha.run pos pins s σ H (fun vs H1 => ∃ (d : D) (st1 : DS) (q : Addr) (H0 : Hp) (fp1 : Fp) (n : Int), vs = [.ref q] ∧ d = .int n ∧ H1 = upd H0 q (.rng 0 n) ∧ H0 q = none ∧ (smallI n = true ∧ ∃ kf : Nat → Int × Int, (∀ i : Nat, i < n.toNat → wE (lamP Φ) key ((lockAll ρ st1).set j (some (.int (i : Int)))) (st1.map fun _ => none) fun d _ => d = pairD (kf i)) ∧
      Qd (.lst (((List.range n.toNat).mergeSort fun a b => pleB (kf a) (kf b)).map fun (i : Nat) => D.int (i : Int))) st1) ∧ Ext (Mine fp) H H0 (Mine fp1) ∧ Own w K R H0 σ st1 fp1) I ?_) fun us s1 ⟨vs, H1, I1, r1, d, st1, rq, H0, fp1, n, ev, ed, eH, hq0, q, x1, o1⟩ => ?_) rfl rfl
  · refine tE_at e0 o h fun d st1 v H1 fp1 B q x1 o1 r nd dj => ?_
    cases d <;> first | exact q.elim | skip
    cases r
    exact ⟨_, rfl, fun a ha => ⟨_, st1, a, H1, fp1, _, rfl, rfl, rfl, ha, q, ext1' x1, o1⟩⟩
  · subst ev eH
    obtain ⟨hsm, kf, hkf, hQ⟩ := q
    have e1 := e0.keep' o x1
    have sub1 : Sub H0 (upd H0 rq (.rng 0 n)) := Sub.new hq0
    have o1' := o1.sub sub1
    have hqF : rq ∉ fp1 tabI := fun z => o1.there ⟨tabI, z⟩ hq0
    show wpAny _ _ (evalAll ((do let v ← eval (.Lambda params body scope lpos) X.env; standAt pos; pure v) :: [])) _ _ s1
    refine wpAny_evalAll_cons (wpAny_bind (lam_make3 (F := fp1 tabI) I1 TB hcode hmT hu o1'.tabc o1'.tabs hdef (L.has I1.ok) fun f c' pm ctv H2 F' s2 I2 ext tc ts hf hfn hfr hco hcF => wpAny_bind (wpAny_standAt (wpAny_pure ?_))))
    refine wpAny_evalAll_nil ?_
    show wpAny _ _ (call (.builtin "sorted") us [(Str.ofString "key", .ref f)]) _ _ _
    rw [Vals.ref1 r1]
    have hg2 : H2 rq = some (.rng 0 n) := ext.keep rq _ upd_same hqF
    have stH : ∀ Hi, Sub H2 Hi → Stay (fun y => y ∉ fp1 tabI) H0 Hi := fun Hi sb y ob e c => by
      have hyF : y ∉ fp1 tabI := fun z => c (by have := o1.tabc y z; rw [e] at this; exact this) z
      exact sb y ob (ext.keep y ob (sub1 y ob e) hyF)
    have hR' : ∀ y, (R y ∨ Slot_ fp1 y) → y ∉ fp1 tabI := fun y hy => by
      rcases hy with hy | ⟨i, hi, hy⟩
      · exact o1.out y tabI hy
      · exact fun z => hi (o1.dis i tabI y hy z)
    have hsm' : -1000000 ≤ n ∧ n ≤ 1000000 := by simpa [smallI] using hsm
    refine sortK_run (k := lv) (kf := kf) (n := n.toNat) I2 L (by rw [G.N_]; exact G.nd) hj (hr.mono (by omega)) hg2 hsm'.1 hsm'.2 rfl hf (I1.fpOk hfr hfn) hco (fun u => hbind _ _ _ _ u) hbody (fun i hi Hi sb => ?_) (fun q Hn sn hqn => ?_)
    · have st1' := stH Hi sb
      have eL := ((e1.lockAll o1).stayS st1' hR').bind (i := j) (.int (i : Int)) fun _ z => nomatch z
      refine @tE_at ⟨[], fun _ => none⟩ _ _ _ _ _ _ _ _ _ _ _ eL (own0 (by rw [setVs_len]; exact o1.len) o1.short) (hkf i hi) fun d' st' v' H' fp' B2 q' x' o' r' nd' dj' => ?_
      subst q'
      refine ⟨⟨B2, ?_⟩, fun b ob e => x'.keep b ob e fun ⟨_, z⟩ => nomatch z⟩
      rw [G.w_, G.K_]
      exact r'
    · obtain ⟨o2, _, x2⟩ := o1'.retab (B := []) (e1.sub sub1) (ext.mono fun x hx => hx.elim id fun z => nomatch z) (fun _ z => nomatch z) tc ts
      have sq : Sub Hn (upd Hn q (.lst (((List.range n.toNat).mergeSort (dataLe false fun i => pairP (kf i))).map fun (i : Nat) => V.int (i : Nat)))) := Sub.new hqn
      have ele : (dataLe false fun i => pairP (kf i)) = fun a b => pleB (kf a) (kf b) := by
        funext a b; exact dataLe_pair
      rw [ele] at sq ⊢
      have nq : ∀ x, Mine (setT fp1 F') x → x ≠ q := fun x hx z => by
        have := o2.there hx
        rw [z] at this
        cases h2 : H2 q with
        | none => exact this h2
        | some ob => rw [sn q ob h2] at hqn; cases hqn
      have xall : Ext (Mine fp) H Hn (Mine (setT fp1 F')) := ((x1.trans (Ext.sub sub1)).trans (ext1' x2)).trans (Ext.sub sn)
      refine kk _ st1 _ _ (setT fp1 F') [q] hQ ⟨fun y ob e n => sq y ob (xall.keep y ob e n), fun y hy => ?_⟩ ((o2.sub sn).sub sq) (.lst upd_same ?_) (by simp) fun y hy z => nq y z (by simpa using hy)
      · rcases hy with hy | hy
        · exact xall.from_ y hy
        · rw [List.mem_singleton.mp hy]
          by_cases hm : Mine fp q
          · exact .inl hm
          · right
            cases hH : H q with
            | none => rfl
            | some ob => rw [xall.keep q ob hH hm] at hqn; cases hqn
      · exact reps_nat _
/-- the lambda of two -/
theorem lam_of2 (G : Good w K Φ N cs lv sc fn X) {js : List Nat} {key : E} {l : Expr} (h : chkLam2 N cs sc js key l = true) : ∃ (params : Arguments) (body : Expr) (scope : Scope) (lpos : Pos), l = .Lambda params body scope lpos ∧ js.length = 2 ∧ ParS X.N [s_ "room", s_ "letter"] js ∧ LamP X.env.scope scope [s_ "room", s_ "letter"] ∧
    defaultsOf params X.env = ([], []) ∧ (∀ (q : Str) (cl : List (Str × Addr)) (pm cv ctv u v : Value), bindArgs (PySem.W.kla_fn "<lambda>" q params body scope cl pm cv ctv) ⟨[u, v], []⟩ = pure ([s_ "room", s_ "letter"].zip [u, v])) ∧
    ∀ (A : Around) (outer : List PySem.Env) (s : Shared) (H : Hp) (f c' : Addr), Room lv (A.deeper (lamEnv X scope s.heap.objs.size f c')) → PE (lamCx X A outer s H E0 scope f c') body (@tE ⟨[], fun _ => none⟩ w K (wE (lamP Φ) key)) := by
  unfold chkLam2 at h
  split at h
  · rename_i p an ap q bn bp body scope lpos
    simp only [Bool.and_eq_true, decide_eq_true_eq] at h
    obtain ⟨⟨⟨⟨⟨⟨rfl, rfl⟩, hl⟩, h1⟩, h2⟩, h3⟩, h4⟩ := h
    have L := lamP_by h3
    rw [← G.sc_] at L
    match js, hl with
    | [j1, j2], _ =>
      simp only [List.getD_cons_zero, List.getD_cons_succ] at h1 h2
      have hne : j1 ≠ j2 := fun z => by
        subst z
        rw [h1] at h2
        exact absurd (Option.some.inj h2) (by decide)
      refine ⟨_, body, scope, lpos, rfl, rfl, ⟨by decide, by simp [hne], rfl, fun k j hk => ?_⟩, L, rfl, fun q cl pm cv ctv u v => bind_two, fun A outer s H f c' hr => ?_⟩
      · rw [G.N_]
        match k, hk with
        | 0, hk => simp at hk; subst hk; exact ⟨_, rfl, h1⟩
        | 1, hk => simp at hk; subst hk; exact ⟨_, rfl, h2⟩
        | k + 2, hk => simp at hk
      · exact (@sE ⟨[], fun _ => none⟩ _ _ _ _ _ _ key _ _ _ (G.lamC L.kind hr) _ h4).1
  · cases h
theorem env_setAll {R : Addr → Prop} {H : Hp} : ∀ {js : List Nat} {vs : List V} {ds : List D} {B : List Addr} {σ : L2.St} {ρ : DS}, Env w K R H σ ρ → Reps w K H vs ds B → immutAll ds = true → js.length = vs.length → Env w K R H (setVs σ js vs) (setAll ρ js ds)
  | [], _, _, _, σ, ρ, e, _, _, _ => by simpa [setVs, setAll] using e
  | j :: js, [], _, _, _, _, _, _, _, h => by simp at h
  | j :: js, v :: vs, _, _, σ, ρ, e, .cons (d := d) (ds := ds) r rs, him, h => by
    simp only [immutAll, Bool.and_eq_true] at him
    have e0 := r.immut him.1
    rw [e0] at r
    have := env_setAll (js := js) (e.bind (i := j) r fun _ z => nomatch z) rs him.2 (by simpa using h)
    exact this
theorem names_ok {R : Addr → Prop} {H : Hp} {σ : L2.St} {ρ st : DS} {fp : Fp} (e : Env w K R H σ ρ) (o : Own w K R H σ st fp) : ∀ {is : List Nat} {ds : List D} {Qv : List V → Hp → Prop}, peeks ρ st is = some ds → (∀ vs, BRepsA w K H (fp tabI) vs ds → Qv vs H) → seqT (trs w K Φ (namesEs is)) σ H Qv
  | [], ds, Qv, h, q => by
    simp only [peeks, Option.some.injEq] at h
    subst h
    exact q [] .nil
  | i :: is, ds, Qv, h, q => by
    simp only [peeks] at h
    obtain ⟨d, h1, h⟩ := Option.bind_eq_some_iff.mp h
    obtain ⟨ds', h2, rfl⟩ := Option.map_eq_some_iff.mp h
    obtain ⟨v, B, hv, r, hB⟩ := peek_of o e h1
    refine ⟨v, hv, names_ok e o h2 fun vs br => q (v :: vs) (.cons ⟨B, r, fun x hx z => ?_⟩ br)⟩
    rcases hB with ⟨hs, rfl⟩ | hB
    · exact o.ne hs (o.dis i tabI x hx z)
    · exact o.out x tabI (hB x hx) z
omit [Tab] in
theorem reps_args {H : Hp} : ∀ {vs : List V} {ds : List D} {bs : List (List Addr)}, vs.length = ds.length → bs.length = ds.length → (∀ (j : Nat) (v : V) (d : D) (b : List Addr), vs[j]? = some v → ds[j]? = some d → bs[j]? = some b → Rep w K H v d b) → ∃ B, Reps w K H vs ds B
  | [], [], _, _, _, _ => ⟨[], .nil⟩
  | v :: vs, d :: ds, b :: bs, h1, h2, h => by
    obtain ⟨B, r⟩ := reps_args (vs := vs) (ds := ds) (bs := bs) (by simpa using h1) (by simpa using h2) fun j v d b q1 q2 q3 => h (j + 1) v d b (by simpa using q1) (by simpa using q2) (by simpa using q3)
    exact ⟨b ++ B, .cons (h 0 v d b rfl rfl rfl) r⟩
  | [], _ :: _, _, h, _, _ => by simp at h
  | _ :: _, [], _, h, _, _ => by simp at h
  | _ :: _, _ :: _, [], _, h, _ => by simp at h
theorem s_act (G : Good w K Φ N cs lv sc fn X) {g : String} {js : List Nat} {key : E} {is : List Nat} {f l x : Expr} {xs : List Expr} {pos : Pos} (hlam : fn lamM = true) (hg : chkGl sc g f = true) (hl : chkLam2 N cs sc js key l = true) (he : chkEs N cs sc fn (namesEs is) (x :: xs) = true) (hat : g ≠ "@" ∧ (!isM g) = true) :
    PE X (.Call f (l :: x :: xs) [] pos) (tE w K (wE2 Φ (.act g js key is))) := by
  have hw0 := G.w_
  have hK0 := G.K_
  subst hw0 hK0
  obtain ⟨p, rfl, g1, g2, g3⟩ := gl_of G hg
  obtain ⟨params, body, scope, lpos, rfl, hjl, PS, L, hdef, hbind, hbody⟩ := lam_of2 G hl
  obtain ⟨⟨c, P, TB, hcode, hmT, hu⟩, hr⟩ := G.lam hlam
  refine ⟨fun pins s σ H Q I h => ?_⟩
  obtain ⟨ρ, st, fp, R, Qd, e0, o, h, kk⟩ := h
  rw [wE2] at h
  cases hf : Φ g with
  | none => simp only [hf] at h
  | some sp =>
    simp only [hf] at h
    cases hho : sp.ho with
    | none => simp only [hho] at h
    | some nh =>
      obtain ⟨n, hh⟩ := nh
      simp only [hho] at h
      obtain ⟨hn, h⟩ := h
      cases hpk : peeks ρ st is with
      | none => simp only [hpk] at h
      | some ds =>
        simp only [hpk] at h
        obtain ⟨hio, step, hstep, hrun⟩ := h
        obtain ⟨a, fd, ps, _, hent, hb, _, HO⟩ := G.fns g sp hf hat.1
        obtain ⟨hm, hk⟩ := hent.1 (by simpa using hat.2)
        have HO := HO n hh hho
        have hA := sAs (namesEs is) G he
        have hs := es_stars he
        refine wpAny_Call_Name_kw (ld_glob I g1 hm ?_ g2)
        refine PySem.W.callWith_K (h₀ := X.base) I.ok.mod.kin hk ?_ rfl (no_stars hs _ _)
        show wpAny _ _ (spliced ((false, eval (.Lambda params body scope lpos) X.env) :: backTo pos (starEach (x :: xs) X.env))) _ _ s
        refine Calls.spliced_cons (lam_make3 (F := fp tabI) I TB hcode hmT hu o.tabc o.tabs hdef (L.has I.ok) fun f c' pm ctv H2 F' s2 I2 ext tc ts hfo hfn hfr hco hcF => ?_)
        obtain ⟨o2, _, x2⟩ := o.retab (B := []) e0 (ext.mono fun x hx => hx.elim id fun z => nomatch z) (fun _ z => nomatch z) tc ts
        have e2 := e0.keep' o (ext1' x2)
        obtain ⟨f0, f1, f2, f3, f4, f5⟩ := I.fpOk (H' := H2) hfr hfn
        have I2p : Inv X ((f, PySem.W.kla_obj "<lambda>" (X.env.qual ++ "<lambda>") params body scope (cloFrom X.env.cells scope.names []) pm c' ctv) :: pins) σ H2 s2 := I2.pins_of fun q hq => by
          rcases List.mem_cons.mp hq with rfl | hq
          · exact ⟨hfo, f0, f1, f2, fun v z => by cases z⟩
          · exact I2.pin q (List.mem_append_right _ hq)
        refine thn ((pa_all hs hA).run pos _ s2 σ H2 (fun vs H3 => H3 = H2 ∧ BRepsA X.w X.K H2 (setT fp F' tabI) vs ds) I2p (names_ok e2 o2 hpk fun vs br => ⟨rfl, br⟩)) fun us s3 ⟨vs, H3, I3, r3, eH, br⟩ => ⟨I3.kIn, ?_⟩
        subst eH
        have hf3 := (I3.pin _ (List.mem_append_right _ List.mem_cons_self)).1
        have hfl := (I3.pin _ (List.mem_append_right _ List.mem_cons_self)).2.2.1
        have hffs := (I3.pin _ (List.mem_append_right _ List.mem_cons_self)).2.2.2.1
        have hfst : f ∉ frs X.stack := fun z => by
          rcases List.mem_cons.mp (I3.stkSub f z) with z | z
          · exact hfl z
          · exact hffs z
        have hnN : (by exact X.N.Nodup : Prop) := by rw [G.N_]; exact G.nd
        have lvl : vs.length = ds.length := Paired.length br
        -- the lambda can be called
        have LOk : LamOk X.prog X.w X.K X.mg X.base X.stack s3 H3 (lv + 1) f n step := by
          refine ⟨fun s4 HZ un => ⟨_, _, _, _, un.keep f _ hf3 f0 hfst (fun z => nomatch z)⟩, fun A' outer' s4 HZ us4 vs4 Q4 hr4 e04 nl4 un4 sub4 rv4 sp4 => ?_⟩
          obtain ⟨ds4, bs4, Qd4, F4, ar4, hrun4, q4⟩ := sp4
          obtain ⟨l4, im4, w4⟩ := hstep ds4 Qd4 hrun4
          have lv4 := @Args.lv ⟨[], fun _ => none⟩ _ _ _ _ _ _ _ _ ar4
          have ld4 := @Args.ld ⟨[], fun _ => none⟩ _ _ _ _ _ _ _ _ ar4
          have lb4 := @Args.lb ⟨[], fun _ => none⟩ _ _ _ _ _ _ _ _ ar4
          have rp4 := @Args.rep ⟨[], fun _ => none⟩ _ _ _ _ _ _ _ _ ar4
          have tc4 := @Args.tabc ⟨[], fun _ => none⟩ _ _ _ _ _ _ _ _ ar4
          have hn2 : n = 2 := hn.symm.trans hjl
          simp only [List.length_replicate] at lv4 ld4 lb4
          obtain ⟨B4, rs4⟩ := reps_args (by omega) (by omega) rp4
          have e4 : Env X.w X.K (fun x => R x ∨ Slot_ (setT fp F') x) HZ σ (lockAll ρ st) := (e2.lockAll o2).sub sub4
          have e5 := env_setAll (js := js) e4 rs4 im4 (by omega)
          obtain ⟨v1, v2, rfl⟩ : ∃ v1 v2, vs4 = [v1, v2] := by
            match vs4, lv4 with
            | [a, b], _ => exact ⟨a, b, rfl⟩
            | [], h => simp at h; omega
            | [_], h => simp at h; omega
            | _ :: _ :: _ :: _, h => simp at h; omega
          have nio : ∀ {j : Nat}, (List.replicate n false)[j]? ≠ some true := fun {j} z => by
            rw [List.getElem?_replicate] at z
            split at z <;> cases z
          have nset : ∀ {bs : List (List Addr)} {y : Addr}, ¬ IoSet (List.replicate n false) bs y := fun {bs y} ⟨j, b, z, _⟩ => nio z
          have of4 : s4.heap.get? f = _ := un4.keep f _ hf3 f0 hfst (fun z => nomatch z)
          have hc4 : HZ c' = some (CodeO c' (X.env.qual ++ "<lambda>")) := sub4 c' _ hco
          cases rv4 with
          | cons ra rv4 =>
          cases rv4 with
          | cons rb rv4 =>
          cases rv4
          rename_i u1 u2
          refine lam_call (outer := outer') (ps := [s_ "room", s_ "letter"]) (js := js) (vs := [v1, v2]) (us := [u1, u2]) (k := lv) (tb := @tE ⟨[], fun _ => none⟩ X.w X.K (wE (lamP Φ) key)) I3 L hnN PS (.cons ra (.cons rb .nil)) rfl e04 nl4 hr4 un4 of4 hc4 (hbind _ _ _ _ _ _ _) (fun hr' => hbody A' outer' s4 HZ f c' hr') ?_
          refine @tE_at ⟨[], fun _ => none⟩ _ _ _ _ _ _ _ _ _ _ _ e5 (own0 (by rw [setVs_len]; exact o.len) o.short) w4 fun d' st' v' H' fp' B2 q' x' o' r' nd' dj' => ?_
          have sb : Sub HZ H' := fun y u hy => x'.keep y u hy fun ⟨_, z⟩ => nomatch z
          have nw : ∀ y ∈ B2, HZ y = none := fun y hy => (x'.from_ y (.inr hy)).elim (fun ⟨_, z⟩ => nomatch z) id
          refine q4 d' ds4 v' H' bs4 B2 F4 q' (@Outs.mk ⟨[], fun _ => none⟩ _ _ _ _ _ _ _ _ _ _ _ _ _ _ (by rw [lb4]; simp) (by rw [ld4]; simp) ⟨fun y u hy _ => sb y u hy, fun y hy => ?_⟩ (fun j u d b z => absurd z nio) (fun j k b c y _ z => absurd z nio) r' nd' (fun y hy z => ?_) (fun y _ z => nset z) (fun y hy => ?_) (fun p hp => nomatch hp))
          · rcases hy with hy | hy
            · exact .inl hy
            · exact .inr (nw y hy)
          · rcases z with z | z
            · exact nset z
            · have := tc4 y z; rw [nw y hy] at this; exact this
          · have := tc4 y hy
            cases hz : HZ y with
            | none => rw [hz] at this; exact this.elim
            | some u => rw [sb y u hz]; rw [hz] at this; exact this
        have nio : sp.io.any id = false := by
          rw [hio, List.any_eq_false]
          intro b hb
          rw [(List.mem_replicate.mp hb).2]; simp
        have br0 : BRepsA X.w X.K H3 [] (.ref f :: vs) (.fnc f :: ds) := .cons ⟨[], .fnc f, fun _ z => nomatch z⟩ (L2.Paired.mapP br fun v d ⟨B, h1, _⟩ => ⟨B, h1, fun _ _ z => nomatch z⟩)
        obtain ⟨bs, ar⟩ := @any_args ⟨[], fun _ => none⟩ _ _ _ sp.io _ _ [] br0 (by rw [hio]; simp) nio (fun _ z => nomatch z) (fun _ z => nomatch z)
        have rc := HO (lv + 1) X.A X.stack s3 H3 (.ref f :: us) vs Q f step (hr.mono (by omega)) I3.env0 (.cons rfl r3) LOk ⟨.fnc f :: ds, bs, _, [], ar, hrun f, fun r ds' v H' bs' B F2 qd ou => by
          have oe := @Outs.ext ⟨[], fun _ => none⟩ _ _ _ _ _ _ _ _ _ _ _ _ _ _ ou
          have oret := @Outs.ret ⟨[], fun _ => none⟩ _ _ _ _ _ _ _ _ _ _ _ _ _ _ ou
          have ond := @Outs.nd ⟨[], fun _ => none⟩ _ _ _ _ _ _ _ _ _ _ _ _ _ _ ou
          have hsub : Sub H3 H' := fun x u hx => oe.keep x u hx fun z => z.elim (no_io nio) (fun z => nomatch z)
          have hB : ∀ x ∈ B, H3 x = none := fun x hx => (oe.from_ x (.inr hx)).elim (fun z => z.elim (fun z => (no_io nio z).elim) (fun z => nomatch z)) id
          exact kk r st v H' (setT fp F') B qd.2 ((ext1' x2).trans (Ext.subNew hsub fun x hx => hx.imp id (hB x))) (o2.sub hsub) oret ond fun x hx m => o2.there m (hB x hx)⟩
        refine wpAny_call (codeAny_mono rc fun r s4 hq => ?_)
        cases r with
        | error e => exact (show False from hq).elim
        | ok fl =>
          cases fl with
          | ret u =>
            obtain ⟨v, H', I4, r4, q4⟩ := I3.after hq
            exact ⟨v, H', I4.pins_of fun q hq => I4.pin q (List.mem_append_right _ (List.mem_cons_of_mem _ hq)), r4, q4⟩
          | next => exact False.elim hq
          | brk => exact False.elim hq
          | cont => exact False.elim hq
theorem imp_iteK {c b : E} {a : E2} {σ : L2.St} {H : Hp} {Q : VK} (h : tE w K (wE2 Φ (.iteK c a b)) σ H Q) : tIf (tTs w K (wE Φ c)) (tE w K (wE2 Φ a)) (tE w K (wE Φ b)) σ H Q := by
  obtain ⟨ρ, st, fp, R, Qd, e, o, h, k⟩ := h
  rw [wE2] at h
  refine ⟨ρ, st, fp, R, _, e, o, h, fun d st1 H1 fp1 q x1 o1 => ?_⟩
  have e1 := e.keep' o x1
  cases d <;> first | exact q.elim | skip
  rename_i bb
  refine ⟨bb, rfl, ?_⟩
  cases bb with
  | true =>
    rw [if_pos rfl]
    exact tE_at e1 o1 q fun d2 st2 v2 H2 fp2 B2 q2 x2 o2 r2 nd2 dj2 => k d2 st2 v2 H2 fp2 B2 q2 (x1.trans x2) o2 r2 nd2 dj2
  | false =>
    rw [if_neg (by decide)]
    exact tE_at e1 o1 q fun d2 st2 v2 H2 fp2 B2 q2 x2 o2 r2 nd2 dj2 => k d2 st2 v2 H2 fp2 B2 q2 (x1.trans x2) o2 r2 nd2 dj2
theorem sE2 (G : Good w K Φ N cs lv sc fn X) : ∀ (e : E2) {ex : Expr}, chkE2 N cs sc fn e ex = true → PE X ex (tE w K (wE2 Φ e))
  | .minK e j key, ex, h => by
    unfold chkE2 at h
    split at h
    · rename_i h0; cases h0
      simp only [Bool.and_eq_true, decide_eq_true_eq] at h
      obtain ⟨⟨⟨⟨⟨h1, h2⟩, h3⟩, h4⟩, h5⟩, h6⟩ := h
      exact s_minK G h1 h2 h3 h4 h5 h6
    all_goals first | (rename_i h0; cases h0; done) | (cases h; done)
  | .sortR b j key, ex, h => by
    unfold chkE2 at h
    split at h
    rotate_left
    · rename_i h0; cases h0
      simp only [Bool.and_eq_true, decide_eq_true_eq] at h
      obtain ⟨⟨⟨⟨⟨⟨h1, h2⟩, h2'⟩, h3⟩, h4⟩, h5⟩, h6⟩ := h
      exact s_sortR G h1 h2 h2' h3 h4 h5 h6
    all_goals first | (rename_i h0; cases h0; done) | (cases h; done)
  | .act g js key is, ex, h => by
    unfold chkE2 at h
    split at h
    rotate_left 2
    · rename_i h0; cases h0
      simp only [Bool.and_eq_true, decide_eq_true_eq] at h
      obtain ⟨⟨⟨⟨h1, h2⟩, h3⟩, h4⟩, h5⟩ := h
      exact s_act G h1 h2 h3 h4 h5
    all_goals first | (rename_i h0; cases h0; done) | (cases h; done)
  | .iteK c a b, ex, h => by
    cases ex with
    | IfExp x y z pos =>
      have h : (chkE N cs sc fn c x && chkE2 N cs sc fn a y && chkE N cs sc fn b z) = true := by simpa only [chkE2] using h
      simp only [Bool.and_eq_true] at h
      exact PE.imp (pe_ifExp (sE c G h.1.1).2.1 (sE2 G a h.1.2) (sE b G h.2).1) fun σ H Q q => imp_iteK q
    | _ => simp only [chkE2, Bool.false_eq_true] at h
end
end Dl
/-! DlBody: whether a text's statements are those of the small language; they are what they are worth. -/
namespace Dl
open PySem PySem.Spec PyProof.Rows L2
variable [Tab]
def noComp : Expr → Bool
  | .ListComp _ _ _ _ => false | .SetComp _ _ _ _ => false | .DictComp _ _ _ _ _ => false | _ => true
def noSDComp : Expr → Bool
  | .SetComp _ _ _ _ => false | .DictComp _ _ _ _ _ => false | _ => true
def nmLoc (sc : Scope) (line : Nat) : Expr → Option Str
  | .Name id pos => if sc.names.lookup id == some .local && pos.line == line then some id else none
  | _ => none
def swpLine (ts : List Expr) : Nat := (ts.head?.map (·.pos.line)).getD 0
def isStar : Expr → Bool
  | .Starred _ _ => true | _ => false
def swpLen (ts vs : List Expr) : Bool := !(ts.length == 2 || ts.length == 3) || vs.length != ts.length
def swpNames (sc : Scope) (ts : List Expr) : Bool := (ts.filterMap (nmLoc sc (swpLine ts))).length != ts.length || (ts.filterMap (nmLoc sc (swpLine ts))).eraseDups.length != (ts.filterMap (nmLoc sc (swpLine ts))).length
def swpSome (sc : Scope) (ts vs : List Expr) : Bool := !swpLen ts vs && !(vs.any isStar) && !swpNames sc ts && !(vs.all (foldedForSure 8)) && !(vs.all (constantsAlone 8))
def swpNone (sc : Scope) (ts vs : List Expr) : Bool := swpLen ts vs || vs.any isStar || swpNames sc ts || vs.all (foldedForSure 8)
theorem blk_fn {env : PySem.Env} (hk : env.scope.kind = .function) : env.blockKind = .function := by
  unfold Env.blockKind
  rw [hk]; rfl
theorem swp_some {env : PySem.Env} (hk : env.scope.kind = .function) {ts vs : List Expr} {k k2 : Nat} {p p2 : Pos} (h : swpSome env.scope ts vs = true) :
    swappedStores [.Tuple ts k p] (.Tuple vs k2 p2) env = pure (some (ts.filterMap (nmLoc env.scope (swpLine ts)))) := by
  have hb := blk_fn hk
  simp only [swpSome, Bool.and_eq_true, Bool.not_eq_true'] at h
  obtain ⟨⟨⟨⟨h1, h2⟩, h3⟩, h4⟩, h5⟩ := h
  unfold swappedStores
  simp only [hb]
  change (if (swpLen ts vs || ScopeKind.function != ScopeKind.function) = true then pure none else if vs.any isStar = true then pure none else if swpNames env.scope ts = true then pure none else if vs.all (foldedForSure 8) = true then pure none else if vs.all (constantsAlone 8) = true then (do unsupported "assign.tuple-of-constant-expressions:order-of-the-stores"; pure (some (ts.filterMap (nmLoc env.scope (swpLine ts))))) else pure (some (ts.filterMap (nmLoc env.scope (swpLine ts))))) = _
  rw [h1, h2, h3, h4, h5]
  rfl
theorem swp_none {env : PySem.Env} (hk : env.scope.kind = .function) {ts vs : List Expr} {k k2 : Nat} {p p2 : Pos} (h : swpNone env.scope ts vs = true) :
    swappedStores [.Tuple ts k p] (.Tuple vs k2 p2) env = pure none := by
  have hb := blk_fn hk
  unfold swappedStores
  simp only [hb]
  change (if (swpLen ts vs || ScopeKind.function != ScopeKind.function) = true then pure none else if vs.any isStar = true then pure none else if swpNames env.scope ts = true then pure none else if vs.all (foldedForSure 8) = true then pure none else if vs.all (constantsAlone 8) = true then (do unsupported "assign.tuple-of-constant-expressions:order-of-the-stores"; pure (some (ts.filterMap (nmLoc env.scope (swpLine ts))))) else pure (some (ts.filterMap (nmLoc env.scope (swpLine ts))))) = _
  have hf : (ScopeKind.function != ScopeKind.function) = false := by decide
  rw [hf, Bool.or_false]
  simp only [swpNone, Bool.or_eq_true] at h
  by_cases h1 : swpLen ts vs = true
  · rw [if_pos h1]
  · rw [if_neg h1]
    by_cases h2 : vs.any isStar = true
    · rw [if_pos h2]
    · rw [if_neg h2]
      by_cases h3 : swpNames env.scope ts = true
      · rw [if_pos h3]
      · rw [if_neg h3]
        rcases h with ((h | h) | h) | h
        · exact absurd h h1
        · exact absurd h h2
        · exact absurd h h3
        · rw [if_pos h]
theorem sw_no {value : Expr} (h : noComp value = true) (t : Option Expr) (line : Nat) (env : PySem.Env) : swapsWith value t line env = pure false := by
  cases value <;> first | rfl | (simp [noComp] at h)
theorem sw_tup {value : Expr} {ts : List Expr} {k : Nat} {p : Pos} (line : Nat) (env : PySem.Env) : swapsWithSole [.Tuple ts k p] value line env = pure false := by
  cases value <;> rfl
theorem sw_sub {value o i : Expr} {p : Pos} (line : Nat) (env : PySem.Env) : swapsWithSole [.Subscript o i p] value line env = pure false := by
  cases value <;> rfl
theorem sws_sub {value o i : Expr} {p : Pos} (env : PySem.Env) : swappedStores [.Subscript o i p] value env = pure none := by
  cases value <;> rfl
theorem sw_attr {value o : Expr} {f : Str} {p : Pos} (line : Nat) (env : PySem.Env) : swapsWith value (some (.Attribute o f p)) line env = pure false := by
  cases value <;> rfl
def isTupE : Expr → Bool
  | .Tuple _ _ _ => true | _ => false
theorem sws_tup {value : Expr} {ts : List Expr} {k : Nat} {p : Pos} (h : isTupE value = false) (env : PySem.Env) : swappedStores [.Tuple ts k p] value env = pure none := by
  cases value <;> first | rfl | (simp [isTupE] at h)
def unpOk (sc : Scope) (ts : List Expr) : Expr → Bool
  | .Tuple vs _ _ => swpNone sc ts vs | _ => true
def isDoc : Expr → Bool
  | .Constant (.str _) _ _ => true | _ => false
def soleT : List Expr → Option Expr
  | [t] => some t
  | _ => none
def asgC (N : List Str) (cs : List (String × K0)) (sc : Scope) (fn : Str → Bool) (fx : List Nat) (i : Nat) (e : E) (value : Expr) : Option Expr → Bool
  | some (.Name x _) => decide (N[i]? = some x) && locB sc fn x && decide (i ∉ fx) && noSDComp value && chkE N cs sc fn e value
  | _ => false
def unpC (N : List Str) (cs : List (String × K0)) (sc : Scope) (fn : Str → Bool) (fx is : List Nat) (e : E) (value : Expr) : Option Expr → Bool
  | some (.Tuple ts _ _) => chkTgs N sc fn fx is ts && unpOk sc ts value && chkE N cs sc fn e value
  | _ => false
def parC (N : List Str) (cs : List (String × K0)) (sc : Scope) (fn : Str → Bool) (fx is : List Nat) (es : Es) (ts : List Expr) : Expr → Bool
  | .Tuple vs _ _ => chkTgs N sc fn fx is ts && decide is.Nodup && swpSome sc ts vs && chkEs N cs sc fn es vs
  | _ => false
def parC1 (N : List Str) (cs : List (String × K0)) (sc : Scope) (fn : Str → Bool) (fx is : List Nat) (es : Es) (value : Expr) : Option Expr → Bool
  | some (.Tuple ts _ _) => parC N cs sc fn fx is es ts value
  | _ => false
def stoC (N : List Str) (cs : List (String × K0)) (sc : Scope) (fn : Str → Bool) (i : Nat) (k e : E) (value : Expr) : Option Expr → Bool
  | some (.Subscript o ix _) => chkNm N sc i o && noSlice ix && chkE N cs sc fn k ix && chkE N cs sc fn e value
  | _ => false
def unpSC (N : List Str) (cs : List (String × K0)) (sc : Scope) (fn : Str → Bool) (fx : List Nat) (i o k : Nat) (e : E) (value : Expr) : Option Expr → Bool
  | some (.Tuple [.Name x p, .Subscript a b _] _ _) => chkTgs N sc fn fx [i] [.Name x p] && chkNm N sc o a && chkNm N sc k b && !isTupE value && chkE N cs sc fn e value
  | _ => false
def swpC (N : List Str) (cs : List (String × K0)) (sc : Scope) (fn : Str → Bool) (i : Nat) (k1 k2 e : E) (value : Expr) : Option Expr → Bool
  | some (.Tuple [.Subscript a b p1, .Subscript a2 b2 p2] _ _) => chkNm N sc i a && noSlice b && chkE N cs sc fn k1 b && chkNm N sc i a2 && noSlice b2 && chkE N cs sc fn k2 b2 && unpOk sc [.Subscript a b p1, .Subscript a2 b2 p2] value && chkE N cs sc fn e value
  | _ => false
def staC (N : List Str) (cs : List (String × K0)) (sc : Scope) (fn : Str → Bool) (i : Nat) (f : String) (e : E) (value : Expr) : Option Expr → Bool
  | some (.Attribute o nm _) => decide (nm = s_ f) && noSup o && chkNm N sc i o && chkE N cs sc fn e value
  | _ => false
def sto2C (N : List Str) (cs : List (String × K0)) (sc : Scope) (fn : Str → Bool) (i : Nat) (k1 : E) (c : K0) (e : E) (value : Expr) : Option Expr → Bool
  | some (.Subscript (.Subscript a b p1) (.Constant c' j p2) p3) => chkNm N sc i a && noSlice b && chkE N cs sc fn k1 b && chkK c c' && chkE N cs sc fn e value
  | _ => false
def asg2C (N : List Str) (cs : List (String × K0)) (sc : Scope) (fn : Str → Bool) (fx : List Nat) (i : Nat) (e : E2) (value : Expr) : Option Expr → Bool
  | some (.Name x _) => decide (N[i]? = some x) && locB sc fn x && decide (i ∉ fx) && noComp value && chkE2 N cs sc fn e value
  | _ => false
def ret2C (N : List Str) (cs : List (String × K0)) (sc : Scope) (fn : Str → Bool) (e : E2) : Option Expr → Bool
  | some v => chkE2 N cs sc fn e v
  | none => false
def retC (N : List Str) (cs : List (String × K0)) (sc : Scope) (fn : Str → Bool) (e : E) : Option Expr → Bool
  | some v => chkE N cs sc fn e v
  | none => false
mutual
def chkS (N : List Str) (cs : List (String × K0)) (sc : Scope) (fn : Str → Bool) (fx : List Nat) : S → Stmt → Bool
  | .asg i e, .Assign ts value _ => asgC N cs sc fn fx i e value (soleT ts)
  | .unp is e, .Assign ts value _ => unpC N cs sc fn fx is e value (soleT ts)
  | .par is es, .Assign ts value _ => parC1 N cs sc fn fx is es value (soleT ts)
  | .sto i k e, .Assign ts value _ => stoC N cs sc fn i k e value (soleT ts)
  | .ex e, .Expr value _ => noComp value && chkE N cs sc fn e value
  | .ret e, .Return v _ => retC N cs sc fn e v
  | .retN, .Return v _ => v.isNone
  | .ite c a b, .If c' a' b' _ => chkE N cs sc fn c c' && chkSs N cs sc fn fx a a' && chkSs N cs sc fn fx b b'
  | .for_ tg it body, .For tgE iter body' orelse _ => orelse.isEmpty && chkTg N sc fn (fx ++ it.root.toList) tg tgE && chkIt N cs sc fn it tgE iter && noSet iter && chkSs N cs sc fn (fx ++ it.root.toList ++ it.keep tg) body body' && decide (tabI ∉ it.root.toList)
  | .whl c body, .While c' body' orelse _ => orelse.isEmpty && chkE N cs sc fn c c' && chkSs N cs sc fn fx body body'
  | .raise, _ => true
  | .pass, .Pass _ => true
  | .pass, .Expr v _ => isDoc v
  | .brk, .Break _ => true
  | .cont, .Continue _ => true
  | .unpS i o k e, .Assign ts value _ => unpSC N cs sc fn fx i o k e value (soleT ts)
  | .sta i f e, .Assign ts value _ => staC N cs sc fn i f e value (soleT ts)
  | .sto2 i k1 c e, .Assign ts value _ => sto2C N cs sc fn i k1 c e value (soleT ts)
  | .swp i k1 k2 e, .Assign ts value _ => swpC N cs sc fn i k1 k2 e value (soleT ts)
  | .asg2 i e, .Assign ts value _ => asg2C N cs sc fn fx i e value (soleT ts)
  | .ret2 e, .Return v _ => ret2C N cs sc fn e v
  | .for2 tg e body, .For tgE iter body' orelse _ => orelse.isEmpty && chkTg N sc fn fx tg tgE && noSet iter && chkE2 N cs sc fn e iter && chkSs N cs sc fn (fx ++ [] ++ tg.slots) body body'
  | _, _ => false
def chkSs (N : List Str) (cs : List (String × K0)) (sc : Scope) (fn : Str → Bool) (fx : List Nat) : List S → List Stmt → Bool
  | [], [] => true
  | s :: r, t :: u => chkS N cs sc fn fx s t && chkSs N cs sc fn fx r u
  | _, _ => false
end
theorem sole_of {ts : List Expr} {t : Expr} (h : soleT ts = some t) : ts = [t] := by
  unfold soleT at h
  split at h
  · cases h; rfl
  · cases h
section
variable {w : World} {K : PySem.W.Frag} {Φ : Phi} {N : List Str} {cs : List (String × K0)} {lv : Nat} {sc : Scope} {fn : Str → Bool} {X : Cx}
theorem tgs_off {fx : List Nat} : ∀ {is : List Nat} {es : List Expr}, chkTgs N sc fn fx is es = true → ∀ i ∈ is, i ∉ fx
  | [], [], _, _, h => nomatch h
  | [], _ :: _, h, _, _ => by simp [chkTgs] at h
  | _ :: _, [], h, _, _ => by simp [chkTgs] at h
  | i :: is, e :: es, h, j, hj => by
    cases e <;> simp only [chkTgs, reduceCtorEq, Bool.false_eq_true, Bool.and_eq_true, decide_eq_true_eq] at h
    rcases List.mem_cons.mp hj with rfl | hj
    · exact h.1.2
    · exact tgs_off h.2 j hj
theorem tg_off {fx : List Nat} {tg : Tg} {e : Expr} (h : chkTg N sc fn fx tg e = true) : ∀ i ∈ tg.slots, i ∉ fx := by
  cases tg with
  | nm i => simp only [chkTg] at h; exact tgs_off h
  | tp is =>
    cases e <;> simp only [chkTg, reduceCtorEq, Bool.false_eq_true] at h
    exact tgs_off h
theorem sub_assign {o i : Expr} {p : Pos} (h : noSlice i = true) (env : PySem.Env) : ∀ v, assign (.Subscript o i p) env v = (do
      let ov ← holding [v] (eval o env)
      let iv ← holding [v, ov] (eval i env)
      standAt p
      holding [v, ov, iv] (setItem ov iv v)
      release [v, ov, iv] []) := by
  intro v
  cases i <;> first | rfl | (simp [noSlice] at h)
/-- name = value -/
theorem s_asg (G : Good w K Φ N cs lv sc fn X) {fx : List Nat} {i : Nat} {e : E} {x : Str} {p pos : Pos} {value : Expr} (h1 : N[i]? = some x) (h2 : locB sc fn x = true) (h3 : i ∉ fx) (h4 : noSDComp value = true) (h5 : chkE N cs sc fn e value = true) :
    PS X (.Assign [.Name x p] value pos) (tSt w K fx (wS Φ (.asg i e))) := by
  obtain ⟨l1, l2⟩ := loc_of G h2
  have hN : X.N.Nodup := by rw [G.N_]; exact G.nd
  have hi : X.N[i]? = some x := by rw [G.N_]; exact h1
  by_cases hc : noComp value = true
  · exact PS.imp (ps_set hN hi l1 (sE e G h5).1 (sw_no hc _ _ _) l2) fun M σ H q => imp_asg h3 q
  · cases value <;> simp only [noComp, noSDComp, Bool.false_eq_true, not_true_eq_false] at hc h4
    rename_i elt' gens scope cpos
    have key : swapsWith (.ListComp elt' gens scope cpos) (some (.Name x p)) pos.line X.env = pure (X.env.blockKind == .function && X.env.kindOf x == some .local && p.line == cpos.line && !(scope.names.any fun (n, k) => n == x && (k == .local || k == .cell))) := rfl
    generalize hb : (X.env.blockKind == .function && X.env.kindOf x == some .local && p.line == cpos.line && !(scope.names.any fun (n, k) => n == x && (k == .local || k == .cell))) = b at key
    cases b with
    | false => exact PS.imp (ps_set hN hi l1 (sE e G h5).1 key l2) fun M σ H q => imp_asg h3 q
    | true =>
      simp only [Bool.and_eq_true] at hb
      have hloc : X.env.scope.names.lookup x = some .local := by
        have := hb.1.1.2
        unfold Env.kindOf at this
        simpa using this
      cases e <;> (try (simp only [chkE, frzB, chkNm, chkGl, reduceCtorEq, Bool.false_eq_true, Bool.and_eq_true, false_and] at h5; done))
      rename_i elt tg it ifs own
      rcases gens with _ | ⟨⟨tgE, iter, ifs', ia⟩, _ | ⟨g2, gens⟩⟩ <;> simp only [chkE, reduceCtorEq, Bool.false_eq_true, Bool.and_eq_true, decide_eq_true_eq] at h5
      obtain ⟨⟨⟨⟨⟨⟨⟨⟨⟨rfl, hset⟩, hit⟩, hblk⟩, htg⟩, hsl⟩, hlen⟩, hifs⟩, helt⟩, hLt⟩ := h5
      have bok : BlkOk X.N X.env.scope scope (ownS own) := by rw [G.N_, G.sc_]; exact blkOk_by hblk
      have GB := fun s H C cl fp => G.blk scope bok.kind s H C cl fp
      refine PS.imp (ps_setLc G.calm hN hi hloc key (sIt it G hit) bok (fun s H C cl fp => tg_ok (GB s H C cl fp) htg) (fun s H C cl fp => sTs ifs (GB s H C cl fp) hlen hifs) (fun s H C cl fp => (sE elt (GB s H C cl fp) helt).1) (no_fold hset X.env)) fun M σ H q => ?_
      have := imp_asg h3 q
      show tLc _ _ _ _ _ σ H fun x H1 => gName i x σ H1 M.nx
      rw [ownS_slots]
      refine imp_comp (fun i hi => ?_) (fun hp i hi => ?_) hLt this
      · rw [List.all_eq_true] at hsl
        simpa using hsl i hi
      · subst hi
        exact pr_nm hp hit htg
theorem full_all {α β : Type} {f : α → Option β} : ∀ {l : List α}, (l.filterMap f).length = l.length → ∀ a ∈ l, ∃ b, f a = some b
  | [], _, _, h => nomatch h
  | x :: l, hl, a, h => by
    cases hx : f x with
    | none =>
      rw [List.filterMap_cons_none hx] at hl
      have := List.length_filterMap_le f l
      simp only [List.length_cons] at hl
      omega
    | some b =>
      rw [List.filterMap_cons_some hx] at hl
      rcases List.mem_cons.mp h with rfl | h
      · exact ⟨b, hx⟩
      · exact full_all (by simpa using hl) a h
theorem nm_loc {line : Nat} {x : Str} {p : Pos} (h : ∃ b, nmLoc sc line (.Name x p) = some b) : sc.names.lookup x = some .local ∧ (p.line == line) = true := by
  obtain ⟨b, h⟩ := h
  have hc : (sc.names.lookup x == some .local && p.line == line) = true := by
    cases hb : (sc.names.lookup x == some .local && p.line == line) with
    | true => rfl
    | false => simp only [nmLoc, hb, Bool.false_eq_true, if_false, reduceCtorEq] at h
  rw [Bool.and_eq_true] at hc
  exact ⟨by simpa using hc.1, hc.2⟩
theorem tgs_len {fx : List Nat} : ∀ {is : List Nat} {es : List Expr}, chkTgs N sc fn fx is es = true → is.length = es.length
  | [], [], _ => rfl
  | [], _ :: _, h => by simp [chkTgs] at h
  | _ :: _, [], h => by simp [chkTgs] at h
  | i :: is, e :: es, h => by
    cases e <;> simp only [chkTgs, reduceCtorEq, Bool.false_eq_true, Bool.and_eq_true, decide_eq_true_eq] at h
    simp [tgs_len h.2]
theorem s_par (G : Good w K Φ N cs lv sc fn X) {fx is : List Nat} {es : Es} {ts vs : List Expr} {k k2 : Nat} {p p2 pos : Pos} (h1 : chkTgs N sc fn fx is ts = true) (h2 : is.Nodup) (h3 : swpSome sc ts vs = true) (h4 : chkEs N cs sc fn es vs = true) :
    PS X (.Assign [.Tuple ts k p] (.Tuple vs k2 p2) pos) (tSt w K fx (wS Φ (.par is es))) := by
  have hN : X.N.Nodup := by rw [G.N_]; exact G.nd
  have hk : X.env.scope.kind = .function := by rw [G.sc_]; exact G.kind
  have hA := pa_all (es_stars h4) (sAs es G h4)
  have hoff := tgs_off h1
  have h3' : swpSome X.env.scope ts vs = true := by rw [G.sc_]; exact h3
  have hw := swp_some (k := k) (k2 := k2) (p := p) (p2 := p2) hk h3'
  simp only [swpSome, swpLen, swpNames, Bool.and_eq_true, Bool.not_eq_true', Bool.or_eq_false_iff, Bool.not_eq_false', Bool.or_eq_true, beq_iff_eq, bne_eq_false_iff_eq] at h3
  obtain ⟨⟨⟨⟨⟨l1, l2⟩, _⟩, n1, n2⟩, _⟩, _⟩ := h3
  rcases ts with _ | ⟨a, _ | ⟨b, _ | ⟨c, _ | ⟨d, ts⟩⟩⟩⟩ <;> simp only [List.length_nil, List.length_cons] at l1 <;> try omega
  · have hil := tgs_len h1
    rcases is with _ | ⟨i, _ | ⟨j, _ | ⟨l, is⟩⟩⟩ <;> simp only [List.length_nil, List.length_cons] at hil <;> try omega
    rcases vs with _ | ⟨v, _ | ⟨u, _ | ⟨t, vs⟩⟩⟩ <;> simp only [List.length_nil, List.length_cons] at l2 <;> try omega
    cases a <;> simp only [chkTgs, reduceCtorEq, Bool.false_eq_true, Bool.and_eq_true, decide_eq_true_eq] at h1
    cases b <;> simp only [chkTgs, reduceCtorEq, Bool.false_eq_true, Bool.and_eq_true, decide_eq_true_eq, false_and, and_false] at h1
    rename_i x px y py
    obtain ⟨⟨⟨hi, _⟩, oi⟩, ⟨⟨hj, _⟩, oj⟩, _⟩ := h1
    have hfull := full_all n1
    obtain ⟨hx, e1⟩ := nm_loc (hfull (.Name x px) (by simp))
    obtain ⟨hy, e2⟩ := nm_loc (hfull (.Name y py) (by simp))
    rw [← G.sc_] at hx hy
    rw [← G.N_] at hi hj
    have hne : i ≠ j := fun z => by simp [z] at h2
    refine PS.imp (ps_par G.calm hN hi hj hne hx hy hA (hw.trans ?_) (sw_tup _ _)) fun M σ H q => imp_par2 (hoff i (by simp)) (hoff j (by simp)) q
    simp [nmLoc, hx, hy, e1, e2]
  · have hil := tgs_len h1
    rcases is with _ | ⟨i, _ | ⟨j, _ | ⟨l, _ | ⟨m, is⟩⟩⟩⟩ <;> simp only [List.length_nil, List.length_cons] at hil <;> try omega
    rcases vs with _ | ⟨v, _ | ⟨u, _ | ⟨t, _ | ⟨o, vs⟩⟩⟩⟩ <;> simp only [List.length_nil, List.length_cons] at l2 <;> try omega
    cases a <;> simp only [chkTgs, reduceCtorEq, Bool.false_eq_true, Bool.and_eq_true, decide_eq_true_eq] at h1
    cases b <;> simp only [chkTgs, reduceCtorEq, Bool.false_eq_true, Bool.and_eq_true, decide_eq_true_eq, false_and, and_false] at h1
    cases c <;> simp only [chkTgs, reduceCtorEq, Bool.false_eq_true, Bool.and_eq_true, decide_eq_true_eq, false_and, and_false] at h1
    rename_i x px y py z pz
    obtain ⟨⟨⟨hi, _⟩, oi⟩, ⟨⟨hj, _⟩, oj⟩, ⟨⟨hl, _⟩, ol⟩, _⟩ := h1
    have hfull := full_all n1
    obtain ⟨hx, e1⟩ := nm_loc (hfull (.Name x px) (by simp))
    obtain ⟨hy, e2⟩ := nm_loc (hfull (.Name y py) (by simp))
    obtain ⟨hz, e3⟩ := nm_loc (hfull (.Name z pz) (by simp))
    rw [← G.sc_] at hx hy hz
    rw [← G.N_] at hi hj hl
    have hij : i ≠ j := fun z => by simp [z] at h2
    have hil : i ≠ l := fun z => by simp [z] at h2
    have hjl : j ≠ l := fun z => by simp [z] at h2
    refine PS.imp (ps_par3 G.calm hN hi hj hl hij hil hjl hx hy hz hA (hw.trans ?_) (sw_tup _ _)) fun M σ H q => imp_par3 (hoff i (by simp)) (hoff j (by simp)) (hoff l (by simp)) q
    simp [nmLoc, hx, hy, hz, e1, e2, e3]
theorem c_asg (hp : PassesOwn (model X.prog X.w) X.A X.env X.xe) (G : Good w K Φ N cs lv sc fn X) {i : Nat} {e : E} {fx : List Nat} {t : Stmt} (h : chkS N cs sc fn fx (.asg i e) t = true) : PS X t (tSt w K fx (wS Φ (.asg i e))) := by
  cases t <;> simp only [chkS, reduceCtorEq, Bool.false_eq_true, Bool.and_eq_true, decide_eq_true_eq] at h
  unfold asgC at h
  split at h
  · rename_i hs
    rw [sole_of hs]
    simp only [Bool.and_eq_true, decide_eq_true_eq] at h
    obtain ⟨⟨⟨⟨h1, h2⟩, h3⟩, h4⟩, h5⟩ := h
    exact s_asg G h1 h2 h3 h4 h5
  · cases h
theorem c_unp (hp : PassesOwn (model X.prog X.w) X.A X.env X.xe) (G : Good w K Φ N cs lv sc fn X) {is : List Nat} {e : E} {fx : List Nat} {t : Stmt} (h : chkS N cs sc fn fx (.unp is e) t = true) : PS X t (tSt w K fx (wS Φ (.unp is e))) := by
  cases t <;> simp only [chkS, reduceCtorEq, Bool.false_eq_true, Bool.and_eq_true, decide_eq_true_eq] at h
  rename_i tl value pos
  unfold unpC at h
  split at h
  · rename_i _ ts k p hs
    rw [sole_of hs]
    simp only [Bool.and_eq_true] at h
    obtain ⟨⟨h1, h2⟩, h3⟩ := h
    have hpg := tg_ok G (fx := fx) (tg := .tp is) (e := .Tuple ts k p) h1
    have hk : X.env.scope.kind = .function := by rw [G.sc_]; exact G.kind
    have hw : swappedStores [.Tuple ts k p] value X.env = pure none := by
      by_cases ht : isTupE value = true
      · cases value <;> simp only [isTupE, Bool.false_eq_true] at ht
        exact swp_none hk (by rw [G.sc_]; exact h2)
      · exact sws_tup (by simpa using ht) _
    exact PS.imp (ps_asg (sE e G h3).1 hpg (sw_tup _ _) hw rfl) fun M σ H q => imp_unp (tgs_off h1) q
  · cases h
theorem c_par (hp : PassesOwn (model X.prog X.w) X.A X.env X.xe) (G : Good w K Φ N cs lv sc fn X) {is : List Nat} {es : Es} {fx : List Nat} {t : Stmt} (h : chkS N cs sc fn fx (.par is es) t = true) : PS X t (tSt w K fx (wS Φ (.par is es))) := by
  cases t <;> simp only [chkS, reduceCtorEq, Bool.false_eq_true, Bool.and_eq_true, decide_eq_true_eq] at h
  unfold parC1 at h
  split at h
  · rename_i hs
    rw [sole_of hs]
    unfold parC at h
    split at h
    · simp only [Bool.and_eq_true, decide_eq_true_eq] at h
      obtain ⟨⟨⟨h1, h2⟩, h3⟩, h4⟩ := h
      exact s_par G h1 h2 h3 h4
    · cases h
  · cases h
theorem c_sto (hp : PassesOwn (model X.prog X.w) X.A X.env X.xe) (G : Good w K Φ N cs lv sc fn X) {i : Nat} {k e : E} {fx : List Nat} {t : Stmt} (h : chkS N cs sc fn fx (.sto i k e) t = true) : PS X t (tSt w K fx (wS Φ (.sto i k e))) := by
  cases t <;> simp only [chkS, reduceCtorEq, Bool.false_eq_true, Bool.and_eq_true, decide_eq_true_eq] at h
  unfold stoC at h
  split at h
  · rename_i hs
    rw [sole_of hs]
    simp only [Bool.and_eq_true] at h
    obtain ⟨⟨⟨h1, h2⟩, h3⟩, h4⟩ := h
    have hs := st_ok (X := X) G.hu
    rw [G.w_, G.K_] at hs
    exact PS.imp (ps_asg (sE e G h4).1 (pg_sub (nm_ok G h1) (sE k G h3).1 hs (sub_assign h2 _)) (sw_sub _ _) (sws_sub _) rfl) fun M σ H q => imp_sto q
  · cases h
theorem c_ex (hp : PassesOwn (model X.prog X.w) X.A X.env X.xe) (G : Good w K Φ N cs lv sc fn X) {e : E} {fx : List Nat} {t : Stmt} (h : chkS N cs sc fn fx (.ex e) t = true) : PS X t (tSt w K fx (wS Φ (.ex e))) := by
  cases t <;> simp only [chkS, reduceCtorEq, Bool.false_eq_true, Bool.and_eq_true, decide_eq_true_eq] at h
  exact PS.imp (ps_expr (sE e G h.2).1 (sw_no h.1 _ _ _)) fun M σ H q => imp_ex q
theorem c_ret (hp : PassesOwn (model X.prog X.w) X.A X.env X.xe) (G : Good w K Φ N cs lv sc fn X) {e : E} {fx : List Nat} {t : Stmt} (h : chkS N cs sc fn fx (.ret e) t = true) : PS X t (tSt w K fx (wS Φ (.ret e))) := by
  cases t <;> simp only [chkS, reduceCtorEq, Bool.false_eq_true, Bool.and_eq_true, decide_eq_true_eq] at h
  unfold retC at h
  split at h
  · exact PS.imp (ps_ret (sE e G h).1) fun M σ H q => imp_ret q
  · cases h
theorem c_retN (hp : PassesOwn (model X.prog X.w) X.A X.env X.xe) (G : Good w K Φ N cs lv sc fn X)  {fx : List Nat} {t : Stmt} (h : chkS N cs sc fn fx (.retN) t = true) : PS X t (tSt w K fx (wS Φ (.retN))) := by
  cases t <;> simp only [chkS, reduceCtorEq, Bool.false_eq_true, Bool.and_eq_true, decide_eq_true_eq] at h
  rename_i v pos
  cases v with
  | none => exact PS.imp ps_retN fun M σ H q => imp_retN q
  | some _ => cases h
theorem c_raise (hp : PassesOwn (model X.prog X.w) X.A X.env X.xe) (G : Good w K Φ N cs lv sc fn X)  {fx : List Nat} {t : Stmt} (h : chkS N cs sc fn fx (.raise) t = true) : PS X t (tSt w K fx (wS Φ (.raise))) := PS.imp ps_never fun M σ H q => imp_raise q
theorem c_pass (hp : PassesOwn (model X.prog X.w) X.A X.env X.xe) (G : Good w K Φ N cs lv sc fn X)  {fx : List Nat} {t : Stmt} (h : chkS N cs sc fn fx (.pass) t = true) : PS X t (tSt w K fx (wS Φ (.pass))) := by
  cases t <;> (try (simp only [chkS, Bool.false_eq_true] at h; done))
  · simp only [chkS] at h
    rename_i v pos
    cases v with
    | Constant c j p =>
      cases c <;> simp only [isDoc, Bool.false_eq_true] at h
      exact PS.imp ps_doc fun M σ H q => imp_pass q
    | _ => simp only [isDoc, Bool.false_eq_true] at h
  · exact PS.imp ps_pass fun M σ H q => imp_pass q
theorem c_brk (hp : PassesOwn (model X.prog X.w) X.A X.env X.xe) (G : Good w K Φ N cs lv sc fn X)  {fx : List Nat} {t : Stmt} (h : chkS N cs sc fn fx (.brk) t = true) : PS X t (tSt w K fx (wS Φ (.brk))) := by
  cases t <;> simp only [chkS, reduceCtorEq, Bool.false_eq_true, Bool.and_eq_true, decide_eq_true_eq] at h
  exact PS.imp ps_break fun M σ H q => imp_brk q
theorem c_cont (hp : PassesOwn (model X.prog X.w) X.A X.env X.xe) (G : Good w K Φ N cs lv sc fn X)  {fx : List Nat} {t : Stmt} (h : chkS N cs sc fn fx (.cont) t = true) : PS X t (tSt w K fx (wS Φ (.cont))) := by
  cases t <;> simp only [chkS, reduceCtorEq, Bool.false_eq_true, Bool.and_eq_true, decide_eq_true_eq] at h
  exact PS.imp ps_continue fun M σ H q => imp_cont q
theorem c_ite (hp : PassesOwn (model X.prog X.w) X.A X.env X.xe) (G : Good w K Φ N cs lv sc fn X) {c : E} {a b : List S} {fx : List Nat} {t : Stmt} (ha : ∀ {fx : List Nat} {u : List Stmt}, chkSs N cs sc fn fx a u = true → PSs X u (tSt w K fx (wSs Φ a))) (hb : ∀ {fx : List Nat} {u : List Stmt}, chkSs N cs sc fn fx b u = true → PSs X u (tSt w K fx (wSs Φ b))) (h : chkS N cs sc fn fx (.ite c a b) t = true) : PS X t (tSt w K fx (wS Φ (.ite c a b))) := by
  cases t <;> simp only [chkS, reduceCtorEq, Bool.false_eq_true, Bool.and_eq_true, decide_eq_true_eq] at h
  exact PS.imp (ps_if (sE c G h.1.1).2.1 (ha h.1.2) (hb h.2)) fun M σ H q => imp_if q
theorem c_for (hp : PassesOwn (model X.prog X.w) X.A X.env X.xe) (G : Good w K Φ N cs lv sc fn X) {tg : Tg} {it : It} {a : List S} {fx : List Nat} {t : Stmt} (ha : ∀ {fx : List Nat} {u : List Stmt}, chkSs N cs sc fn fx a u = true → PSs X u (tSt w K fx (wSs Φ a))) (h : chkS N cs sc fn fx (.for_ tg it a) t = true) : PS X t (tSt w K fx (wS Φ (.for_ tg it a))) := by
  cases t with
  | For tgE iter body' orelse pos =>
    simp only [chkS, reduceCtorEq, Bool.false_eq_true, Bool.and_eq_true, decide_eq_true_eq] at h
    obtain ⟨⟨⟨⟨⟨h0, h1⟩, h2⟩, h3⟩, h4⟩, h5⟩ := h
    rw [List.isEmpty_iff.mp h0]
    exact PS.imp (ps_for hp G.calm (sIt it G h2) (tg_ok G h1) (ha h4) (no_fold h3 X.env)) fun M σ H q => imp_for (tg_off h1) (fun hp i hi => by subst hi; exact pr_nm hp h2 h1) h5 q
  | _ => simp only [chkS, reduceCtorEq, Bool.false_eq_true, Bool.and_eq_true, decide_eq_true_eq] at h
theorem c_whl (hp : PassesOwn (model X.prog X.w) X.A X.env X.xe) (G : Good w K Φ N cs lv sc fn X) {c : E} {a : List S} {fx : List Nat} {t : Stmt} (ha : ∀ {fx : List Nat} {u : List Stmt}, chkSs N cs sc fn fx a u = true → PSs X u (tSt w K fx (wSs Φ a))) (h : chkS N cs sc fn fx (.whl c a) t = true) : PS X t (tSt w K fx (wS Φ (.whl c a))) := by
  cases t with
  | While c' body' orelse pos =>
    simp only [chkS, reduceCtorEq, Bool.false_eq_true, Bool.and_eq_true, decide_eq_true_eq] at h
    rw [List.isEmpty_iff.mp h.1.1]
    exact PS.imp (ps_while hp (sE c G h.1.2).2.1 (ha h.2)) fun M σ H q => imp_whl q
  | _ => simp only [chkS, reduceCtorEq, Bool.false_eq_true, Bool.and_eq_true, decide_eq_true_eq] at h
theorem c_unpS (G : Good w K Φ N cs lv sc fn X) {i o k : Nat} {e : E} {fx : List Nat} {t : Stmt} (h : chkS N cs sc fn fx (.unpS i o k e) t = true) : PS X t (tSt w K fx (wS Φ (.unpS i o k e))) := by
  cases t <;> simp only [chkS, reduceCtorEq, Bool.false_eq_true, Bool.and_eq_true, decide_eq_true_eq] at h
  rename_i tl value pos
  unfold unpSC at h
  split at h
  · rename_i x p a b p3 k3 p2 hs
    rw [sole_of hs]
    simp only [Bool.and_eq_true, Bool.not_eq_true'] at h
    obtain ⟨⟨⟨⟨h1, h2⟩, h3⟩, h4⟩, h5⟩ := h
    have h1' := h1
    simp only [chkTgs, Bool.and_eq_true, decide_eq_true_eq] at h1'
    obtain ⟨l1, l2⟩ := loc_of G h1'.1.1.2
    have hn : PG X (.Name x p) (gName i) := pg_name (by rw [G.N_]; exact G.nd) (by rw [G.N_]; exact h1'.1.1.1) l1 l2
    have hst := st_ok (X := X) G.hu
    rw [G.w_, G.K_] at hst
    have hb : noSlice b = true := by cases b <;> simp [chkNm] at h3 <;> rfl
    have hsub : PG X (.Subscript a b p3) (gSub (tVar o) (tVar k) (rSt w K)) := pg_sub (nm_ok G h2) (nm_ok G h3) hst (sub_assign hb _)
    have hpg := pg_tup (k := k3) (pos := p2) (n := 2) G.calm (pgs_cons hn (pgs_cons hsub pgs_nil))
    rw [G.K_] at hpg
    exact PS.imp (ps_asg (sE e G h5).1 hpg (sw_tup _ _) (sws_tup h4 _) rfl) fun M σ H q => imp_unpS h1'.1.2 q
  · cases h
theorem c_sta (G : Good w K Φ N cs lv sc fn X) {i : Nat} {f : String} {e : E} {fx : List Nat} {t : Stmt} (h : chkS N cs sc fn fx (.sta i f e) t = true) : PS X t (tSt w K fx (wS Φ (.sta i f e))) := by
  cases t <;> simp only [chkS, reduceCtorEq, Bool.false_eq_true, Bool.and_eq_true, decide_eq_true_eq] at h
  rename_i tl value pos
  unfold staC at h
  split at h
  · rename_i o nm p1 hs
    rw [sole_of hs]
    simp only [Bool.and_eq_true, decide_eq_true_eq] at h
    obtain ⟨⟨⟨rfl, h2⟩, h3⟩, h4⟩ := h
    refine PS.imp (ps_fld (f := s_ f) (nm_ok G h3) (sE e G h4).1 (sw_attr _ _)) fun M σ H q => ?_
    rw [G.K_]
    exact imp_sta q
  · cases h
theorem c_sto2 (G : Good w K Φ N cs lv sc fn X) {i : Nat} {k1 e : E} {c : K0} {fx : List Nat} {t : Stmt} (h : chkS N cs sc fn fx (.sto2 i k1 c e) t = true) : PS X t (tSt w K fx (wS Φ (.sto2 i k1 c e))) := by
  cases t <;> simp only [chkS, reduceCtorEq, Bool.false_eq_true, Bool.and_eq_true, decide_eq_true_eq] at h
  rename_i tl value pos
  unfold sto2C at h
  split at h
  · rename_i a b p1 c' j p2 p3 hs
    rw [sole_of hs]
    simp only [Bool.and_eq_true] at h
    obtain ⟨⟨⟨⟨h1, h2⟩, h3⟩, h4⟩, h5⟩ := h
    have hst := st_ok (X := X) G.hu
    rw [G.w_, G.K_] at hst
    have hi := ix_list (X := X)
    rw [G.K_] at hi
    exact PS.imp (ps_asg (sE e G h5).1 (pg_sub (pe_ix hi (nm_ok G h1) (sE k1 G h3).1 (plain_ix h2)) (k_ok h4) hst (sub_assign rfl _)) (sw_sub _ _) (sws_sub _) rfl) fun M σ H q => imp_sto2 q
  · cases h
theorem c_swp (G : Good w K Φ N cs lv sc fn X) {i : Nat} {k1 k2 e : E} {fx : List Nat} {t : Stmt} (h : chkS N cs sc fn fx (.swp i k1 k2 e) t = true) : PS X t (tSt w K fx (wS Φ (.swp i k1 k2 e))) := by
  cases t <;> simp only [chkS, reduceCtorEq, Bool.false_eq_true, Bool.and_eq_true, decide_eq_true_eq] at h
  rename_i tl value pos
  unfold swpC at h
  split at h
  · rename_i a b p1 a2 b2 p2 k3 p3 hs
    rw [sole_of hs]
    simp only [Bool.and_eq_true] at h
    obtain ⟨⟨⟨⟨⟨⟨⟨h1, h2⟩, h3⟩, h4⟩, h5⟩, h6⟩, h7⟩, h8⟩ := h
    have hst := st_ok (X := X) G.hu
    rw [G.w_, G.K_] at hst
    have hs1 : PG X (.Subscript a b p1) (gSub (tVar i) (tE w K (wE Φ k1)) (rSt w K)) := pg_sub (nm_ok G h1) (sE k1 G h3).1 hst (sub_assign h2 _)
    have hs2 : PG X (.Subscript a2 b2 p2) (gSub (tVar i) (tE w K (wE Φ k2)) (rSt w K)) := pg_sub (nm_ok G h4) (sE k2 G h6).1 hst (sub_assign h5 _)
    have hpg := pg_tup (k := k3) (pos := p3) (n := 2) G.calm (pgs_cons hs1 (pgs_cons hs2 pgs_nil))
    rw [G.K_] at hpg
    have hk : X.env.scope.kind = .function := by rw [G.sc_]; exact G.kind
    have hw : swappedStores [.Tuple [.Subscript a b p1, .Subscript a2 b2 p2] k3 p3] value X.env = pure none := by
      by_cases ht : isTupE value = true
      · cases value <;> simp only [isTupE, Bool.false_eq_true] at ht
        exact swp_none hk (by rw [G.sc_]; exact h7)
      · exact sws_tup (by simpa using ht) _
    exact PS.imp (ps_asg (sE e G h8).1 hpg (sw_tup _ _) hw rfl) fun M σ H q => imp_swp q
  · cases h
theorem c_asg2 (G : Good w K Φ N cs lv sc fn X) {i : Nat} {e : E2} {fx : List Nat} {t : Stmt} (h : chkS N cs sc fn fx (.asg2 i e) t = true) : PS X t (tSt w K fx (wS Φ (.asg2 i e))) := by
  cases t <;> simp only [chkS, reduceCtorEq, Bool.false_eq_true, Bool.and_eq_true, decide_eq_true_eq] at h
  unfold asg2C at h
  split at h
  · rename_i hs
    rw [sole_of hs]
    simp only [Bool.and_eq_true, decide_eq_true_eq] at h
    obtain ⟨⟨⟨⟨h1, h2⟩, h3⟩, h4⟩, h5⟩ := h
    obtain ⟨l1, l2⟩ := loc_of G h2
    exact PS.imp (ps_set (by rw [G.N_]; exact G.nd) (by rw [G.N_]; exact h1) l1 (sE2 G e h5) (sw_no h4 _ _ _) l2) fun M σ H q => imp_asg2 h3 q
  · cases h
theorem c_ret2 (G : Good w K Φ N cs lv sc fn X) {e : E2} {fx : List Nat} {t : Stmt} (h : chkS N cs sc fn fx (.ret2 e) t = true) : PS X t (tSt w K fx (wS Φ (.ret2 e))) := by
  cases t <;> simp only [chkS, reduceCtorEq, Bool.false_eq_true, Bool.and_eq_true, decide_eq_true_eq] at h
  unfold ret2C at h
  split at h
  · exact PS.imp (ps_ret (sE2 G e h)) fun M σ H q => imp_ret2 q
  · cases h
theorem c_for2 (hp : PassesOwn (model X.prog X.w) X.A X.env X.xe) (G : Good w K Φ N cs lv sc fn X) {tg : Tg} {e : E2} {a : List S} {fx : List Nat} {t : Stmt} (ha : ∀ {fx : List Nat} {u : List Stmt}, chkSs N cs sc fn fx a u = true → PSs X u (tSt w K fx (wSs Φ a))) (h : chkS N cs sc fn fx (.for2 tg e a) t = true) : PS X t (tSt w K fx (wS Φ (.for2 tg e a))) := by
  cases t with
  | For tgE iter body' orelse pos =>
    simp only [chkS, reduceCtorEq, Bool.false_eq_true, Bool.and_eq_true, decide_eq_true_eq] at h
    obtain ⟨⟨⟨⟨h0, h1⟩, h3⟩, h2⟩, h4⟩ := h
    rw [List.isEmpty_iff.mp h0]
    have hi := pi_seq (X := X) (tg := tgE) (sE2 G e h2)
    rw [G.K_] at hi
    exact PS.imp (ps_for hp G.calm (PI.imp hi fun σ H R q => imp_seqG (ex := .v 0) q) (tg_ok G h1) (ha h4) (no_fold h3 X.env)) fun M σ H q => imp_for2 (tg_off h1) q
  | _ => simp only [chkS, reduceCtorEq, Bool.false_eq_true, Bool.and_eq_true, decide_eq_true_eq] at h
theorem c_nil {fx : List Nat} {t : List Stmt} (h : chkSs N cs sc fn fx [] t = true) : PSs X t (tSt w K fx (wSs Φ [])) := by
  cases t <;> simp only [chkSs, reduceCtorEq, Bool.false_eq_true] at h
  exact PSs.imp pss_nil fun M σ H q => imp_nil q
theorem c_cons {s : S} {r : List S} (hs : ∀ {fx : List Nat} {u : Stmt}, chkS N cs sc fn fx s u = true → PS X u (tSt w K fx (wS Φ s))) (hr : ∀ {fx : List Nat} {u : List Stmt}, chkSs N cs sc fn fx r u = true → PSs X u (tSt w K fx (wSs Φ r))) {fx : List Nat} {t : List Stmt} (h : chkSs N cs sc fn fx (s :: r) t = true) : PSs X t (tSt w K fx (wSs Φ (s :: r))) := by
  cases t <;> simp only [chkSs, reduceCtorEq, Bool.false_eq_true, Bool.and_eq_true] at h
  exact PSs.imp (pss_cons (hs h.1) (hr h.2)) fun M σ H q => imp_cons q
mutual
theorem sS (hp : PassesOwn (model X.prog X.w) X.A X.env X.xe) (G : Good w K Φ N cs lv sc fn X) : ∀ (s : S) {fx : List Nat} {t : Stmt}, chkS N cs sc fn fx s t = true → PS X t (tSt w K fx (wS Φ s))
  | .asg i e, fx, t, h => c_asg hp G h
  | .unp is e, fx, t, h => c_unp hp G h
  | .par is es, fx, t, h => c_par hp G h
  | .sto i k e, fx, t, h => c_sto hp G h
  | .ex e, fx, t, h => c_ex hp G h
  | .ret e, fx, t, h => c_ret hp G h
  | .retN, fx, t, h => c_retN hp G h
  | .raise, fx, t, h => c_raise hp G h
  | .pass, fx, t, h => c_pass hp G h
  | .brk, fx, t, h => c_brk hp G h
  | .cont, fx, t, h => c_cont hp G h
  | .ite c a b, fx, t, h => c_ite hp G (fun h => sSs hp G a h) (fun h => sSs hp G b h) h
  | .for_ tg it a, fx, t, h => c_for hp G (fun h => sSs hp G a h) h
  | .whl c a, fx, t, h => c_whl hp G (fun h => sSs hp G a h) h
  | .unpS i o k e, fx, t, h => c_unpS G h
  | .sta i f e, fx, t, h => c_sta G h
  | .sto2 i k1 c e, fx, t, h => c_sto2 G h
  | .swp i k1 k2 e, fx, t, h => c_swp G h
  | .asg2 i e, fx, t, h => c_asg2 G h
  | .ret2 e, fx, t, h => c_ret2 G h
  | .for2 tg e a, fx, t, h => c_for2 hp G (fun h => sSs hp G a h) h
theorem sSs (hp : PassesOwn (model X.prog X.w) X.A X.env X.xe) (G : Good w K Φ N cs lv sc fn X) : ∀ (s : List S) {fx : List Nat} {t : List Stmt}, chkSs N cs sc fn fx s t = true → PSs X t (tSt w K fx (wSs Φ s))
  | [], fx, t, h => c_nil h
  | s :: r, fx, t, h => c_cons (fun h => sS hp G s h) (fun h => sSs hp G r h) h
end
end
end Dl
/-! DlDef: a def by what its body is worth. -/
namespace Dl
open PySem PySem.Spec PyProof.Rows L2
variable [Tab]
def fxOf (n : Nat) (re : List Nat) : List Nat := (List.range n).filter fun i => !re.contains i
theorem mem_fx {n : Nat} {re : List Nat} {i : Nat} : i ∈ fxOf n re ↔ i < n ∧ i ∉ re := by
  simp [fxOf]
theorem outs_ok : ∀ {io : List Bool} {ds ds' : List D} {st : DS}, outs io ds st = some ds' → ds'.length = io.length ∧ ∀ j : Nat, io[j]? = some true → ∃ d, ds'[j]? = some d ∧ st[j]? = some (some d)
  | [], [], _, st, h => by
    simp only [outs, Option.some.injEq] at h
    subst h
    exact ⟨rfl, fun j hj => by simp at hj⟩
  | [], _ :: _, _, _, h => by simp [outs] at h
  | _ :: _, [], _, _, h => by simp [outs] at h
  | _ :: _, _ :: _, _, [], h => by simp [outs] at h
  | true :: bs, _ :: ds, _, none :: st, h => by simp [outs] at h
  | true :: bs, _ :: ds, _, some d :: st, h => by
    simp only [outs, Option.map_eq_some_iff] at h
    obtain ⟨r, h, rfl⟩ := h
    obtain ⟨g1, g2⟩ := outs_ok h
    refine ⟨by simp [g1], fun j hj => ?_⟩
    cases j with
    | zero => exact ⟨d, rfl, rfl⟩
    | succ j =>
      obtain ⟨d', q1, q2⟩ := g2 j (by simpa using hj)
      exact ⟨d', by simpa using q1, by simpa using q2⟩
  | false :: bs, d :: ds, _, s :: st, h => by
    simp only [outs, Option.map_eq_some_iff] at h
    obtain ⟨r, h, rfl⟩ := h
    obtain ⟨g1, g2⟩ := outs_ok h
    refine ⟨by simp [g1], fun j hj => ?_⟩
    cases j with
    | zero => simp at hj
    | succ j =>
      obtain ⟨d', q1, q2⟩ := g2 j (by simpa using hj)
      exact ⟨d', by simpa using q1, by simpa using q2⟩
theorem zip_get {io : List Bool} {ds : List D} {n i : Nat} {f : Bool × D → Option D} {d : D} (h : (((io.zip ds).map f) ++ List.replicate n none)[i]? = some (some d)) : ∃ b x, io[i]? = some b ∧ ds[i]? = some x ∧ f (b, x) = some d := by
  by_cases hi : i < ((io.zip ds).map f).length
  · rw [List.getElem?_append_left hi, List.getElem?_map] at h
    cases hz : (io.zip ds)[i]? with
    | none => rw [hz] at h; cases h
    | some p =>
      rw [hz] at h
      simp only [Option.map_some, Option.some.injEq] at h
      rw [List.getElem?_zip_eq_some] at hz
      exact ⟨p.1, p.2, hz.1, hz.2, h⟩
  · rw [List.getElem?_append_right (by omega), List.getElem?_replicate] at h
    split at h <;> cases h
theorem start_get {N : List Str} {vs : List V} {i : Nat} {v : V} (h : vs[i]? = some v) : (start N vs)[i]? = some (some v) := by
  unfold L2.start
  have hi := (List.getElem?_eq_some_iff.mp h).1
  rw [List.getElem?_append_left (by simpa using hi), List.getElem?_map, h]
  rfl
section
variable {P : Program} {w : World} {K : PySem.W.Frag} {mg : Str → Option Value} {base : Heap} {Φ : Phi}
/-- the defs that are called stand -/
def Defs (P : Program) (w : World) (K : PySem.W.Frag) (mg : Str → Option Value) (base : Heap) (Φ : Phi) (k : Nat) : Prop :=
  ∀ f sp, Φ f = some sp → f ≠ "@" → ∃ (a : Addr) (fd : FuncData) (ps : List Str), FnOk P w K mg base CX0 k a fd ps (spD w K sp) ∧ StdAt K mg f a ∧ Binds K fd ps [] ∧ (sp.pure = true → FnOk P w K mg base CX0 k a fd ps (@spD ⟨[], fun _ => none⟩ w K sp)) ∧ ∀ n h, sp.ho = some (n, h) → HoOk P w K mg base a sp.io n h
omit [Tab] in
theorem fun_okC {y x : Str} {st : Stmt} {f : Addr} {fd : FuncData} {N ps : List Str} {k : Nat} {sp : Sp} (F : Fun K y x st f fd) (S : FnScope N ps (defScope st)) (len : ∀ vs H Q E, sp vs H Q E → vs.length = ps.length)
    (hbody : ∀ (cdv : Value) (A : Around) (outer : List PySem.Env) (s : Shared) (H : Hp) (vs : List V) (Q : VK) (E : XK), cdv = fd.code → Room k (A.deeper (envOfC x (defScope st) s.heap.objs.size f cdv)) → sp vs H Q E →
      ∃ t, PSs (cxOf CX0 P w K mg base N x (defScope st) f cdv A outer s H E).nox (defBody st) t ∧ t { nx := fun _ H' => Q .non H', rt := Q } (start N vs) H) : FnOk P w K mg base CX0 (k + 1) f fd ps sp := by
  obtain ⟨oc, od, kV, doc, pm, an, cdv, ct, osl, rfl, lk, hcd⟩ := F.ex
  refine fn_of lk hcd S len fun A outer s H vs Q E hr hsp => ?_
  obtain ⟨t, h, q⟩ := hbody cdv A outer s H vs Q E rfl hr hsp
  exact ⟨t, h.nox, q⟩
/-- what a def that makes lambdas asks of its code object and its table -/
def LamD (mg : Str → Option Value) (base : Heap) (x : Str) (fd : FuncData) : Prop := ∃ c P : Addr, LamX.TabB base mg c P ∧ fd.code = .ref c ∧ (P, x ++ ".<locals>." ++ "<lambda>") ∈ Tab.tt ∧ ∀ p ∈ Tab.tt, p.1 = P → p.2 = x ++ ".<locals>." ++ "<lambda>"
/-- a body by what it is worth -/
theorem body_of {X : Cx} {N : List Str} {n k : Nat} {re : List Nat} {body : List S} {sp : Spec} {cs : List (String × K0)} {fn : Str → Bool} {sc : Scope} {stmts : List Stmt} {H : Hp} {vs : List V} {Q : VK} {ds : List D} {bs : List (List Addr)} {Qd : D → List D → Prop} {F : List Addr}
    (G : Good w K Φ N cs k sc fn X) (hN : N.length ≤ tabI) (hps : n = sp.io.length) (hpl : n ≤ N.length) (hk : Keeps Φ N.length re body sp) (hre : ∀ j ∈ re, sp.io[j]? ≠ some true) (chk : chkSs N cs sc fn (fxOf n re) body stmts = true) (hp : PassesOwn (model X.prog X.w) X.A X.env X.xe)
    (ar : Args w K H F sp.io vs ds bs) (hrun : sp.run ds Qd) (q : ∀ r ds' v H' bs' B F', Qd r ds' → Outs w K H H' F F' sp.io vs bs r ds' v bs' B → Q v H') (hb : ∀ y o, Tab.h0 y = some o → H y = some o ∧ ¬ IoT sp.io bs F y) :
    ∃ t, PSs X stmts t ∧ t { nx := fun _ H' => Q .non H', rt := Q } (start N vs) H := by
  refine ⟨_, sSs hp G body chk, ?_⟩
  obtain ⟨hl, himm, hw⟩ := hk ds Qd hrun
  have lv := ar.lv
  have ld := ar.ld
  have lb := ar.lb
  -- the addresses of what may be changed, of what is looked at
  have ioL : ∀ {i : Nat} {c : Bool}, sp.io[i]? = some c → i ≠ tabI := fun {i c} hi z => by
    have := (List.getElem?_eq_some_iff.mp hi).1
    omega
  let fp : Fp := fun i => if i = tabI then F else if sp.io[i]? = some true then (bs[i]?).getD [] else []
  let R : Addr → Prop := fun y => (∃ (j : Nat) (b : List Addr), sp.io[j]? = some false ∧ bs[j]? = some b ∧ y ∈ b) ∨ ∃ o, Tab.h0 y = some o
  have fpT : ∀ {i : Nat} {b : List Addr}, sp.io[i]? = some true → bs[i]? = some b → fp i = b := fun h1 h2 => by simp only [fp, if_neg (ioL h1), if_pos h1, h2, Option.getD_some]
  have fpF : fp tabI = F := if_pos rfl
  have fpM : ∀ {i : Nat} {y : Addr}, y ∈ fp i → (i = tabI ∧ y ∈ F) ∨ ∃ b, sp.io[i]? = some true ∧ bs[i]? = some b ∧ y ∈ b := fun {i y} hy => by
    by_cases ht : i = tabI
    · rw [ht, fpF] at hy; exact .inl ⟨ht, hy⟩
    · by_cases hi : sp.io[i]? = some true
      · simp only [fp, if_neg ht, if_pos hi] at hy
        cases hb : bs[i]? with
        | none => rw [hb] at hy; cases hy
        | some b => rw [hb] at hy; exact .inr ⟨b, hi, rfl, hy⟩
      · simp only [fp, if_neg ht, if_neg hi] at hy; cases hy
  have trio : ∀ {i : Nat} {c : Bool}, sp.io[i]? = some c → ∃ v d b, vs[i]? = some v ∧ ds[i]? = some d ∧ bs[i]? = some b ∧ Rep w K H v d b := fun {i c} hi => by
    have hlt := (List.getElem?_eq_some_iff.mp hi).1
    have h1 : vs[i]? = some vs[i] := List.getElem?_eq_getElem (by omega)
    have h2 : ds[i]? = some ds[i] := List.getElem?_eq_getElem (by omega)
    have h3 : bs[i]? = some bs[i] := List.getElem?_eq_getElem (by omega)
    exact ⟨_, _, _, h1, h2, h3, ar.rep i _ _ _ h1 h2 h3⟩
  have o : Own w K R H (start N vs) (startS N.length sp.io ds) fp := by
    refine ⟨?_, fun i d hd => ?_, fun i j y hi hj => ?_, fun i hit hn => ?_, fun y i hy hi => ?_, ?_, by rw [fpF]; exact ar.tabc, by rw [fpF]; exact ar.tabs, fun y u hy => ⟨.inr ⟨u, hy⟩, (hb y u hy).1⟩⟩
    · unfold startS L2.start
      simp only [List.length_append, List.length_map, List.length_zip, List.length_replicate]
      omega
    · obtain ⟨b, x, h1, h2, h3⟩ := zip_get hd
      obtain ⟨v, d2, c, g1, g2, g3, g4⟩ := trio h1
      rw [h2] at g2
      cases g2
      split at h3
      · rename_i hc
        cases h3
        cases b with
        | true =>
          rw [fpT h1 g3]
          exact ⟨v, start_get g1, g4, ar.nd i c h1 g3⟩
        | false =>
          have e0 := g4.immut (by simpa using hc)
          subst e0
          have : fp i = [] := by
            simp only [fp, if_neg (ioL h1)]
            rw [if_neg (by rw [h1]; simp)]
          rw [this]
          exact ⟨v, start_get g1, g4, List.nodup_nil⟩
      · cases h3
    · rcases fpM hi with ⟨rfl, h3⟩ | ⟨b, h1, h2, h3⟩ <;> rcases fpM hj with ⟨rfl, h6⟩ | ⟨c, h4, h5, h6⟩
      · rfl
      · exact absurd h3 (ar.tout j c y h5 h6)
      · exact absurd h6 (ar.tout i b y h2 h3)
      · exact Classical.byContradiction fun hne => ar.dis i j b c y hne h1 h2 h5 h3 h6
    · by_cases hi : sp.io[i]? = some true
      · obtain ⟨v, d2, c, g1, g2, g3, g4⟩ := trio hi
        refine absurd ?_ (hn d2)
        unfold startS
        have hlt : i < (sp.io.zip ds).length := by
          have := (List.getElem?_eq_some_iff.mp hi).1
          rw [List.length_zip]; omega
        rw [List.getElem?_append_left (by simpa using hlt), List.getElem?_map, (List.getElem?_zip_eq_some (z := (true, d2))).mpr ⟨hi, g2⟩]
        rfl
      · simp only [fp, if_neg hit, if_neg hi]
    · rcases hy with ⟨j, c, h4, h5, h6⟩ | ⟨u, hu⟩
      · rcases fpM hi with ⟨rfl, h3⟩ | ⟨b, h1, h2, h3⟩
        · exact ar.tout j c y h5 h6 h3
        · exact ar.dis i j b c y (fun z => by subst z; rw [h1] at h4; cases h4) h1 h2 h5 h3 h6
      · refine (hb y u hu).2 ?_
        rcases fpM hi with ⟨rfl, h3⟩ | ⟨b, h1, h2, h3⟩
        · exact .inr h3
        · exact .inl ⟨i, b, h1, h2, h3⟩
    · unfold startS
      simp only [List.length_append, List.length_map, List.length_zip, List.length_replicate]
      omega
  have e : Env w K R H (start N vs) (startR N.length sp.io ds) := by
    refine ⟨?_, fun i d hd => ?_, fun y hy => ?_⟩
    · unfold startR L2.start
      simp only [List.length_append, List.length_map, List.length_zip, List.length_replicate]
      omega
    · obtain ⟨b, x, h1, h2, h3⟩ := zip_get hd
      obtain ⟨v, d2, c, g1, g2, g3, g4⟩ := trio h1
      rw [h2] at g2
      cases g2
      split at h3
      · cases h3
      · rename_i hc
        cases h3
        have hb : b = false := by cases b <;> simp at hc ⊢
        subst hb
        exact ⟨v, c, start_get g1, g4, fun y hy => .inl ⟨i, c, h1, g3, hy⟩⟩
    · rcases hy with ⟨j, b, h1, h2, h3⟩ | ⟨u, hu⟩
      · obtain ⟨v, d2, c, g1, g2, g3, g4⟩ := trio h1
        rw [h2] at g3
        cases g3
        exact g4.there h3
      · rw [(hb y u hu).1]; simp
  have hρ : ∀ (i : Nat) (d : D), (startR N.length sp.io ds)[i]? = some (some d) → i ∈ fxOf n re := fun i d hd => by
    obtain ⟨b, x, h1, h2, h3⟩ := zip_get hd
    refine mem_fx.mpr ⟨by have := (List.getElem?_eq_some_iff.mp h1).1; omega, fun hr => ?_⟩
    obtain ⟨d2, g1, g2⟩ := himm i hr
    rw [h2] at g1
    cases g1
    simp [g2] at h3
  have ioM : ∀ y, Mine fp y → IoT sp.io bs F y := fun y ⟨i, hi⟩ => by
    rcases fpM hi with ⟨rfl, h3⟩ | ⟨b, h1, h2, h3⟩
    · exact .inr h3
    · exact .inl ⟨i, b, h1, h2, h3⟩
  have ioM' : ∀ y, IoT sp.io bs F y → Mine fp y := fun y hy => by
    rcases hy with ⟨i, b, h1, h2, h3⟩ | h3
    · exact ⟨i, by rw [fpT h1 h2]; exact h3⟩
    · exact ⟨tabI, by rw [fpF]; exact h3⟩
  -- the end
  have fin : ∀ (r : D) (st' : DS) (σ' : L2.St) (v : V) (H' : Hp) (fp' : Fp) (B : List Addr), endOf sp.io ds Qd r st' → Ext (Mine fp) H H' (fun x => Mine fp' x ∨ x ∈ B) → Own w K R H' σ' st' fp' → (∀ i ∈ fxOf n re, σ'[i]? = (start N vs)[i]?) → Rep w K H' v r B → B.Nodup → (∀ x ∈ B, ¬ Mine fp' x) → Q v H' :=
    fun r st' σ' v H' fp' B he x' o' f' rr nd dj => by
      unfold endOf at he
      cases ho : outs sp.io ds st' with
      | none => rw [ho] at he; exact he.elim
      | some ds' =>
        rw [ho] at he
        obtain ⟨g1, g2⟩ := outs_ok ho
        have bsg : ∀ {j : Nat} {b : List Addr}, sp.io[j]? = some true → ((List.range sp.io.length).map fun i => fp' i)[j]? = some b → b = fp' j := fun {j b} hj hb => by
          rw [List.getElem?_map, List.getElem?_range (List.getElem?_eq_some_iff.mp hj).1] at hb
          exact (Option.some.inj hb).symm
        have ioMine : ∀ y, IoSet sp.io ((List.range sp.io.length).map fun i => fp' i) y → Mine fp' y := fun y ⟨j, b, h1, h2, h3⟩ => ⟨j, by rw [← bsg h1 h2]; exact h3⟩
        have ioMineT : ∀ y, IoT sp.io ((List.range sp.io.length).map fun i => fp' i) (fp' tabI) y → Mine fp' y := fun y hy => hy.elim (ioMine y) fun z => ⟨tabI, z⟩
        refine q r ds' v H' ((List.range sp.io.length).map fun i => fp' i) B (fp' tabI) he ⟨by simp, g1, ⟨fun y u hy hm => x'.keep y u hy fun z => hm (ioM y z), fun y hy => ?_⟩, fun j u d b h1 h2 h3 h4 => ?_, fun j l b c y hne h1 h2 h3 h4 h5 h6 => ?_, rr, nd, fun y hy z => dj y hy (ioMineT y z), fun y hy z => ?_, o'.tabc, o'.tabs⟩
        · exact (x'.from_ y (hy.imp (ioMineT y) id)).imp (ioM y) id
        · obtain ⟨d2, k1, k2⟩ := g2 j h1
          rw [h3] at k1
          cases k1
          obtain ⟨u2, k3, k4, k5⟩ := o'.at_ j d k2
          have hjf : j ∈ fxOf n re := mem_fx.mpr ⟨by have := (List.getElem?_eq_some_iff.mp h1).1; omega, fun z => hre j z h1⟩
          rw [f' j hjf, start_get h2] at k3
          cases k3
          rw [bsg h1 h4]
          exact ⟨k4, k5⟩
        · rw [bsg h1 h3] at h5
          rw [bsg h2 h4] at h6
          exact hne (o'.dis j l y h5 h6)
        · obtain ⟨j, b, h1, h2, h3⟩ := z
          rw [bsg h1 h2] at h3
          exact ioL h1 (o'.dis j tabI y h3 hy)
  refine ⟨_, _, fp, R, _, e, o, hρ, hw, ⟨fun st' σ' H' fp' p x' o' l' f' => ?_, fun st' σ' H' fp' p => p.elim, fun st' σ' H' fp' p => p.elim, fun d st' σ' v H' fp' B p x' o' l' f' r nd dj => fin d st' σ' v H' fp' B p x' o' f' r nd dj⟩⟩
  exact fin .non st' σ' .non H' fp' [] p (extE x') o' f' .non List.nodup_nil fun _ z => nomatch z
theorem ok_ofG {y x : Str} {st : Stmt} {f : Addr} {fd : FuncData} {N ps : List Str} {k : Nat} {re : List Nat} {body : List S} {sp : Spec} {cs : List (String × K0)} (F : Fun K y x st f fd) (S : FnScope N ps (defScope st)) (hN : N.length ≤ tabI) (hps : ps.length = sp.io.length)
    (hk : Keeps Φ N.length re body sp) (hre : ∀ j ∈ re, sp.io[j]? ≠ some true) {fn : Str → Bool} {ex : Nat} (chk : chkSs N cs (defScope st) fn (fxOf ps.length re) body (defBody st) = true) (na : fn actM = false) (lam : fn lamM = true → LamD mg base x fd ∧ 6 ≤ ex) (hex : fn mkM = true → 1 ≤ ex)
    (blt : ∀ x ∈ bnames, mg (s_ x) = none) (cst : ∀ p ∈ cs, ∃ u, mg (s_ p.1) = some u ∧ RelV p.2.v u) (fns : Defs P w K mg base Φ k) (h0 : ∀ y, Tab.h0 y = none := by intro y; rfl) : FnOk P w K mg base CX0 (k + ex + 1) f fd ps (spD w K sp) := by
  refine fun_okC F S (fun vs H Q E h => ?_) (fun cdv A outer s H vs Q E hcd hr h => ?_)
  · obtain ⟨ds, bs, Qd, F, ar, _⟩ := h
    rw [ar.lv, hps]
  · obtain ⟨ds, bs, Qd, F, ar, hrun, q⟩ := h
    have G : Good w K Φ N cs k (defScope st) fn (cxOf CX0 P w K mg base N x (defScope st) f cdv A outer s H E).nox :=
      { w_ := rfl, K_ := rfl, N_ := rfl, sc_ := rfl, fn_ := fun _ _ => rfl, calm := rfl, nd := S.nd, room := hr.mono (by omega), room1 := fun z => hr.mono (by have := hex z; omega), kind := S.kind, lam := fun hl => (by
          obtain ⟨⟨c, P', h1, h2, h3, h4⟩, h5⟩ := lam hl
          exact ⟨⟨c, P', h1, hcd.trans h2, h3, h4⟩, hr.mono (by omega)⟩), blt := blt, cst := cst, fns := fns, act := fun z => by rw [na] at z; cases z }
    have hpl : ps.length ≤ N.length := by have := congrArg List.length S.pre; rw [List.length_take] at this; omega
    exact body_of G hN hps hpl hk hre chk PassesOwn.never ar hrun q fun y o hy => by rw [h0] at hy; cases hy
/-- a def that calls what is handed in first -/
theorem ho_of {y x : Str} {st : Stmt} {f : Addr} {fd : FuncData} {N ps : List Str} {re : List Nat} {body : List S} {io : List Bool} {n : Nat} {hh : Nat → Run → Run} {cs : List (String × K0)} (F : Fun K y x st f fd) (hB : Binds K fd ps []) (S : FnScope N ps (defScope st)) (hN : N.length ≤ tabI) (hps : ps.length = io.length) (hio : io.any id = false)
    (hk : ∀ (fa : Nat) (step : Run), Keeps (fun y => if y = "@" then some { io := List.replicate n false, run := step, id := some fa } else none) N.length re body { io := io, run := hh fa step }) (chk : chkSs N cs (defScope st) (fun y => !(y == lamM) && !(y == mkM)) (fxOf ps.length re) body (defBody st) = true)
    (blt : ∀ x ∈ bnames, mg (s_ x) = none) (cst : ∀ p ∈ cs, ∃ u, mg (s_ p.1) = some u ∧ RelV p.2.v u) : HoOk P w K mg base f io n hh := by
  intro k A outer s H us vs Q fa step hr e0 rv LOk hsp
  obtain ⟨oc, od, kV, doc, pm, an, cdv, ct, osl, rfl, lk, hcd⟩ := F.ex
  obtain ⟨ds, bs, Qd, F0, ar, hrun, q⟩ := hsp
  have lv := @Args.lv ⟨[], fun _ => none⟩ _ _ _ _ _ _ _ _ ar
  have hpl : ps.length ≤ N.length := by have := congrArg List.length S.pre; rw [List.length_take] at this; omega
  have KX : K.In s.heap := e0.mod.kin.keeps fun b o e => (e0.bs b o e).1
  have lu : us.length = ps.length := by rw [← rv.length, lv]; exact hps.symm
  refine LamX.run_ofS (CX := CX0) lk hcd S hr e0 (by have := hB s us KX (by simpa using lu); simpa using this) rv (by rw [lv]; exact hps.symm) fun hr' => ?_
  have nset : ∀ {bs : List (List Addr)} {y : Addr}, ¬ IoSet io bs y := fun {bs y} ⟨j, b, z, _⟩ => by
    rw [List.any_eq_false] at hio
    exact hio true (List.mem_of_getElem? z) rfl
  have nio : ∀ {j : Nat}, io[j]? ≠ some true := fun {j} z => by
    rw [List.any_eq_false] at hio
    exact hio true (List.mem_of_getElem? z) rfl
  have tc0 := @Args.tabc ⟨[], fun _ => none⟩ _ _ _ _ _ _ _ _ ar
  let T2 : Tab := ⟨[], H⟩
  have hG : ∀ E, @Good T2 w K (fun y => if y = "@" then some { io := List.replicate n false, run := step, id := some fa } else none) N cs k (defScope st) (fun y => !(y == lamM) && !(y == mkM)) (cxOf CX0 P w K mg base N x (defScope st) f cdv A outer s H E).nox := fun E =>
    @Good.mk T2 _ _ _ _ _ _ _ _ _ rfl rfl rfl rfl (fun _ _ => rfl) rfl S.nd hr' (fun z => by simp at z) S.kind (fun h => by simp at h) blt cst (fun g sp h hat => by
        simp only [if_neg hat] at h
        cases h) (fun _ sp h => by
        simp only [if_pos, Option.some.injEq] at h
        subst h
        refine ⟨fa, n, rfl, rfl, fun i a y es p1 p2 t hNi hv hd hcd2 hPA hst hpl2 => ⟨fun pinsZ sZ σZ HZ QZ IZ hz => ?_⟩⟩
        obtain ⟨hsl, ht⟩ := hz
        refine wpAny_Call_Name_kw (thn ((pe_var (pos := p1) (i := i) hNi hv hd hcd2).run pinsZ sZ σZ HZ (fun v H1 => v = .ref fa ∧ H1 = HZ) IZ ⟨.ref fa, hsl, rfl, rfl⟩) fun u s1 ⟨v, H1, I1, r1, q1⟩ => ?_)
        obtain ⟨ev, eH⟩ := q1
        subst ev
        rw [eH] at I1
        obtain rfl : u = Value.ref fa := r1
        refine PySem.W.callWith_F (LOk.1 s1 HZ I1.base) (thn (hPA.run p2 pinsZ s1 σZ HZ _ I1 ht) fun us2 s2 ⟨vs2, H2, I2, r2, hsub, hsp2⟩ => ⟨LOk.1 s2 H2 I2.base, ?_⟩) hst (hpl2 _)
        refine wpAny_call (codeAny_mono (LOk.2 _ _ s2 H2 us2 vs2 QZ hr' I2.env0 I2.nolimit I2.base hsub r2 hsp2) fun r s3 hq => ?_)
        cases r with
        | error e =>
          obtain ⟨_, _, _, _, _, _, _, _, _, _, _, _, z⟩ := (show L2.CX P w _ H2 s2 E0 e s3 from hq)
          exact z.elim
        | ok fl =>
          cases fl with
          | ret u => exact I2.after hq
          | next => exact False.elim hq
          | brk => exact False.elim hq
          | cont => exact False.elim hq)
  obtain ⟨t, h1, h2⟩ := @body_of T2 w K _ _ N ps.length k re body { io := io, run := hh fa step } cs _ _ _ H (.ref fa :: vs) Q ds bs Qd [] (hG E0) hN hps hpl (hk fa step) (fun j _ z => nio z) chk PassesOwn.never
    (@Args.mk T2 _ _ _ _ _ _ _ _ lv (@Args.ld ⟨[], fun _ => none⟩ _ _ _ _ _ _ _ _ ar) (@Args.lb ⟨[], fun _ => none⟩ _ _ _ _ _ _ _ _ ar) (@Args.rep ⟨[], fun _ => none⟩ _ _ _ _ _ _ _ _ ar) (fun j b z => absurd z nio) (fun j k b c y _ z => absurd z nio) (fun _ z => nomatch z) (fun _ z => nomatch z) (fun _ _ _ _ _ z => nomatch z)) hrun
    (fun r ds' v H' bs' B F' qd ou => by
      have oe := @Outs.ext T2 _ _ _ _ _ _ _ _ _ _ _ _ _ _ ou
      have hsub : Sub H H' := fun y u hy => oe.keep y u hy fun z => z.elim nset (fun z => nomatch z)
      have hBn : ∀ y ∈ B, H y = none := fun y hy => (oe.from_ y (.inr hy)).elim (fun z => z.elim (fun z => (nset z).elim) (fun z => nomatch z)) id
      refine q r ds' v H' bs' B F0 qd (@Outs.mk ⟨[], fun _ => none⟩ _ _ _ _ _ _ _ _ _ _ _ _ _ _ (@Outs.lb T2 _ _ _ _ _ _ _ _ _ _ _ _ _ _ ou) (@Outs.ld T2 _ _ _ _ _ _ _ _ _ _ _ _ _ _ ou) ⟨fun y u hy _ => hsub y u hy, fun y hy => ?_⟩ (fun j u d b z => absurd z nio) (fun j k b c y _ z => absurd z nio) (@Outs.ret T2 _ _ _ _ _ _ _ _ _ _ _ _ _ _ ou) (@Outs.nd T2 _ _ _ _ _ _ _ _ _ _ _ _ _ _ ou) (fun y hy z => ?_) (fun y _ z => nset z) (fun y hy => ?_) (fun p hp => nomatch hp))
      · rcases hy with hy | hy
        · rcases hy with hy | hy
          · exact (nset hy).elim
          · exact .inl (.inr hy)
        · exact .inr (hBn y hy)
      · rcases z with z | z
        · exact nset z
        · have := tc0 y z; rw [hBn y hy] at this; exact this
      · have := tc0 y hy
        cases hz : H y with
        | none => rw [hz] at this; exact this.elim
        | some u => rw [hsub y u hz]; rw [hz] at this; exact this)
    (fun y o hy => ⟨hy, fun z => z.elim nset (fun z => nomatch z)⟩)
  exact ⟨t, h1.nox, h2⟩
/-- a def without lambdas -/
theorem ok_of {y x : Str} {st : Stmt} {f : Addr} {fd : FuncData} {N ps : List Str} {k : Nat} {re : List Nat} {body : List S} {sp : Spec} {cs : List (String × K0)} (F : Fun K y x st f fd) (S : FnScope N ps (defScope st)) (hN : N.length ≤ tabI) (hps : ps.length = sp.io.length)
    (hk : Keeps Φ N.length re body sp) (hre : ∀ j ∈ re, sp.io[j]? ≠ some true) (chk : chkSs N cs (defScope st) (fun y => !(y == lamM) && !(y == actM)) (fxOf ps.length re) body (defBody st) = true)
    (blt : ∀ x ∈ bnames, mg (s_ x) = none) (cst : ∀ p ∈ cs, ∃ u, mg (s_ p.1) = some u ∧ RelV p.2.v u) (fns : Defs P w K mg base Φ k) (h0 : ∀ y, Tab.h0 y = none := by intro y; rfl) : FnOk P w K mg base CX0 (k + 2) f fd ps (spD w K sp) :=
  ok_ofG (ex := 1) F S hN hps hk hre chk (by simp) (fun h => by simp at h) (fun _ => Nat.le_refl _) blt cst fns h0
theorem Defs.mono {j k : Nat} (h : Defs P w K mg base Φ j) (hjk : j ≤ k) : Defs P w K mg base Φ k := fun f sp hf hat =>
  let ⟨a, fd, ps, F, h1, h3, h4, h5⟩ := h f sp hf hat; ⟨a, fd, ps, F.mono hjk, h1, h3, fun z => (h4 z).mono hjk, h5⟩
/-- one def more -/
def Phi.add (Φ : Phi) (x : String) (sp : Spec) : Phi := fun y => if y = x then some sp else Φ y
theorem Defs.add {k : Nat} {x : String} {sp : Spec} {f : Addr} {fd : FuncData} {ps : List Str} (h : Defs P w K mg base Φ k) (F : FnOk P w K mg base CX0 k f fd ps (spD w K sp)) (hm : mg (s_ x) = some (.ref f)) (hk : PySem.W.keepIn K (.ref f) = true) (hb : Binds K fd ps []) (hp : sp.pure = true → FnOk P w K mg base CX0 k f fd ps (@spD ⟨[], fun _ => none⟩ w K sp) := by intro h; cases h) (ho : ∀ n h, sp.ho = some (n, h) → HoOk P w K mg base f sp.io n h := by intro n h z; cases z) (him : isM x = false := by decide +kernel) : Defs P w K mg base (Φ.add x sp) k := fun y sp' hy hat => by
  unfold Phi.add at hy
  split at hy
  · rename_i e
    cases hy
    subst e
    exact ⟨f, fd, ps, F, ⟨fun _ => ⟨hm, hk⟩, fun z => by rw [him] at z; cases z⟩, hb, hp, ho⟩
  · exact h y sp' hy hat
theorem Defs.addM {k : Nat} {x : String} {sp : Spec} {f : Addr} {fd : FuncData} {ps : List Str} (h : Defs P w K mg base Φ k) (F : FnOk P w K mg base CX0 k f fd ps (spD w K sp)) (hm : Meth K (He.ga K (s_ (spl x).1)) (s_ (spl x).2) f) (hi : (spl x).2 = "__init__" → ClsOk K (spl x).1 ∧ mg (s_ (spl x).1) = some (.ref (He.ga K (s_ (spl x).1))) ∧ Mk K (He.ga K (s_ (spl x).1)) f) (hb : Binds K fd ps []) (hp : sp.pure = true → FnOk P w K mg base CX0 k f fd ps (@spD ⟨[], fun _ => none⟩ w K sp) := by intro h; cases h) (ho : sp.ho = none := by rfl) (him : isM x = true := by decide +kernel) : Defs P w K mg base (Φ.add x sp) k := fun y sp' hy hat => by
  unfold Phi.add at hy
  split at hy
  · rename_i e
    cases hy
    subst e
    exact ⟨f, fd, ps, F, ⟨fun z => (by rw [him] at z; cases z), fun _ => ⟨hm, hi⟩⟩, hb, hp, fun n h z => by rw [ho] at z; cases z⟩
  · exact h y sp' hy hat
theorem fn_never {k : Nat} {f : Addr} {fd : FuncData} {ps : List Str} {sp : Spec} (h : ∀ ds Q, sp.run ds Q → False) : FnOk P w K mg base CX0 k f fd ps (spD w K sp) :=
  ⟨fun vs H Q E ⟨ds, bs, Qd, F, _, hr, _⟩ => (h ds Qd hr).elim, fun A outer s H args us vs Q E _ _ _ _ ⟨ds, bs, Qd, F, _, hr, _⟩ => (h ds Qd hr).elim⟩
theorem Defs.nil {k : Nat} : Defs P w K mg base (fun _ => none) k := fun _ _ h _ => by cases h
theorem law_start0 {n : Nat} {H : Hp} {a : Addr} {ns : List Int} (hl : ns.length ≤ n) (hR : RoL K H a (ns.map V.int)) (ht : ∀ p ∈ Tab.tt, H p.1 = some (.tbl #[])) : spD w K (lawSp n) [.ref a] H (fun v _ => v = .bl true) fun _ _ _ => False := by
  refine ⟨[.ro ns], [[]], fun r _ => r = .bl true, Tab.tt.map (·.1), ⟨rfl, rfl, rfl, fun j v d b h1 h2 h3 => ?_, fun j b h => ?_, fun j k b c x _ h => ?_, fun x hx => ?_, fun p hp => ⟨List.mem_map.mpr ⟨p, hp, rfl⟩, #[], ht p hp, trivial, fun pos cv hc => by simp [codeAmong] at hc⟩, fun j b x h1 h2 => ?_⟩, ⟨ns, rfl, hl, rfl⟩, fun r ds' v H' bs' B F' hr ou => ?_⟩
  · cases j with
    | zero => simp at h1 h2 h3; subst h1 h2 h3; exact .ro hR
    | succ j => simp at h1
  · cases j with
    | zero => simp [lawSp] at h
    | succ j => simp [lawSp] at h
  · cases j with
    | zero => simp [lawSp] at h
    | succ j => simp [lawSp] at h
  · obtain ⟨p, hp, rfl⟩ := List.mem_map.mp hx
    rw [ht p hp]; trivial
  · cases j with
    | zero => simp at h1; subst h1; cases h2
    | succ j => simp at h1
  · subst hr
    have := ou.ret
    cases this
    rfl
theorem law_start {n : Nat} {H : Hp} {a : Addr} {ns : List Int} (h0 : Tab.tt = []) (hl : ns.length ≤ n) (hO : Only H) (hS : SqL K H a (ns.map V.int)) : spD w K (lawSp n) [.ref a] H (fun v _ => v = .bl true) fun _ _ _ => False := by
  have hR : RoL K H a (ns.map V.int) := by
    rcases hS with (h | h) | h
    · rcases hO a with z | ⟨o, xs, z⟩
      · rw [z] at h; cases h
      · rw [z] at h; cases h
    · exact .inl h
    · exact .inr h
  exact law_start0 hl hR fun p hp => by rw [h0] at hp; cases hp
end
end Dl
/-! DlEnd: the end of a law with lambdas: the script's list is locked, the tables are empty at first. -/
namespace Dl
open PySem PySem.Spec PyProof.Rows L2
/-- .. or the list may be locked -/
def orLock (sp : Sp) : Sp := fun vs H Q E => sp vs H Q E ∨ ∃ a xs, vs = [.ref a] ∧ H a = some (.lst xs) ∧ ∀ od, sp vs (upd H a (.frz od (.lst xs))) Q E
section
variable {P : Program} {w : World} {K : PySem.W.Frag} {mg : Str → Option Value} {base : Heap}
theorem FnOk.lockL {k : Nat} {f : Addr} {fd : FuncData} {x : Str} {sp : Sp} (F : FnOk P w K mg base CX0 k f fd [x] sp) : FnOk P w K mg base CX0 k f fd [x] (orLock sp) := by
  refine ⟨fun vs H Q E h => ?_, fun A outer s H args us vs Q E hr e0 hb rv h => ?_⟩
  · rcases h with h | ⟨a, xs, rfl, _⟩
    · exact F.len vs H Q E h
    · rfl
  · rcases h with h | ⟨a, xs, rfl, ha, h⟩
    · exact F.run A outer s H args us vs Q E hr e0 hb rv h
    · have x := e0.hok a _ ha
      obtain ⟨od, e⟩ : ∃ od, s.heap.get? a = some od := by obtain ⟨_, _, _, _, e⟩ := x; exact ⟨_, e⟩
      have ne : ∀ {b : Addr}, H b = none → b ≠ a := fun {b} q z => by rw [z, ha] at q; cases q
      have up : ∀ {b : Addr}, b ≠ a → upd H a (.frz od (.lst xs)) b = H b := fun h => upd_ne h
      have new : ObjOk P w (upd H a (.frz od (.lst xs))) s.heap a (.frz od (.lst xs)) := by
        refine ⟨e, x.stay (fun b v _ q => q) (fun b q => ?_) fun b ys q => ?_⟩
        · rw [upd_ne (fun z => by rw [z, ha] at q; cases q)]; exact q
        · rw [upd_ne (fun z => by rw [z, ha] at q; cases q)]; exact q
      have hok : HOk P w (upd H a (.frz od (.lst xs))) s.heap := e0.hok.write (x := a) (e := a) (by rw [ha]; trivial) (.inl rfl) (fun b v _ q => q) ⟨od, e⟩ new
      have e0' : Env0 P w K mg base A outer s (upd H a (.frz od (.lst xs))) := ⟨e0.frames, e0.mod, fun b o q => by
        obtain ⟨q1, q2⟩ := e0.bs b o q
        exact ⟨q1, by rw [up (ne q2)]; exact q2⟩, e0.bsz, e0.funs, fun b hb => by rw [up (ne (e0.frf b hb))]; exact e0.frf b hb, hok, e0.bare⟩
      refine codeAny_mono (F.run A outer s _ args us _ Q E hr e0' hb rv (h od)) fun r s' hq => ?_
      cases r with
      | error e => exact hq
      | ok fl =>
        cases fl with
        | ret u =>
          have hq : CE outer P w (upd H a (.frz od (.lst xs))) s Q u s' := hq
          obtain ⟨v, H', os, bare, un, hok', r, q⟩ := hq
          refine ⟨v, H', os, bare, ⟨fun b o g n => un.keep b o g (by rw [up (ne n)]; exact n), fun b o g n => un.slot b o g (by rw [up (ne n)]; exact n), fun b o g n => un.free b o g (by rw [up (ne n)]; exact n), un.there, fun b ys g => ?_, fun b o u g => ?_, fun b ps g => ?_⟩, hok', r, q⟩
          · exact un.tups b ys (by rw [up (fun z => by rw [z, ha] at g; cases g)]; exact g)
          · exact un.frzs b o u (by rw [up (fun z => by rw [z, ha] at g; cases g)]; exact g)
          · exact un.tbls b ps (by rw [up (fun z => by rw [z, ha] at g; cases g)]; exact g)
        | next => exact hq
        | brk => exact hq
        | cont => exact hq
end
section
variable [Tab] {w : World} {K : PySem.W.Frag}
theorem law_startT {n : Nat} {H : Hp} {a : Addr} {ns : List Int} (hl : ns.length ≤ n) (ht : ∀ p ∈ Tab.tt, H p.1 = some (.tbl #[])) (hS : SqL K H a (ns.map V.int)) : orLock (spD w K (lawSp n)) [.ref a] H (fun v _ => v = .bl true) fun _ _ _ => False := by
  rcases hS with (h | ⟨o, h⟩) | h
  · refine .inr ⟨a, _, rfl, h, fun od => law_start0 hl (.inl ⟨od, upd_same⟩) fun p hp => ?_⟩
    rw [upd_ne (fun z => by have := ht p hp; rw [z, h] at this; cases this)]
    exact ht p hp
  · exact .inl (law_start0 hl (.inl ⟨o, h⟩) ht)
  · exact .inl (law_start0 hl (.inr h) ht)
end
/-- a def's code object -/
theorem code_of {K : PySem.W.Frag} {x qual : Str} {params : Arguments} {body : List Stmt} {scope : Scope} {dvs : List V} {kws : List (Str × V)} {p : Str × Option Str} {fd : FuncData} (F : FunD K x qual params body scope dvs kws (He.fAd K p) fd) : fd.code = .ref (He.codeOf K p) := by
  obtain ⟨oc, od, dV, kV, doc, pm, an, cdv, ct, osl, rfl, lk, hcd, _⟩ := F.ex
  obtain ⟨c, e⟩ := He.codeIn_ref hcd
  have e2 : (PySem.W.fnOf x qual params body scope dV kV doc pm an cdv ct).code = .ref c := e
  rw [He.codeOf_eq lk e2, e2]
end Dl
/-! DlSim: plain rules for reckoning with what a piece of the language is worth. -/
namespace Dl
open PySem (Str)
@[simp] theorem peek_succ {r s : Option D} {ρ st : DS} {i : Nat} : peek (r :: ρ) (s :: st) (i + 1) = peek ρ st i := by simp [peek]
@[simp] theorem peek_own {r : Option D} {d : D} {ρ st : DS} : peek (r :: ρ) (some d :: st) 0 = some d := by simp [peek]
@[simp] theorem peek_ro {r : Option D} {ρ st : DS} : peek (r :: ρ) (none :: st) 0 = r := by simp [peek]
@[simp] theorem peek_par {c : Prop} [Decidable c] {d : D} {ρ st : DS} : peek ((if c then none else some d) :: ρ) ((if c then some d else none) :: st) 0 = some d := by
  split <;> simp
@[simp] theorem peek_nil {ρ : DS} {i : Nat} : peek ρ [] i = (ρ[i]?).join := by simp [peek]
theorem hide_nil {st : DS} : hide [] st = st := rfl
theorem hide_cons {i : Nat} {L : List Nat} {st : DS} : hide (i :: L) st = (hide L st).set i none := rfl
theorem restore_nil {st st' : DS} : restore [] st st' = st' := rfl
theorem restore_cons {i : Nat} {L : List Nat} {st st' : DS} : restore (i :: L) st st' = (restore L st st').set i (st[i]?.join) := rfl
/-- a comprehension whose parts change nothing -/
theorem wComp_pure {we : DS → DS → (D → DS → Prop) → Prop} {wt : DS → DS → (Bool → DS → Prop) → Prop} {tg : Tg} {ρ st : DS} (p : D → Bool) (f : D → D) (hs : hide tg.slots st = st) : ∀ {xs : List D} {acc : List D} {Q : List D → DS → Prop},
    (∀ x ∈ xs, ∀ Q : DS → Prop, (∀ ρ1, ((∀ Q, Q (p x) st → wt ρ1 st Q) ∧ (p x = true → ∀ Q, Q (f x) st → we ρ1 st Q)) → Q ρ1) → setTg ρ tg x Q) → Q (acc ++ (xs.filter p).map f) st → wComp we wt tg ρ xs acc st Q
  | [], acc, Q, _, q => by simpa [wComp] using q
  | x :: xs, acc, Q, h, q => by
    rw [wComp]
    refine h x List.mem_cons_self _ fun ρ1 ⟨h1, h2⟩ => h1 _ ?_
    have hr : ∀ y ∈ xs, _ := fun y hy => h y (List.mem_cons_of_mem _ hy)
    by_cases hp : p x = true
    · rw [if_pos hp]
      refine h2 hp _ ?_
      rw [hs]
      refine wComp_pure p f hs hr ?_
      simpa [List.filter_cons, hp] using q
    · rw [if_neg hp, hs]
      refine wComp_pure p f hs hr ?_
      simpa [List.filter_cons, hp] using q
theorem wComp_nm {we : DS → DS → (D → DS → Prop) → Prop} {wt : DS → DS → (Bool → DS → Prop) → Prop} {i : Nat} {ρ st : DS} (p : D → Bool) (f : D → D) {xs : List D} {Q : List D → DS → Prop} (hs : hide [i] st = st)
    (ht : ∀ x ∈ xs, ∀ Q, Q (p x) st → wt (ρ.set i (some x)) st Q) (he : ∀ x ∈ xs, p x = true → ∀ Q, Q (f x) st → we (ρ.set i (some x)) st Q) (q : Q ((xs.filter p).map f) st) : wComp we wt (.nm i) ρ xs [] st Q :=
  wComp_pure (tg := .nm i) p f hs (fun x hx Q k => by rw [setTg]; exact k _ ⟨ht x hx, he x hx⟩) (by simpa using q)
/-- .. without a test -/
theorem wComp_all {we : DS → DS → (D → DS → Prop) → Prop} {wt : DS → DS → (Bool → DS → Prop) → Prop} {i : Nat} {ρ st : DS} (f : D → D) {xs : List D} {Q : List D → DS → Prop} (hs : hide [i] st = st) (hw : ∀ ρ st Q, Q true st → wt ρ st Q)
    (he : ∀ x ∈ xs, ∀ Q, Q (f x) st → we (ρ.set i (some x)) st Q) (q : Q (xs.map f) st) : wComp we wt (.nm i) ρ xs [] st Q :=
  wComp_nm (fun _ => true) f hs (fun x hx Q q => hw _ _ _ q) (fun x hx _ => he x hx) (by rw [List.filter_eq_self.mpr fun _ _ => rfl]; exact q)
theorem wE_fn0 {Φ : Phi} {f : String} {sp : Spec} (hf : Φ f = some sp) (hio : sp.io.any id = false) {es : Es} {ρ st : DS} {Q : D → DS → Prop} : wE Φ (.fn f es) ρ st Q = wAs Φ es ρ st fun ds st1 => sp.io.length = ds.length ∧ sp.run ds fun r ds' => ds' = ds ∧ Q r st1 := by
  rw [wE, hf]; simp only [hio]
theorem wE_fn1 {Φ : Phi} {f : String} {sp : Spec} (hf : Φ f = some sp) (hio : sp.io.any id = true) {es : Es} {is js : List Nat} (hs : ioSlots sp.io es = some (is, js)) (nd : is.Nodup) (dj : ∀ i ∈ js, i ∉ is) {ρ st : DS} {Q : D → DS → Prop} :
    wE Φ (.fn f es) ρ st Q = wAs Φ es ρ st fun ds st1 => (∀ i ∈ is, isRw st1 i = true) ∧ sp.run ds fun r ds' => ds'.length = ds.length ∧ Q r (putIO sp.io es ds' st1) := by
  rw [wE, hf]; simp only [hio, hs]
  rw [eq_iff_iff]
  exact ⟨fun h => h.2.2, fun h => ⟨nd, dj, h⟩⟩
/-- a comprehension: what is walked, then its turns -/
theorem wE_comp {Φ : Phi} {elt : E} {tg : Tg} {it : It} {ifs : Es} {own : List (String × Nat)} {ρ st : DS} {Q : D → DS → Prop} : wE Φ (.comp elt tg it ifs own) ρ st Q = wIt Φ it ρ st fun xs root st1 => xs.length ≤ lim ∧
      wComp (wE Φ elt) (wT Φ ifs) tg (hide (own.map (·.2)) (lock ρ st1 root)) xs [] (hide (root.toList ++ own.map (·.2)) st1) fun ys st2 =>
        Q (.lst ys) (restore (root.toList ++ own.map (·.2)) st1 st2) := by (first | (rw [wE]; done) | (rw [wE]; rfl))
/-- THE COMPREHENSION, by an invariant over what is left and what is gathered -/
theorem wComp_rule {we : DS → DS → (D → DS → Prop) → Prop} {wt : DS → DS → (Bool → DS → Prop) → Prop} {tg : Tg} {ρ : DS} {Q : List D → DS → Prop} (I : List D → List D → DS → Prop)
    (hs : ∀ x r acc st, I (x :: r) acc st → ∀ (Kt : D → DS → Prop) (Kf : DS → Prop), (∀ y st', I r (acc ++ [y]) (hide tg.slots st') → Kt y st') → (∀ st', I r acc (hide tg.slots st') → Kf st') → setTg ρ tg x fun ρ1 => wt ρ1 st fun b st2 => if b then we ρ1 st2 Kt else Kf st2)
    (hd : ∀ acc st, I [] acc st → Q acc st) : ∀ (xs acc : List D) (st : DS), I xs acc st → wComp we wt tg ρ xs acc st Q
  | [], acc, st, h => by rw [wComp]; exact hd acc st h
  | x :: xs, acc, st, h => by
    rw [wComp]
    exact hs x xs acc st h _ _ (fun y st' h' => wComp_rule I hs hd xs _ _ h') (fun st' h' => wComp_rule I hs hd xs _ _ h')
/-- THE LOOP, by an invariant I over what is left; Ib: where it breaks, Ir: where it returns -/
theorem wS_for {Φ : Phi} {tg : Tg} {it : It} {body : List S} {ρ st : DS} {N : Ends} (xs : List D) (root : Option Nat) (st1 : DS) (I : List D → DS → Prop) (Ib : DS → Prop) (Ir : D → DS → Prop) (hit : ∀ Q, Q xs root st1 → wIt Φ it ρ st Q) (hl : xs.length ≤ lim) (h0 : I xs (hide root.toList st1))
    (hs : ∀ x r st2, I (x :: r) st2 → ∀ (Kn Kb : DS → Prop) (Kr : D → DS → Prop), (∀ st', I r st' → Kn st') → (∀ st', Ib st' → Kb st') → (∀ d st', Ir d st' → Kr d st') → setTgF (lock ρ st1 root) st2 tg x fun ρ1 st3 => wSs Φ body ρ1 { nx := Kn, ct := Kn, bk := Kb, rt := Kr } st3)
    (hd : ∀ st2, I [] st2 → N.nx (restore root.toList st1 st2)) (hb : ∀ st2, Ib st2 → N.nx (restore root.toList st1 st2)) (hr : ∀ d st2, Ir d st2 → N.rt d (restore root.toList st1 st2)) : wS Φ (.for_ tg it body) ρ N st := by
  rw [wS]
  refine hit _ ⟨hl, ?_⟩
  have key : ∀ (xs : List D) (st2 : DS), I xs st2 → wFor tg (wSs Φ body) { nx := fun st2 => N.nx (restore root.toList st1 st2), rt := fun d st2 => N.rt d (restore root.toList st1 st2) } (lock ρ st1 root) xs st2 := by
    intro xs
    induction xs with
    | nil => exact fun st2 h => hd st2 h
    | cons x r ih => exact fun st2 h => hs x r st2 h _ _ _ (fun st' h' => ih st' h') hb hr
  exact key xs _ h0
/-- .. a loop without an end within -/
theorem wS_for0 {Φ : Phi} {tg : Tg} {it : It} {body : List S} {ρ st : DS} {N : Ends} (xs : List D) (root : Option Nat) (st1 : DS) (I : List D → DS → Prop) (hit : ∀ Q, Q xs root st1 → wIt Φ it ρ st Q) (hl : xs.length ≤ lim) (h0 : I xs (hide root.toList st1))
    (hs : ∀ x r st2, I (x :: r) st2 → ∀ (Kn Kb : DS → Prop) (Kr : D → DS → Prop), (∀ st', I r st' → Kn st') → setTgF (lock ρ st1 root) st2 tg x fun ρ1 st3 => wSs Φ body ρ1 { nx := Kn, ct := Kn, bk := Kb, rt := Kr } st3)
    (hd : ∀ st2, I [] st2 → N.nx (restore root.toList st1 st2)) : wS Φ (.for_ tg it body) ρ N st :=
  wS_for xs root st1 I (fun _ => False) (fun _ _ => False) hit hl h0 (fun x r st2 h Kn Kb Kr k _ _ => hs x r st2 h Kn Kb Kr k) hd (fun _ z => z.elim) (fun _ _ z => z.elim)
/-- .. what is walked changes nothing -/
theorem wS_forS {Φ : Phi} {tg : Tg} {it : It} {body : List S} {ρ st : DS} {N : Ends} (xs : List D) (root : Option Nat) (I : List D → DS → Prop) (hit : ∀ Q : List D → Option Nat → DS → Prop, Q xs root st → wIt Φ it ρ st Q) (hl : xs.length ≤ lim) (h0 : I xs (hide root.toList st))
    (hs : ∀ x r st2, I (x :: r) st2 → ∀ (Kn Kb : DS → Prop) (Kr : D → DS → Prop), (∀ st', I r st' → Kn st') → setTgF (lock ρ st root) st2 tg x fun ρ1 st3 => wSs Φ body ρ1 { nx := Kn, ct := Kn, bk := Kb, rt := Kr } st3)
    (hd : ∀ st2, I [] st2 → N.nx (restore root.toList st st2)) : wS Φ (.for_ tg it body) ρ N st := wS_for0 xs root st I hit hl h0 hs hd
/-- the loop by an own invariant -/
theorem wFor_ind {tg : Tg} {wb : DS → Ends → DS → Prop} {D0 : Ends} {ρ : DS} (I : List D → DS → Prop) (hs : ∀ x r st, I (x :: r) st → (∀ st', I r st' → wFor tg wb D0 ρ r st') → wFor tg wb D0 ρ (x :: r) st) (hd : ∀ st, I [] st → D0.nx st) : ∀ {xs : List D} {st : DS}, I xs st → wFor tg wb D0 ρ xs st
  | [], st, h => hd st h
  | x :: xs, st, h => hs x xs st h fun st' h' => wFor_ind I hs hd h'
theorem immut_ints {ns : List Int} : immutAll (ns.map D.int) = true := immutAll_map fun _ _ => rfl
@[simp] theorem tup_imm {xs : List D} : (D.tup xs).immut = immutAll xs := by simp [D.immut]
@[simp] theorem int_imm {i : Int} : (D.int i).immut = true := by simp [D.immut]
@[simp] theorem non_imm : D.non.immut = true := by simp [D.immut]
@[simp] theorem bl_imm {b : Bool} : (D.bl b).immut = true := by simp [D.immut]
@[simp] theorem ro_imm {b : List Int} : (D.ro b).immut = true := by simp [D.immut]
@[simp] theorem lst_imm {b : List D} : (D.lst b).immut = false := by simp [D.immut]
@[simp] theorem dct_imm {b : List (D × D)} : (D.dct b).immut = false := by simp [D.immut]
@[simp] theorem immutAll_nil : immutAll [] = true := by simp [immutAll]
@[simp] theorem immutAll_cons {x : D} {xs : List D} : immutAll (x :: xs) = (x.immut && immutAll xs) := by simp [immutAll]
theorem plainAll_iff {n : Nat} : ∀ {xs : List D}, plainAllN n xs = true ↔ ∀ x ∈ xs, plainN n x = true
  | [] => by simp [plainAllN]
  | x :: xs => by simp [plainAllN, plainAll_iff (xs := xs)]
@[simp] theorem eqv_nil {xs : List D} : eqv (.lst xs) (.lst []) = xs.isEmpty := by cases xs <;> simp [eqv, eqvAll]
@[simp] theorem eqv_int {i j : Int} : eqv (.int i) (.int j) = decide (i = j) := by simp only [eqv]; rw [Bool.eq_iff_iff]; simp
mutual
theorem eqv_refl : ∀ (n : Nat) (d : D), plainN n d = true → eqv d d = true
  | _, .non, _ => by simp [eqv]
  | _, .bl _, _ => by simp [eqv]
  | _, .int _, _ => by simp [eqv]
  | _, .str _, _ => by simp [eqv]
  | n + 1, .tup xs, h => by simp only [plainN] at h; simp only [eqv]; exact eqvAll_refl n xs h
  | n + 1, .lst xs, h => by simp only [plainN] at h; simp only [eqv]; exact eqvAll_refl n xs h
  | 0, .tup _, h => by simp [plainN] at h
  | 0, .lst _, h => by simp [plainN] at h
  | _, .dct _, h => by simp [plainN] at h
  | _, .ro _, h => by simp [plainN] at h
  | _, .fz _, h => by simp [plainN] at h
  | _, .rl _, h => by simp [plainN] at h
  | _, .obj _ _, h => by simp [plainN] at h
theorem eqvAll_refl : ∀ (n : Nat) (ds : List D), plainAllN n ds = true → eqvAll ds ds = true
  | _, [], _ => by simp [eqvAll]
  | n, x :: xs, h => by
    simp only [plainAllN, Bool.and_eq_true] at h
    simp only [eqvAll, eqv_refl n x h.1, eqvAll_refl n xs h.2, Bool.and_self]
end
@[simp] theorem kd_non  : K0.d .non = .non := rfl
@[simp] theorem kd_bl {b : Bool} : K0.d (.bl b) = .bl b := rfl
@[simp] theorem kd_int {i : Int} : K0.d (.int i) = .int i := rfl
@[simp] theorem kd_str {x : String} : K0.d (.str x) = .str (Str.ofString x) := rfl
@[simp] theorem b_add {i j : Int} : binop .add (.int i) (.int j) = some (.int (i + j)) := rfl
@[simp] theorem b_sub {i j : Int} : binop .sub (.int i) (.int j) = some (.int (i - j)) := rfl
@[simp] theorem b_mod {i j : Int} : binop .mod (.int i) (.int j) = if j ≠ 0 then some (.int (i.fmod j)) else none := rfl
@[simp] theorem b_fdiv {i j : Int} : binop .fdiv (.int i) (.int j) = if j ≠ 0 ∧ j.natAbs < 1073741824 then some (.int (i.fdiv j)) else none := rfl
@[simp] theorem b_mul {i j : Int} : binop .mul (.int i) (.int j) = if mulOk i j then some (.int (i * j)) else none := rfl
theorem mulOk_l {i j : Int} (h1 : -1000000000000 ≤ i) (h2 : i ≤ 1000000000000) : mulOk i j = true := by unfold mulOk; rw [decide_eq_true_iff]; left; omega
theorem mulOk_r {i j : Int} (h1 : -1000000000000 ≤ j) (h2 : j ≤ 1000000000000) : mulOk i j = true := by unfold mulOk; rw [decide_eq_true_iff]; right; omega
@[simp] theorem b_pow {i j : Int} : binop .pow (.int i) (.int j) = if 0 ≤ j ∧ j ≤ 1000 ∧ i.natAbs < 2 ^ 64 then some (.int (i ^ j.toNat)) else none := rfl
@[simp] theorem b_addL {xs ys : List D} : binop .add (.lst xs) (.lst ys) = if immutAll xs && immutAll ys && decide (xs.length + ys.length ≤ lim) then some (.lst (xs ++ ys)) else none := rfl
@[simp] theorem b_addT {xs ys : List D} : binop .add (.tup xs) (.tup ys) = if immutAll xs && immutAll ys && decide (xs.length + ys.length ≤ lim) then some (.tup (xs ++ ys)) else none := rfl
@[simp] theorem b_mulL {xs : List D} {k : Int} : binop .mul (.lst xs) (.int k) = if immutAll xs && decide (0 ≤ k) && decide (k ≤ 1000000) && decide (xs.length * k.toNat ≤ lim) then some (.lst (List.replicate k.toNat xs).flatten) else none := rfl
@[simp] theorem b_mulT {xs : List D} {k : Int} : binop .mul (.tup xs) (.int k) = if immutAll xs && !xs.isEmpty && decide (1 ≤ k) && decide (k ≤ 1000) && decide (xs.length ≤ 1000) then some (.tup (List.replicate k.toNat xs).flatten) else none := rfl
@[simp] theorem c_eqE {kvs : List (D × D)} : cmpop .eq (.dct kvs) (.dct []) = if kvs.all (fun p => p.1.kd == 0) then some kvs.isEmpty else none := rfl
@[simp] theorem c_neE {kvs : List (D × D)} : cmpop .ne (.dct kvs) (.dct []) = if kvs.all (fun p => p.1.kd == 0) then some (!kvs.isEmpty) else none := rfl
@[simp] theorem c_lt {i j : Int} : cmpop .lt (.int i) (.int j) = some (decide (i < j)) := rfl
@[simp] theorem c_le {i j : Int} : cmpop .le (.int i) (.int j) = some (decide (i ≤ j)) := rfl
@[simp] theorem c_gt {i j : Int} : cmpop .gt (.int i) (.int j) = some (decide (j < i)) := rfl
@[simp] theorem c_ge {i j : Int} : cmpop .ge (.int i) (.int j) = some (decide (j ≤ i)) := rfl
@[simp] theorem c_eqI {i j : Int} : cmpop .eq (.int i) (.int j) = some (decide (i = j)) := by simp [cmpop, D.plain, plainN]
@[simp] theorem c_neI {i j : Int} : cmpop .ne (.int i) (.int j) = some (!decide (i = j)) := by simp [cmpop, D.plain, plainN]
@[simp] theorem c_eqB {i j : Bool} : cmpop .eq (.bl i) (.bl j) = some (i == j) := by simp [cmpop, D.plain, plainN, eqv]
@[simp] theorem c_neB {i j : Bool} : cmpop .ne (.bl i) (.bl j) = some (!(i == j)) := by simp [cmpop, D.plain, plainN, eqv]
@[simp] theorem c_eq0 {xs : List D} : cmpop .eq (.lst xs) (.lst []) = some xs.isEmpty := rfl
@[simp] theorem c_ne0 {xs : List D} : cmpop .ne (.lst xs) (.lst []) = some (!xs.isEmpty) := rfl
@[simp] theorem c_eqT0 {xs : List D} : cmpop .eq (.tup xs) (.tup []) = if (D.tup xs).plain then some xs.isEmpty else none := by cases xs <;> simp [cmpop, D.plain, plainN, plainAllN, eqv, eqvAll]
theorem c_eqP {x y : D} (hx : x.plain = true) (hy : y.plain = true) : cmpop .eq x y = some (eqv x y) := by
  cases x <;> first | (simp [D.plain, plainN] at hx; done) | skip
  case lst xs =>
    cases y with
    | lst ys =>
      cases ys with
      | nil => rw [c_eq0, eqv_nil]
      | cons _ _ => simp only [cmpop, hx, hy, Bool.and_self, if_true]
    | _ => simp only [cmpop, hx, hy, Bool.and_self, if_true]
  all_goals (simp only [cmpop, hx, hy, Bool.and_self, if_true])
theorem c_neP {x y : D} (hx : x.plain = true) (hy : y.plain = true) : cmpop .ne x y = some (!eqv x y) := by
  cases x <;> first | (simp [D.plain, plainN] at hx; done) | skip
  case lst xs =>
    cases y with
    | lst ys =>
      cases ys with
      | nil => rw [c_ne0, eqv_nil]
      | cons _ _ => simp only [cmpop, hx, hy, Bool.and_self, if_true]
    | _ => simp only [cmpop, hx, hy, Bool.and_self, if_true]
  all_goals (simp only [cmpop, hx, hy, Bool.and_self, if_true])
@[simp] theorem c_inD {k : D} {kvs : List (D × D)} : cmpop .inn k (.dct kvs) = if keyOk kvs k then some (dget kvs k).isSome else none := rfl
@[simp] theorem c_ninD {k : D} {kvs : List (D × D)} : cmpop .nin k (.dct kvs) = if keyOk kvs k then some (!(dget kvs k).isSome) else none := rfl
@[simp] theorem y_plain_lst {xs : List D} : (D.lst xs).plain = plainAllN 59 xs := by simp [D.plain, plainN]
@[simp] theorem y_plain_tup {xs : List D} : (D.tup xs).plain = plainAllN 59 xs := by simp [D.plain, plainN]
@[simp] theorem plain_int {i : Int} : (D.int i).plain = true := by simp [D.plain, plainN]
@[simp] theorem plain_non  : D.non.plain = true := by simp [D.plain, plainN]
@[simp] theorem plain_nil {n : Nat} : plainAllN n [] = true := by simp [plainAllN]
@[simp] theorem plainN_int {n : Nat} {i : Int} : plainN n (.int i) = true := by cases n <;> simp [plainN]
@[simp] theorem plainN_non {n : Nat} : plainN n .non = true := by cases n <;> simp [plainN]
@[simp] theorem i_lst {xs : List D} {i : Int} : index (.lst xs) (.int i) = atZ xs i := rfl
@[simp] theorem i_tup {xs : List D} {i : Int} : index (.tup xs) (.int i) = atZ xs i := rfl
@[simp] theorem i_ro {xs : List Int} {i : Int} : index (.ro xs) (.int i) = (atZ xs i).map .int := rfl
@[simp] theorem i_dct {kvs : List (D × D)} {k : D} : index (.dct kvs) k = if keyOk kvs k then dget kvs k else none := by cases k <;> rfl
@[simp] theorem l_lst {xs : List D} : bfun .len [.lst xs] = some (.int xs.length) := rfl
@[simp] theorem l_tup {xs : List D} : bfun .len [.tup xs] = some (.int xs.length) := rfl
@[simp] theorem l_ro {xs : List Int} : bfun .len [.ro xs] = some (.int xs.length) := rfl
@[simp] theorem l_dct {xs : List (D × D)} : bfun .len [.dct xs] = some (.int xs.length) := rfl
@[simp] theorem t_lst {xs : List D} : bfun .tuple [.lst xs] = if immutAll xs then some (.tup xs) else none := rfl
@[simp] theorem t_tup {xs : List D} : bfun .tuple [.tup xs] = if immutAll xs then some (.tup xs) else none := rfl
@[simp] theorem li_lst {xs : List D} : bfun .list [.lst xs] = if immutAll xs then some (.lst xs) else none := rfl
@[simp] theorem li_tup {xs : List D} : bfun .list [.tup xs] = if immutAll xs then some (.lst xs) else none := rfl
@[simp] theorem m2 {i j : Int} : bfun .max2 [.int i, .int j] = some (.int (if j > i then j else i)) := rfl
@[simp] theorem n2 {i j : Int} : bfun .min2 [.int i, .int j] = some (.int (if j < i then j else i)) := rfl
@[simp] theorem m1L {xs : List D} : bfun .max1 [.lst xs] = (ints? xs).bind fun ns => (imax ns).map .int := rfl
@[simp] theorem m1T {xs : List D} : bfun .max1 [.tup xs] = (ints? xs).bind fun ns => (imax ns).map .int := rfl
@[simp] theorem it_lst {xs : List D} : items? (.lst xs) = some xs := rfl
@[simp] theorem it_tup {xs : List D} : items? (.tup xs) = some xs := rfl
@[simp] theorem wlk_lst {xs : List D} : walk? (.lst xs) = some xs := rfl
@[simp] theorem wlk_tup {xs : List D} : walk? (.tup xs) = some xs := rfl
@[simp] theorem wlk_fz {kvs : List (D × D)} : walk? (.fz kvs) = some (kvs.map (·.1)) := rfl
theorem walk_of {d : D} {xs : List D} (h : items? d = some xs) : walk? d = some xs := by cases d <;> first | exact h | cases h
@[simp] theorem rl_imm {b : List Int} : (D.rl b).immut = true := by simp [D.immut]
@[simp] theorem wlk_rl {ns : List Int} : walk? (.rl ns) = some (ns.map .int) := rfl
@[simp] theorem l_rl {xs : List Int} : bfun .len [.rl xs] = some (.int xs.length) := rfl
@[simp] theorem i_rl {xs : List Int} {i : Int} : index (.rl xs) (.int i) = (atZ xs i).map .int := rfl
@[simp] theorem fr_lst {xs : List D} : frzD (.lst xs) = (ints? xs).map .rl := rfl
@[simp] theorem b_addR {ns : List Int} {ys : List D} : binop .add (.rl ns) (.lst ys) = if immutAll ys && decide (ns.length + ys.length ≤ lim) then some (.lst (ns.map .int ++ ys)) else none := rfl
@[simp] theorem iok_rl {b : List Int} : isiOk (.rl b) = true := rfl
@[simp] theorem tyn_rl {b : List Int} : D.tyN (.rl b) = "list" := rfl
@[simp] theorem iso_rl_int {b : List Int} : isiOne (.rl b) .int = false := rfl
@[simp] theorem iso_rl_bool {b : List Int} : isiOne (.rl b) .bool = false := rfl
@[simp] theorem iso_rl_tuple {b : List Int} : isiOne (.rl b) .tuple = false := rfl
@[simp] theorem iso_rl_list {b : List Int} : isiOne (.rl b) .list = true := rfl
@[simp] theorem iso_rl_str {b : List Int} : isiOne (.rl b) .str = false := rfl
@[simp] theorem iso_rl_dict {b : List Int} : isiOne (.rl b) .dict = false := rfl
@[simp] theorem fz_imm {b : List (D × D)} : (D.fz b).immut = true := by simp [D.immut]
@[simp] theorem l_fz {xs : List (D × D)} : bfun .len [.fz xs] = some (.int xs.length) := rfl
@[simp] theorem i_fz {kvs : List (D × D)} {k : D} : index (.fz kvs) k = if k.kd == 0 then dget kvs k else none := by cases k <;> rfl
@[simp] theorem di_tup {xs : List D} : bfun .dict1 [.tup xs] = (pairs? xs).map fun ps => .dct (dputs [] ps) := rfl
@[simp] theorem fr_dct {kvs : List (D × D)} : frzD (.dct kvs) = if flatD kvs then some (.fz kvs) else none := rfl
@[simp] theorem ms_lst {xs : List D} {i : Int} {v : D} : mset (.lst xs) (.int i) v = (ixZ xs.length i).map fun k => .lst (xs.set k v) := rfl
@[simp] theorem ms_dct {kvs : List (D × D)} {k v : D} : mset (.dct kvs) k v = if keyOk kvs k && decide (kvs.length < lim) then some (.dct (dput kvs k v)) else none := by cases k <;> rfl
@[simp] theorem c_neT0 {xs : List D} : cmpop .ne (.tup xs) (.tup []) = if (D.tup xs).plain then some (!xs.isEmpty) else none := by cases xs <;> simp [cmpop, D.plain, plainN, plainAllN, eqv, eqvAll]
@[simp] theorem su_lst {xs : List D} : bfun .sum1 [.lst xs] = (ints? xs).map fun ns => .int ns.sum := rfl
@[simp] theorem mi_lst {xs : List D} : bfun .min1 [.lst xs] = match ints? xs with | some ns => (imin ns).map .int | none => minT xs := rfl
@[simp] theorem li_dct {kvs : List (D × D)} : bfun .list [.dct kvs] = if kvs.all (fun p => p.1.kd == 0) || kvs.all (fun p => p.1.kd == 2) then some (.lst (kvs.map (·.1))) else none := rfl
@[simp] theorem di_lst {xs : List D} : bfun .dict1 [.lst xs] = (pairs? xs).map fun ps => .dct (dputs [] ps) := rfl
@[simp] theorem di_dct {kvs : List (D × D)} : bfun .dict1 [.dct kvs] = if kvs.all (fun p => p.1.kd == 0 && p.2.immut) then some (.dct kvs) else none := rfl
@[simp] theorem m1D {kvs : List (D × D)} : bfun .max1 [.dct kvs] = (ints? (kvs.map (·.1))).bind fun ns => (imax ns).map .int := rfl
@[simp] theorem so_dct {kvs : List (D × D)} : bfun .sorted1 [.dct kvs] = if kvs.length < 64 then (ints? (kvs.map (·.1))).map fun ns => .lst ((isort ns).map .int) else none := rfl
@[simp] theorem so_lst {xs : List D} : bfun .sorted1 [.lst xs] = (ints? xs).map fun ns => .lst ((isort ns).map .int) := rfl
@[simp] theorem in_bl {b : Bool} : bfun .int1 [.bl b] = some (.int (if b then 1 else 0)) := rfl
@[simp] theorem in_int {i : Int} : bfun .int1 [.int i] = some (.int i) := rfl
@[simp] theorem sl_l {xs : List D} {lo hi : Option Int} : slice (.lst xs) lo hi = if immutAll xs then some (.lst (cutL xs lo hi)) else none := rfl
@[simp] theorem sl_t {xs : List D} {lo hi : Option Int} : slice (.tup xs) lo hi = if immutAll xs then some (.tup (cutL xs lo hi)) else none := rfl
@[simp] theorem so_00 {x : D} : sliceOf false false [x] = slice x none none := rfl
@[simp] theorem so_10 {x : D} {a : Int} : sliceOf true false [x, .int a] = slice x (some a) none := rfl
@[simp] theorem so_01 {x : D} {a : Int} : sliceOf false true [x, .int a] = slice x none (some a) := rfl
@[simp] theorem so_11 {x : D} {a b : Int} : sliceOf true true [x, .int a, .int b] = slice x (some a) (some b) := rfl
@[simp] theorem lr_1 {tp : Bool} {n : Int} : lrngOf tp false [.int n] = if smallI n then some (if tp then .tup (rangeD 0 n) else .lst (rangeD 0 n)) else none := rfl
@[simp] theorem lr_2 {tp : Bool} {a n : Int} : lrngOf tp true [.int a, .int n] = if smallI a && smallI n then some (if tp then .tup (rangeD a n) else .lst (rangeD a n)) else none := rfl
@[simp] theorem gt_ok {kvs : List (D × D)} : mrOk .get (.dct kvs) = true := rfl
@[simp] theorem gt_dct {kvs : List (D × D)} {k : D} : mread .get (.dct kvs) [k] = if keyOk kvs k && k.kd == 0 then (if ((dget kvs k).getD .non).immut then some ((dget kvs k).getD .non) else none) else none := rfl
@[simp] theorem po_ok {xs : List D} : mmOk .pop1 (.lst xs) = true := rfl
@[simp] theorem in_ok {xs : List D} : mmOk .insert (.lst xs) = true := rfl
@[simp] theorem ex_ok {xs : List D} : mmOk .extend (.lst xs) = true := rfl
@[simp] theorem pd_ok {xs : List (D × D)} : mmOk .pop1 (.dct xs) = true := rfl
@[simp] theorem up_ok {xs : List (D × D)} : mmOk .update (.dct xs) = true := rfl
@[simp] theorem po_lst {xs : List D} {i : Int} : mchg .pop1 (.lst xs) [.int i] = if xs.length ≤ lim then (ixZ xs.length i).bind fun k => (xs[k]?).map fun y => (y, .lst (xs.eraseIdx k)) else none := rfl
@[simp] theorem in_lst {xs : List D} {i : Int} {y : D} : mchg .insert (.lst xs) [.int i, y] = if xs.length < lim ∧ 0 ≤ i ∧ i ≤ 1000000 then some (.non, .lst (xs.take i.toNat ++ [y] ++ xs.drop i.toNat)) else none := rfl
@[simp] theorem ex_lst {xs ys : List D} : mchg .extend (.lst xs) [.lst ys] = if xs.length + ys.length ≤ lim then some (.non, .lst (xs ++ ys)) else none := rfl
@[simp] theorem pd_dct {kvs : List (D × D)} {k : D} : mchg .pop1 (.dct kvs) [k] = if k.kd == 0 && flatD kvs then (dget kvs k).map fun v => (v, .dct (ddrop kvs k)) else none := by cases k <;> rfl
@[simp] theorem up_dct {xs ys : List (D × D)} : mchg .update (.dct xs) [.dct ys] = if flatD xs && flatD ys && decide (xs.length + ys.length ≤ lim) then some (.non, .dct (dputs xs ys)) else none := rfl
@[simp] theorem ap_lst {xs : List D} {y : D} : mchg .append (.lst xs) [y] = if xs.length < lim then some (.non, .lst (xs ++ [y])) else none := rfl
@[simp] theorem ap_ok {xs : List D} : mmOk .append (.lst xs) = true := rfl
@[simp] theorem mr_okL {xs : List D} : mrOk .index (.lst xs) = true := rfl
@[simp] theorem mr_okT {xs : List D} : mrOk .index (.tup xs) = true := rfl
@[simp] theorem iok_non  : isiOk (.non) = true := rfl
@[simp] theorem tyn_non  : D.tyN (.non) = "NoneType" := rfl
@[simp] theorem iso_non_int  : isiOne (.non) .int = false := rfl
@[simp] theorem iso_non_bool  : isiOne (.non) .bool = false := rfl
@[simp] theorem iso_non_tuple  : isiOne (.non) .tuple = false := rfl
@[simp] theorem iso_non_list  : isiOne (.non) .list = false := rfl
@[simp] theorem iso_non_str  : isiOne (.non) .str = false := rfl
@[simp] theorem iso_non_dict  : isiOne (.non) .dict = false := rfl
@[simp] theorem iok_bl {b : Bool} : isiOk (.bl b) = true := rfl
@[simp] theorem tyn_bl {b : Bool} : D.tyN (.bl b) = "bool" := rfl
@[simp] theorem iso_bl_int {b : Bool} : isiOne (.bl b) .int = true := rfl
@[simp] theorem iso_bl_bool {b : Bool} : isiOne (.bl b) .bool = true := rfl
@[simp] theorem iso_bl_tuple {b : Bool} : isiOne (.bl b) .tuple = false := rfl
@[simp] theorem iso_bl_list {b : Bool} : isiOne (.bl b) .list = false := rfl
@[simp] theorem iso_bl_str {b : Bool} : isiOne (.bl b) .str = false := rfl
@[simp] theorem iso_bl_dict {b : Bool} : isiOne (.bl b) .dict = false := rfl
@[simp] theorem iok_int {i : Int} : isiOk (.int i) = true := rfl
@[simp] theorem tyn_int {i : Int} : D.tyN (.int i) = "int" := rfl
@[simp] theorem iso_int_int {i : Int} : isiOne (.int i) .int = true := rfl
@[simp] theorem iso_int_bool {i : Int} : isiOne (.int i) .bool = false := rfl
@[simp] theorem iso_int_tuple {i : Int} : isiOne (.int i) .tuple = false := rfl
@[simp] theorem iso_int_list {i : Int} : isiOne (.int i) .list = false := rfl
@[simp] theorem iso_int_str {i : Int} : isiOne (.int i) .str = false := rfl
@[simp] theorem iso_int_dict {i : Int} : isiOne (.int i) .dict = false := rfl
@[simp] theorem iok_str {x : Str} : isiOk (.str x) = true := rfl
@[simp] theorem tyn_str {x : Str} : D.tyN (.str x) = "str" := rfl
@[simp] theorem iso_str_int {x : Str} : isiOne (.str x) .int = false := rfl
@[simp] theorem iso_str_bool {x : Str} : isiOne (.str x) .bool = false := rfl
@[simp] theorem iso_str_tuple {x : Str} : isiOne (.str x) .tuple = false := rfl
@[simp] theorem iso_str_list {x : Str} : isiOne (.str x) .list = false := rfl
@[simp] theorem iso_str_str {x : Str} : isiOne (.str x) .str = true := rfl
@[simp] theorem iso_str_dict {x : Str} : isiOne (.str x) .dict = false := rfl
@[simp] theorem iok_tup {xs : List D} : isiOk (.tup xs) = true := rfl
@[simp] theorem tyn_tup {xs : List D} : D.tyN (.tup xs) = "tuple" := rfl
@[simp] theorem iso_tup_int {xs : List D} : isiOne (.tup xs) .int = false := rfl
@[simp] theorem iso_tup_bool {xs : List D} : isiOne (.tup xs) .bool = false := rfl
@[simp] theorem iso_tup_tuple {xs : List D} : isiOne (.tup xs) .tuple = true := rfl
@[simp] theorem iso_tup_list {xs : List D} : isiOne (.tup xs) .list = false := rfl
@[simp] theorem iso_tup_str {xs : List D} : isiOne (.tup xs) .str = false := rfl
@[simp] theorem iso_tup_dict {xs : List D} : isiOne (.tup xs) .dict = false := rfl
@[simp] theorem iok_lst {xs : List D} : isiOk (.lst xs) = true := rfl
@[simp] theorem tyn_lst {xs : List D} : D.tyN (.lst xs) = "list" := rfl
@[simp] theorem iso_lst_int {xs : List D} : isiOne (.lst xs) .int = false := rfl
@[simp] theorem iso_lst_bool {xs : List D} : isiOne (.lst xs) .bool = false := rfl
@[simp] theorem iso_lst_tuple {xs : List D} : isiOne (.lst xs) .tuple = false := rfl
@[simp] theorem iso_lst_list {xs : List D} : isiOne (.lst xs) .list = true := rfl
@[simp] theorem iso_lst_str {xs : List D} : isiOne (.lst xs) .str = false := rfl
@[simp] theorem iso_lst_dict {xs : List D} : isiOne (.lst xs) .dict = false := rfl
@[simp] theorem tyn_dct {xs : List (D × D)} : D.tyN (.dct xs) = "dict" := rfl
@[simp] theorem iso_dct_int {xs : List (D × D)} : isiOne (.dct xs) .int = false := rfl
@[simp] theorem iso_dct_bool {xs : List (D × D)} : isiOne (.dct xs) .bool = false := rfl
@[simp] theorem iso_dct_tuple {xs : List (D × D)} : isiOne (.dct xs) .tuple = false := rfl
@[simp] theorem iso_dct_list {xs : List (D × D)} : isiOne (.dct xs) .list = false := rfl
@[simp] theorem iso_dct_str {xs : List (D × D)} : isiOne (.dct xs) .str = false := rfl
@[simp] theorem iso_dct_dict {xs : List (D × D)} : isiOne (.dct xs) .dict = true := rfl
@[simp] theorem isi_one {d : D} {t : Ty} : Dl.isi d [t] = isiOne d t := by simp [Dl.isi]
@[simp] theorem isi_two {d : D} {t u : Ty} : Dl.isi d [t, u] = (isiOne d t || isiOne d u) := by simp [Dl.isi]
@[simp] theorem filt_no {xs : List D} : xs.filter (fun _ => false) = [] := by induction xs <;> simp_all
/-- no item is taken -/
theorem wComp_no {we : DS → DS → (D → DS → Prop) → Prop} {wt : DS → DS → (Bool → DS → Prop) → Prop} {i : Nat} {ρ st : DS} {xs : List D} {Q : List D → DS → Prop} (hs : hide [i] st = st)
    (ht : ∀ x ∈ xs, ∀ Q, Q false st → wt (ρ.set i (some x)) st Q) (q : Q [] st) : wComp we wt (.nm i) ρ xs [] st Q :=
  wComp_nm (fun _ => false) id hs ht (fun _ _ hp => by simp at hp) (by simpa using q)
theorem atZ_nat {α : Type} {xs : List α} {k : Nat} : atZ xs (k : Int) = xs[k]? := by
  unfold atZ
  rw [if_pos (by omega), Int.toNat_natCast]
theorem atZ_of {α : Type} {xs : List α} {i : Int} {k : Nat} {x : α} (hi : i = (k : Int)) (h : xs[k]? = some x) : atZ xs i = some x := by rw [hi, atZ_nat, h]
theorem ixZ_of {n : Nat} {i : Int} {k : Nat} (hi : i = (k : Int)) (h : k < n) : ixZ n i = some k := by
  unfold ixZ
  rw [hi, if_pos (by omega), if_pos (by omega), Int.toNat_natCast]
theorem mem_range {lo n : Int} {x : D} (h : x ∈ rangeD lo n) : ∃ k : Nat, x = .int (lo + k) ∧ lo + k < n := by
  unfold rangeD at h
  obtain ⟨k, hk, rfl⟩ := List.mem_map.mp h
  rw [List.mem_range] at hk
  exact ⟨k, rfl, by omega⟩
@[simp] theorem rv_lst {xs : List D} : revL (.lst xs) = if immutAll xs then some (.lst xs.reverse) else none := rfl
@[simp] theorem imm_ali : D.ali.immut = true := by simp [D.immut]
@[simp] theorem imm_fnc {f : Nat} : (D.fnc f).immut = true := by simp [D.immut]
@[simp] theorem peeks_nil {ρ st : DS} : peeks ρ st [] = some [] := rfl
@[simp] theorem peeks_cons {ρ st : DS} {i : Nat} {is : List Nat} : peeks ρ st (i :: is) = (peek ρ st i).bind fun d => (peeks ρ st is).map (d :: ·) := rfl
theorem range_len {lo n : Int} : (rangeD lo n).length = (n - lo).toNat := by simp [rangeD]
theorem small_of {i : Int} (h1 : -1000000 ≤ i) (h2 : i ≤ 1000000) : smallI i = true := by simp [smallI, h1, h2]
end Dl
/-! DlRule: loops by the number of the turn. -/
namespace Dl
open PySem (Str)
theorem range_dropL {lo n : Int} {k : Nat} {x : D} {r : List D} (h : (rangeD lo n).drop k = x :: r) : x = .int (lo + (k : Int)) ∧ r = (rangeD lo n).drop (k + 1) ∧ lo + (k : Int) < n := by
  have hk : k < (rangeD lo n).length := by
    by_cases hk : k < (rangeD lo n).length
    · exact hk
    · rw [List.drop_eq_nil_of_le (by omega)] at h; cases h
  rw [List.drop_eq_getElem_cons hk] at h
  have h2 := hk
  rw [range_len] at h2
  simp only [List.cons.injEq] at h
  refine ⟨?_, h.2.symm, by omega⟩
  rw [← h.1]
  simp [rangeD]
theorem range_endL {lo n : Int} {k : Nat} (h : (rangeD lo n).drop k = []) : n ≤ lo + (k : Int) := by
  rw [List.drop_eq_nil_iff, range_len] at h
  omega
/-- A LOOP OVER A RANGE: I holds between the turns -/
theorem wS_rng {Φ : Phi} {i : Nat} {it : It} {body : List S} {ρ st : DS} {N : Ends} (lo n : Int) (I : Nat → DS → Prop)
    (hit : ∀ Q : List D → Option Nat → DS → Prop, Q (rangeD lo n) none st → wIt Φ it ρ st Q) (hn : n - lo ≤ 1000000) (h0 : I 0 st)
    (hs : ∀ (k : Nat) st2, lo + (k : Int) < n → I k st2 → ∀ Kn : DS → Prop, (∀ st', I (k + 1) st' → Kn st') → wSs Φ body (ρ.set i none) { nx := Kn, ct := Kn, bk := N.nx, rt := N.rt } (st2.set i (some (.int (lo + (k : Int))))))
    (hd : ∀ k st2, I k st2 → k = (n - lo).toNat → N.nx st2) : wS Φ (.for_ (.nm i) it body) ρ N st := by
  rw [wS]
  refine hit _ ⟨by rw [range_len]; unfold lim; omega, ?_⟩
  have key : ∀ (m : Nat) (xs : List D) (k : Nat) (st2 : DS), xs.length = m → k ≤ (n - lo).toNat → xs = (rangeD lo n).drop k → I k st2 → wFor (.nm i) (wSs Φ body) { nx := fun st2 => N.nx (restore (none : Option Nat).toList st st2), rt := fun d st2 => N.rt d (restore (none : Option Nat).toList st st2) } (lock ρ st none) xs st2 := by
    intro m
    induction m with
    | zero =>
      intro xs k st2 hl hk e h
      cases xs with
      | cons _ _ => simp at hl
      | nil => exact hd k st2 h (by have := range_endL e.symm; omega)
    | succ m ih =>
      intro xs k st2 hl hk e h
      cases xs with
      | nil => simp at hl
      | cons x r =>
        obtain ⟨rfl, rfl, hlt⟩ := range_dropL e.symm
        exact hs k st2 hlt h _ fun st' h' => ih _ (k + 1) st' (by simpa using hl) (by omega) rfl h'
  exact key _ _ 0 _ rfl (by omega) rfl h0
/-- A LOOP OVER A NAME'S ITEMS that can't be changed -/
theorem wS_seqW {Φ : Phi} {i j : Nat} {body : List S} {ρ st : DS} {N : Ends} (d : D) (xs : List D) (I : Nat → DS → Prop)
    (hp : peek ρ st j = some d) (hx : walk? d = some xs) (hl : xs.length ≤ lim) (him : ∀ x ∈ xs, x.immut = true) (h0 : I 0 (st.set j none))
    (hs : ∀ k st2 x, xs[k]? = some x → I k st2 → ∀ Kn : DS → Prop, (∀ st', I (k + 1) st' → Kn st') → wSs Φ body ((lock ρ st (some j)).set i none) { nx := Kn, ct := Kn, bk := fun st2 => N.nx (st2.set j (st[j]?.join)), rt := fun d st2 => N.rt d (st2.set j (st[j]?.join)) } (st2.set i (some x)))
    (hd : ∀ st2, I xs.length st2 → N.nx (st2.set j (st[j]?.join))) : wS Φ (.for_ (.nm i) (.seqN j) body) ρ N st := by
  rw [wS, wIt, hp]
  simp only [Option.bind_some, hx]
  refine ⟨hl, ?_⟩
  have key : ∀ (m : Nat) (ys : List D) (k : Nat) (st2 : DS), ys.length = m → k ≤ xs.length → ys = xs.drop k → I k st2 → wFor (.nm i) (wSs Φ body) { nx := fun st2 => N.nx (restore (some j).toList st st2), rt := fun d st2 => N.rt d (restore (some j).toList st st2) } (lock ρ st (some j)) ys st2 := by
    intro m
    induction m with
    | zero =>
      intro ys k st2 hl2 hk e h
      cases ys with
      | cons _ _ => simp at hl2
      | nil =>
        have hk2 : k = xs.length := by have := List.drop_eq_nil_iff.mp e.symm; omega
        subst hk2
        exact hd st2 h
    | succ m ih =>
      intro ys k st2 hl2 hk e h
      cases ys with
      | nil => simp at hl2
      | cons x r =>
        have hk2 : k < xs.length := by
          by_cases hk2 : k < xs.length
          · exact hk2
          · rw [List.drop_eq_nil_of_le (by omega)] at e; cases e
        rw [List.drop_eq_getElem_cons hk2] at e
        cases e
        rw [wFor]
        simp only [setTgF, bindF, him _ (List.getElem_mem hk2), if_true]
        exact hs k st2 _ (List.getElem?_eq_getElem hk2) h _ fun st' h' => ih _ (k + 1) st' (by simp at hl2 ⊢; omega) (by omega) rfl h'
  exact key _ _ 0 _ rfl (by omega) rfl h0
theorem wS_seqN {Φ : Phi} {i j : Nat} {body : List S} {ρ st : DS} {N : Ends} (d : D) (xs : List D) (I : Nat → DS → Prop)
    (hp : peek ρ st j = some d) (hx : items? d = some xs) (hl : xs.length ≤ lim) (him : ∀ x ∈ xs, x.immut = true) (h0 : I 0 (st.set j none))
    (hs : ∀ k st2 x, xs[k]? = some x → I k st2 → ∀ Kn : DS → Prop, (∀ st', I (k + 1) st' → Kn st') → wSs Φ body ((lock ρ st (some j)).set i none) { nx := Kn, ct := Kn, bk := fun st2 => N.nx (st2.set j (st[j]?.join)), rt := fun d st2 => N.rt d (st2.set j (st[j]?.join)) } (st2.set i (some x)))
    (hd : ∀ st2, I xs.length st2 → N.nx (st2.set j (st[j]?.join))) : wS Φ (.for_ (.nm i) (.seqN j) body) ρ N st := wS_seqW d xs I hp (walk_of hx) hl him h0 hs hd
/-- A LOOP OVER ITEMS, any target -/
theorem wS_it {Φ : Phi} {tg : Tg} {it : It} {body : List S} {ρ st : DS} {N : Ends} (xs : List D) (root : Option Nat) (I : Nat → DS → Prop)
    (hit : ∀ Q : List D → Option Nat → DS → Prop, Q xs root st → wIt Φ it ρ st Q) (hl : xs.length ≤ lim) (h0 : I 0 (hide root.toList st))
    (hs : ∀ (k : Nat) x st2, xs[k]? = some x → I k st2 → ∀ Kn : DS → Prop, (∀ st', I (k + 1) st' → Kn st') → setTgF (lock ρ st root) st2 tg x fun ρ1 st3 => wSs Φ body ρ1 { nx := Kn, ct := Kn, bk := fun st2 => N.nx (restore root.toList st st2), rt := fun d st2 => N.rt d (restore root.toList st st2) } st3)
    (hd : ∀ st2, I xs.length st2 → N.nx (restore root.toList st st2)) : wS Φ (.for_ tg it body) ρ N st := by
  rw [wS]
  refine hit _ ⟨hl, ?_⟩
  have key : ∀ (m : Nat) (ys : List D) (k : Nat) (st2 : DS), ys.length = m → k ≤ xs.length → ys = xs.drop k → I k st2 → wFor tg (wSs Φ body) { nx := fun st2 => N.nx (restore root.toList st st2), rt := fun d st2 => N.rt d (restore root.toList st st2) } (lock ρ st root) ys st2 := by
    intro m
    induction m with
    | zero =>
      intro ys k st2 hl2 hk e h
      cases ys with
      | cons _ _ => simp at hl2
      | nil =>
        have hk2 : k = xs.length := by have := List.drop_eq_nil_iff.mp e.symm; omega
        subst hk2
        exact hd st2 h
    | succ m ih =>
      intro ys k st2 hl2 hk e h
      cases ys with
      | nil => simp at hl2
      | cons x r =>
        have hk2 : k < xs.length := by
          by_cases hk2 : k < xs.length
          · exact hk2
          · rw [List.drop_eq_nil_of_le (by omega)] at e; cases e
        rw [List.drop_eq_getElem_cons hk2] at e
        cases e
        rw [wFor]
        exact hs k _ st2 (List.getElem?_eq_getElem hk2) h _ fun st' h' => ih _ (k + 1) st' (by simp at hl2 ⊢; omega) (by omega) rfl h'
  exact key _ _ 0 _ rfl (by omega) rfl h0
/-! ### dicts whose keys are numbers -/
def dI (ks : List (Int × D)) : D := .dct (ks.map fun p => (.int p.1, p.2))
def dlook (ks : List (Int × D)) (i : Int) : Option D := (ks.find? fun p => decide (p.1 = i)).map (·.2)
theorem keyOk_int {ks : List (Int × D)} {i : Int} : keyOk (ks.map fun p => (D.int p.1, p.2)) (.int i) = true := by
  simp [keyOk, keyN, D.kd]
theorem dget_int {ks : List (Int × D)} {i : Int} : dget (ks.map fun p => (D.int p.1, p.2)) (.int i) = dlook ks i := by
  unfold dget dlook
  rw [List.find?_map, Option.map_map]
  congr 1
theorem dlook_isSome {ks : List (Int × D)} {i : Int} : (dlook ks i).isSome = decide (i ∈ ks.map (·.1)) := by
  unfold dlook
  rw [Bool.eq_iff_iff, decide_eq_true_iff]
  simp only [Option.isSome_map, List.find?_isSome, decide_eq_true_eq, List.mem_map]
theorem dlook_none {ks : List (Int × D)} {i : Int} (h : i ∉ ks.map (·.1)) : dlook ks i = none := by
  have := dlook_isSome (ks := ks) (i := i)
  rw [decide_eq_false h] at this
  cases hd : dlook ks i with
  | none => rfl
  | some _ => rw [hd] at this; cases this
theorem dput_int {ks : List (Int × D)} {i : Int} {v : D} (h : i ∉ ks.map (·.1)) : dput (ks.map fun p => (D.int p.1, p.2)) (.int i) v = (ks ++ [(i, v)]).map fun p => (D.int p.1, p.2) := by
  rw [dput_new (by rw [dget_int, dlook_none h]), List.map_append]; rfl
/-- a comprehension whose parts change nothing, over typed items -/
theorem wComp_ty {α : Type} {we : DS → DS → (D → DS → Prop) → Prop} {wt : DS → DS → (Bool → DS → Prop) → Prop} {tg : Tg} {ρ st : DS} (enc : α → D) (p : α → Bool) (f : α → D) (hs : hide tg.slots st = st) : ∀ {ys : List α} {acc : List D} {Q : List D → DS → Prop},
    (∀ y ∈ ys, ∀ Q : DS → Prop, (∀ ρ1, ((∀ Q, Q (p y) st → wt ρ1 st Q) ∧ (p y = true → ∀ Q, Q (f y) st → we ρ1 st Q)) → Q ρ1) → setTg ρ tg (enc y) Q) → Q (acc ++ (ys.filter p).map f) st → wComp we wt tg ρ (ys.map enc) acc st Q
  | [], acc, Q, _, q => by simpa [wComp] using q
  | x :: xs, acc, Q, h, q => by
    rw [List.map_cons, wComp]
    refine h x List.mem_cons_self _ fun ρ1 ⟨h1, h2⟩ => h1 _ ?_
    have hr : ∀ y ∈ xs, _ := fun y hy => h y (List.mem_cons_of_mem _ hy)
    by_cases hp : p x = true
    · rw [if_pos hp]
      refine h2 hp _ ?_
      rw [hs]
      refine wComp_ty enc p f hs hr ?_
      simpa [List.filter_cons, hp] using q
    · rw [if_neg hp, hs]
      refine wComp_ty enc p f hs hr ?_
      simpa [List.filter_cons, hp] using q
/-- A LOOP OVER A RANGE whose bound is taken on the way -/
theorem wS_rngE {Φ : Phi} {i : Nat} {it : It} {body : List S} {ρ st : DS} {N : Ends} (C : Int → DS → Prop) (I : Int → Nat → DS → Prop)
    (hit : ∀ Q : List D → Option Nat → DS → Prop, (∀ n st1, C n st1 → Q (rangeD 0 n) none st1) → wIt Φ it ρ st Q) (hn : ∀ n st1, C n st1 → n ≤ 1000000 ∧ I n 0 st1)
    (hs : ∀ n (k : Nat) st2, (k : Int) < n → I n k st2 → ∀ Kn : DS → Prop, (∀ st', I n (k + 1) st' → Kn st') → wSs Φ body (ρ.set i none) { nx := Kn, ct := Kn, bk := N.nx, rt := N.rt } (st2.set i (some (.int (k : Int)))))
    (hd : ∀ n k st2, I n k st2 → k = n.toNat → N.nx st2) : wS Φ (.for_ (.nm i) it body) ρ N st := by
  rw [wS]
  refine hit _ fun n st1 hc => ?_
  obtain ⟨hn1, h0⟩ := hn n st1 hc
  refine ⟨by rw [range_len]; unfold lim; omega, ?_⟩
  have key : ∀ (m : Nat) (xs : List D) (k : Nat) (st2 : DS), xs.length = m → k ≤ n.toNat → xs = (rangeD 0 n).drop k → I n k st2 → wFor (.nm i) (wSs Φ body) { nx := fun st2 => N.nx (restore (none : Option Nat).toList st1 st2), rt := fun d st2 => N.rt d (restore (none : Option Nat).toList st1 st2) } (lock ρ st1 none) xs st2 := by
    intro m
    induction m with
    | zero =>
      intro xs k st2 hl hk e h
      cases xs with
      | cons _ _ => simp at hl
      | nil => exact hd n k st2 h (by have := range_endL e.symm; omega)
    | succ m ih =>
      intro xs k st2 hl hk e h
      cases xs with
      | nil => simp at hl
      | cons x r =>
        obtain ⟨rfl, rfl, hlt⟩ := range_dropL e.symm
        rw [wFor]
        simp only [setTgF, bindF, Int.zero_add]
        exact hs n k st2 (by omega) h _ fun st' h' => ih _ (k + 1) st' (by simpa using hl) (by omega) rfl h'
  exact key _ _ 0 _ rfl (by omega) rfl h0
/-! slices by numbers that are not negative -/
theorem cut_to {α : Type} {xs : List α} {n : Nat} : cutL xs none (some (n : Int)) = xs.take n := by
  unfold cutL
  have : sIx xs.length xs.length (some (n : Int)) = min n xs.length := by simp only [sIx]; rw [if_neg (by omega)]; simp
  rw [this]
  simp only [sIx, List.drop_zero, Nat.sub_zero]
  rcases Nat.le_total n xs.length with h | h
  · rw [Nat.min_eq_left h]
  · rw [Nat.min_eq_right h, List.take_length, List.take_of_length_le h]
theorem cut_from {α : Type} {xs : List α} {n : Nat} : cutL xs (some (n : Int)) none = xs.drop n := by
  unfold cutL
  have : sIx xs.length 0 (some (n : Int)) = min n xs.length := by simp only [sIx]; rw [if_neg (by omega)]; simp
  rw [this]
  simp only [sIx]
  rcases Nat.le_total n xs.length with h | h
  · rw [Nat.min_eq_left h, List.take_of_length_le (by simp)]
  · rw [Nat.min_eq_right h]; simp [List.drop_eq_nil_of_le h]
theorem cut_both {α : Type} {xs : List α} {m n : Nat} : cutL xs (some (m : Int)) (some (n : Int)) = (xs.take n).drop m := by
  unfold cutL
  have h1 : sIx xs.length 0 (some (m : Int)) = min m xs.length := by simp only [sIx]; rw [if_neg (by omega)]; simp
  have h2 : sIx xs.length xs.length (some (n : Int)) = min n xs.length := by simp only [sIx]; rw [if_neg (by omega)]; simp
  rw [h1, h2, List.drop_take]
  rcases Nat.le_total m xs.length with h | h
  · rw [Nat.min_eq_left h]
    rcases Nat.le_total n xs.length with g | g
    · rw [Nat.min_eq_left g]
    · rw [Nat.min_eq_right g, List.take_of_length_le (by simp), List.take_of_length_le (by simp; omega)]
  · rw [Nat.min_eq_right h, List.drop_eq_nil_of_le h, List.drop_eq_nil_of_le (Nat.le_refl _)]; simp
/-- A LOOP OVER WHAT IS MADE OF A LAMBDA -/
theorem wS_for2 {Φ : Phi} {tg : Tg} {e : E2} {body : List S} {ρ st : DS} {N : Ends} (xs : List D) (st1 : DS) (I : Nat → DS → Prop)
    (he : ∀ Q : D → DS → Prop, Q (.lst xs) st1 → wE2 Φ e ρ st Q) (hl : xs.length ≤ lim) (h0 : I 0 st1)
    (hs : ∀ (k : Nat) x st2, xs[k]? = some x → I k st2 → ∀ Kn : DS → Prop, (∀ st', I (k + 1) st' → Kn st') → setTgF ρ st2 tg x fun ρ1 st3 => wSs Φ body ρ1 { nx := Kn, ct := Kn, bk := N.nx, rt := N.rt } st3)
    (hd : ∀ st2, I xs.length st2 → N.nx st2) : wS Φ (.for2 tg e body) ρ N st := by
  rw [wS]
  refine he _ ⟨hl, ?_⟩
  have key : ∀ (m : Nat) (ys : List D) (k : Nat) (st2 : DS), ys.length = m → k ≤ xs.length → ys = xs.drop k → I k st2 → wFor tg (wSs Φ body) { nx := fun st2 => N.nx (restore (none : Option Nat).toList st1 st2), rt := fun d st2 => N.rt d (restore (none : Option Nat).toList st1 st2) } (lock ρ st1 none) ys st2 := by
    intro m
    induction m with
    | zero =>
      intro ys k st2 hl2 hk e h
      cases ys with
      | cons _ _ => simp at hl2
      | nil =>
        have hk2 : k = xs.length := by have := List.drop_eq_nil_iff.mp e.symm; omega
        subst hk2
        exact hd st2 h
    | succ m ih =>
      intro ys k st2 hl2 hk e h
      cases ys with
      | nil => simp at hl2
      | cons x r =>
        have hk2 : k < xs.length := by
          by_cases hk2 : k < xs.length
          · exact hk2
          · rw [List.drop_eq_nil_of_le (by omega)] at e; cases e
        rw [List.drop_eq_getElem_cons hk2] at e
        cases e
        rw [wFor]
        exact hs k _ st2 (List.getElem?_eq_getElem hk2) h _ fun st' h' => ih _ (k + 1) st' (by simp at hl2 ⊢; omega) (by omega) rfl h'
  exact key _ _ 0 _ rfl (by omega) rfl h0
end Dl
/-! DlWords: the program's own words. -/
namespace Dl
open PySem (Str)
def N_is_number : List Str := ["part", "low", "high"]
def B_is_number : List S := [.ret (.and (.isi [.int] (.nm 0 .nil)) (.and (.not (.isi [.bool] (.nm 0 .nil))) (.chain .le .le (.v 1) (.v 0) (.v 2))))]
def N_are_rising : List Str := ["part", "high", "one", "k"]
def B_are_rising_1 : Es := (.cons (.not (.fn "is_number" (.nm 2 (.cons (.c (.int 0)) (.nm 1 .nil))))) .nil)
def B_are_rising_2 : E := (.v 2)
def B_are_rising_3 : E := .comp B_are_rising_2 (.nm 2) (.seqN 0) B_are_rising_1 [("one", 2)]
def B_are_rising_4 : Es := (.cons (.cmp .le (.pl (.nm 0 (.nm 3 .nil)) (.pl (.nm 0 (.cons (.bin .sub (.nm 3 (.cons (.c (.int 1)) .nil))) .nil)) .nil))) .nil)
def B_are_rising_5 : E := (.v 3)
def B_are_rising_6 : E := .comp B_are_rising_5 (.nm 3) (.rng2 (.c (.int 1)) (.bf .len (.nm 0 .nil))) B_are_rising_4 [("k", 3)]
def B_are_rising : List S := [.ite (.or (.not (.isi [.tuple] (.nm 0 .nil))) (.cmp .ne (.cons B_are_rising_3 (.cons (.lst .nil) .nil)))) [.ret (.c (.bl false))] [], .ret (.cmp .eq (.cons B_are_rising_6 (.cons (.lst .nil) .nil)))]
def N_is_next : List Str := ["part", "rooms"]
def B_is_next : List S := [.ret (.or (.isN false (.nm 0 .nil)) (.fn "is_number" (.nm 0 (.cons (.c (.int 0)) (.cons (.bin .sub (.nm 1 (.cons (.c (.int 1)) .nil))) .nil)))))]
def N_is_row : List Str := ["part", "letters", "rooms", "one"]
def B_is_row_1 : Es := (.cons (.not (.fn "is_next" (.nm 3 (.nm 2 .nil)))) .nil)
def B_is_row_2 : E := (.v 3)
def B_is_row_3 : E := .comp B_is_row_2 (.nm 3) (.seqN 0) B_is_row_1 [("one", 3)]
def B_is_row : List S := [.ite (.or (.not (.isi [.tuple] (.nm 0 .nil))) (.cmp .ne (.cons (.bf .len (.nm 0 .nil)) (.nm 1 .nil)))) [.ret (.c (.bl false))] [], .ret (.cmp .eq (.cons B_is_row_3 (.cons (.lst .nil) .nil)))]
def N_need_machine : List Str := ["machine", "letters", "table", "finals", "number", "row"]
def B_need_machine_1 : List S := [.ite (.or (.cmp .ge (.nm 4 (.cons (.g "MOST_ROOMS" (.int 40)) .nil))) (.not (.fn "is_row" (.nm 5 (.nm 1 (.cons (.bf .len (.nm 2 .nil)) .nil)))))) [.raise] []]
def B_need_machine_2 : S := .for_ (.tp [4, 5]) (.enumN 2) B_need_machine_1
def B_need_machine : List S := [.ite (.or (.not (.isi [.tuple] (.nm 0 .nil))) (.or (.cmp .ne (.cons (.bf .len (.nm 0 .nil)) (.cons (.c (.int 3)) .nil))) (.not (.fn "is_number" (.pl (.nm 0 (.cons (.c (.int 0)) .nil)) (.cons (.c (.int 1)) (.cons (.g "MOST_LETTERS" (.int 30)) .nil))))))) [.raise] [], .unp [1, 2, 3] (.v 0), .ite (.or (.not (.isi [.tuple] (.nm 2 .nil))) (.cmp .eq (.nm 2 (.cons (.tup .nil) .nil)))) [.raise] [], B_need_machine_2, .ite (.not (.fn "are_rising" (.nm 3 (.cons (.bin .sub (.cons (.bf .len (.nm 2 .nil)) (.cons (.c (.int 1)) .nil))) .nil)))) [.raise] []]
def isNum (d : D) (lo hi : Int) : Bool := match d with | .int i => decide (lo ≤ i) && decide (i ≤ hi) | _ => false
def spNum : Spec := { io := [false, false, false], run := fun ds Q => match ds with
  | [p, .int lo, .int hi] => isiOk p = true ∧ p.immut = true ∧ Q (.bl (isNum p lo hi)) [p, .int lo, .int hi]
  | _ => False }
theorem k_is_number {Φ : Phi} : Keeps Φ 3 [] B_is_number spNum := by
  intro ds Q h
  simp only [spNum] at h
  split at h
  · rename_i p lo hi
    obtain ⟨hp, hi, h⟩ := h
    refine ⟨rfl, by simp, ?_⟩
    unfold B_is_number
    cases p <;> simp only [isiOk, Bool.false_eq_true] at hp
    all_goals rw [wSs.eq_2]
    all_goals simp [wE, wE2, wAs, wVs, wT, wIt, wS, wSs.eq_1, startR, startS, endOf, outs, List.zip_cons_cons, hide_nil, hide_cons, restore_nil, restore_cons, lock, setAll, hi, spNum, isNum] at h ⊢
    all_goals try exact h
    rename_i i
    by_cases hl : lo ≤ i
    · simp [hl] at h ⊢; exact h
    · simp [hl] at h ⊢; exact h
  · exact h.elim
def isNextD (d : D) (n : Int) : Bool := match d with | .non => true | d => isNum d 0 (n - 1)
def spNext : Spec := { io := [false, false], run := fun ds Q => match ds with
  | [p, .int n] => isiOk p = true ∧ p.immut = true ∧ Q (.bl (isNextD p n)) [p, .int n]
  | _ => False }
theorem k_is_next {Φ : Phi} (h1 : Φ "is_number" = some spNum) : Keeps Φ 2 [] B_is_next spNext := by
  intro ds Q h
  simp only [spNext] at h
  split at h
  · rename_i p n
    obtain ⟨hp, hi, h⟩ := h
    refine ⟨rfl, by simp, ?_⟩
    unfold B_is_next
    cases p <;> simp only [isiOk, Bool.false_eq_true] at hp
    all_goals rw [wSs.eq_2]
    all_goals simp [wE, wE2, wAs, wVs, wT, wIt, wS, wSs.eq_1, startR, startS, endOf, outs, List.zip_cons_cons, hide_nil, hide_cons, restore_nil, restore_cons, lock, setAll, h1, hi, spNum, spNext, isNum, isNextD] at h ⊢
    all_goals try exact h
    all_goals simpa using And.intro hi h
  · exact h.elim
def encO : Option Int → D
  | none => .non
  | some i => .int i
@[simp] theorem encO_imm {x : Option Int} : (encO x).immut = true := by cases x <;> simp [encO]
@[simp] theorem encO_isi {x : Option Int} : isiOk (encO x) = true := by cases x <;> rfl
@[simp] theorem encO_plain {x : Option Int} {n : Nat} : plainN n (encO x) = true := by cases x <;> simp [encO]
def okN (n : Int) : Option Int → Bool
  | none => true
  | some i => decide (0 ≤ i) && decide (i < n)
@[simp] theorem next_enc {x : Option Int} {n : Int} : isNextD (encO x) n = okN n x := by
  cases x with
  | none => rfl
  | some i =>
    show (decide (0 ≤ i) && decide (i ≤ n - 1)) = (decide (0 ≤ i) && decide (i < n))
    have e : decide (i ≤ n - 1) = decide (i < n) := by rw [decide_eq_decide]; omega
    rw [e]
def rowD (r : List (Option Int)) : D := .tup (r.map encO)
theorem enc_imm {r : List (Option Int)} : immutAll (r.map encO) = true := immutAll_map fun _ _ => encO_imm
@[simp] theorem rowD_imm {r : List (Option Int)} : (rowD r).immut = true := by unfold rowD; rw [tup_imm]; exact enc_imm
def spRow : Spec := { io := [false, false, false], run := fun ds Q => ∃ r n, ds = [rowD r, .int (r.length : Int), .int n] ∧ r.length ≤ lim ∧ (∀ x ∈ r, okN n x = true) ∧ Q (.bl true) ds }
theorem k_is_row {Φ : Phi} (h1 : Φ "is_next" = some spNext) : Keeps Φ 4 [] B_is_row spRow := by
  intro ds Q h
  obtain ⟨r, n, rfl, hl, hr, h⟩ := h
  refine ⟨rfl, by simp, ?_⟩
  unfold B_is_row
  have hi := enc_imm (r := r)
  unfold rowD at h ⊢
  rw [wSs.eq_2]
  simp [wE, wE2, wAs, wVs, wT, wIt, wS, wSs.eq_1, startR, startS, endOf, outs, List.zip_cons_cons, hide_nil, hide_cons, restore_nil, restore_cons, lock, setAll, spRow, hi, hl]
  rw [wSs.eq_2]
  simp [wE, wE2, wAs, wVs, wT, wIt, wS, wSs.eq_1, startR, startS, endOf, outs, List.zip_cons_cons, hide_nil, hide_cons, restore_nil, restore_cons, lock, setAll, B_is_row_3, hi, hl]
  refine wComp_no rfl (fun x hx Q q => ?_) ?_
  · obtain ⟨y, hy, rfl⟩ := List.mem_map.mp hx
    have hy := hr y hy
    simp [B_is_row_1, wE, wE2, wAs, wVs, wT, wIt, wS, wSs.eq_1, startR, startS, endOf, outs, List.zip_cons_cons, hide_nil, hide_cons, restore_nil, restore_cons, lock, setAll, h1, spNext, hy]
    exact q
  · simp [wE, wE2, wAs, wVs, wT, wIt, wS, wSs.eq_1, startR, startS, endOf, outs, List.zip_cons_cons, hide_nil, hide_cons, restore_nil, restore_cons, lock, setAll]
    exact h
def spRising : Spec := { io := [false, false], run := fun ds Q => ∃ (fs : List Int) (n : Int), ds = [.tup (fs.map D.int), .int n] ∧ fs.length ≤ 1000 ∧ (∀ x ∈ fs, 0 ≤ x ∧ x ≤ n) ∧ fs.Pairwise (· < ·) ∧ Q (.bl true) ds }
theorem k_are_rising {Φ : Phi} (h1 : Φ "is_number" = some spNum) : Keeps Φ 4 [] B_are_rising spRising := by
  intro ds Q h
  obtain ⟨fs, n, rfl, hl, hr, hp, h⟩ := h
  refine ⟨rfl, by simp, ?_⟩
  unfold B_are_rising
  have hi := immut_ints (ns := fs)
  have hlim : fs.length ≤ lim := by unfold lim; omega
  rw [wSs.eq_2]
  simp [wE, wE2, wAs, wVs, wT, wIt, wS, wSs.eq_1, startR, startS, endOf, outs, List.zip_cons_cons, hide_nil, hide_cons, restore_nil, restore_cons, lock, setAll, B_are_rising_3, spRising, hi, hlim]
  refine wComp_no rfl (fun x hx Q q => ?_) ?_
  · obtain ⟨y, hy, rfl⟩ := List.mem_map.mp hx
    have hy := hr y hy
    simp [B_are_rising_1, wE, wE2, wAs, wVs, wT, wIt, wS, wSs.eq_1, startR, startS, endOf, outs, List.zip_cons_cons, hide_nil, hide_cons, restore_nil, restore_cons, lock, setAll, h1, spNum, isNum, hy]
    exact q
  · simp [wE, wE2, wAs, wVs, wT, wIt, wS, wSs.eq_1, startR, startS, endOf, outs, List.zip_cons_cons, hide_nil, hide_cons, restore_nil, restore_cons, lock, setAll]
    rw [wSs.eq_2]
    simp [wE, wE2, wAs, wVs, wT, wIt, wS, wSs.eq_1, startR, startS, endOf, outs, List.zip_cons_cons, hide_nil, hide_cons, restore_nil, restore_cons, lock, setAll, B_are_rising_6, hi]
    refine ⟨small_of (by decide) (by decide), small_of (by omega) (by omega), by rw [range_len]; unfold lim; omega, ?_⟩
    refine wComp_no rfl (fun x hx Q q => ?_) ?_
    · obtain ⟨k, rfl, hk⟩ := mem_range hx
      have hlt : fs[k] < fs[k + 1] := List.pairwise_iff_getElem.mp hp k (k + 1) (by omega) (by omega) (by omega)
      have a1 : atZ (fs.map D.int) (1 + (k : Int)) = some (.int fs[k + 1]) := atZ_of (k := k + 1) (by omega) (by simp)
      have a2 : atZ (fs.map D.int) (1 + (k : Int) - 1) = some (.int fs[k]) := atZ_of (k := k) (by omega) (by simp)
      simp [B_are_rising_4, wE, wE2, wAs, wVs, wT, wIt, wS, wSs.eq_1, startR, startS, endOf, outs, List.zip_cons_cons, hide_nil, hide_cons, restore_nil, restore_cons, lock, setAll, a1, a2, show ¬ fs[k + 1] ≤ fs[k] by omega]
      exact q
    · simp [wE, wE2, wAs, wVs, wT, wIt, wS, wSs.eq_1, startR, startS, endOf, outs, List.zip_cons_cons, hide_nil, hide_cons, restore_nil, restore_cons, lock, setAll]
      exact h
structure Mach where
  w : Nat
  t : List (List (Option Int))
  fs : List Int
def tblD (t : List (List (Option Int))) : D := .tup (t.map rowD)
def machD (m : Mach) : D := .tup [.int m.w, tblD m.t, .tup (m.fs.map D.int)]
structure MOk (m : Mach) : Prop where
  w1 : 1 ≤ m.w
  w2 : m.w ≤ 30
  t1 : 1 ≤ m.t.length
  t2 : m.t.length ≤ 40
  rows : ∀ r ∈ m.t, r.length = m.w ∧ ∀ x ∈ r, okN m.t.length x = true
  fin : ∀ f ∈ m.fs, 0 ≤ f ∧ f < m.t.length
  ris : m.fs.Pairwise (· < ·)
theorem rows_imm {t : List (List (Option Int))} : immutAll (t.map rowD) = true := immutAll_map fun _ _ => rowD_imm
@[simp] theorem tblD_imm {t : List (List (Option Int))} : (tblD t).immut = true := by unfold tblD; rw [tup_imm]; exact rows_imm
@[simp] theorem fs_imm {fs : List Int} : (D.tup (fs.map D.int)).immut = true := by rw [tup_imm]; exact immut_ints
theorem plain_row {r : List (Option Int)} {n : Nat} : plainN (n + 1) (rowD r) = true := by
  unfold rowD; simp only [plainN]; rw [plainAll_iff]; intro x hx; obtain ⟨y, _, rfl⟩ := List.mem_map.mp hx; exact encO_plain
theorem plain_rows {t : List (List (Option Int))} {n : Nat} : plainAllN (n + 1) (t.map rowD) = true := by
  rw [plainAll_iff]; intro x hx; obtain ⟨y, _, rfl⟩ := List.mem_map.mp hx; exact plain_row
/-- numbers that rise within bounds are few -/
theorem rising_len : ∀ {fs : List Int} {lo n : Int}, (∀ f ∈ fs, lo ≤ f ∧ f < n) → fs.Pairwise (· < ·) → lo ≤ n → (fs.length : Int) ≤ n - lo
  | [], lo, n, _, _, h => by simp; omega
  | f :: fs, lo, n, h, hp, hn => by
    have h0 := h f List.mem_cons_self
    obtain ⟨h1, h2⟩ := List.pairwise_cons.mp hp
    have := rising_len (fs := fs) (lo := f + 1) (n := n) (fun g hg => ⟨h1 g hg, (h g (List.mem_cons_of_mem _ hg)).2⟩) h2 (by omega)
    simp only [List.length_cons]; omega
def spNeed : Spec := { io := [false], run := fun ds Q => ∃ m, ds = [machD m] ∧ MOk m ∧ Q .non ds }
@[simp] theorem machD_imm {m : Mach} : (machD m).immut = true := by unfold machD; simp [immut_ints]
theorem k_need_machine {Φ : Phi} (h1 : Φ "is_number" = some spNum) (h2 : Φ "is_row" = some spRow) (h3 : Φ "are_rising" = some spRising) : Keeps Φ 6 [] B_need_machine spNeed := by
  intro ds Q h
  obtain ⟨m, rfl, hm, h⟩ := h
  refine ⟨rfl, by simp, ?_⟩
  obtain ⟨mw, mt, mfs⟩ := m
  obtain ⟨w1, w2, t1, t2, rows, fin, ris⟩ := hm
  simp only at w1 w2 t1 t2 rows fin ris
  have hi := rows_imm (t := mt)
  have hfi := immut_ints (ns := mfs)
  have hpl := plain_rows (t := mt) (n := 58)
  have ht0 : mt.isEmpty = false := by cases mt with | nil => simp at t1 | cons _ _ => rfl
  unfold B_need_machine
  unfold machD tblD at h ⊢
  have hw1 : (1 : Int) ≤ mw := by omega
  have hw2 : (mw : Int) ≤ 30 := by omega
  rw [wSs.eq_2]
  simp [wE, wE2, wAs, wVs, wT, wIt, wS, wSs.eq_1, startR, startS, endOf, outs, List.zip_cons_cons, hide_nil, hide_cons, restore_nil, restore_cons, lock, setAll, h1, spNeed, hi, hfi, spNum, isNum, atZ, hw1, hw2]
  rw [wSs.eq_2]
  simp [wE, wE2, wAs, wVs, wT, wIt, wS, wSs.eq_1, startR, startS, endOf, outs, List.zip_cons_cons, hide_nil, hide_cons, restore_nil, restore_cons, lock, setAll, hi, hfi]
  rw [wSs.eq_2]
  simp [wE, wE2, wAs, wVs, wT, wIt, wS, wSs.eq_1, startR, startS, endOf, outs, List.zip_cons_cons, hide_nil, hide_cons, restore_nil, restore_cons, lock, setAll, hi, hpl, ht0]
  rw [wSs.eq_2]
  unfold B_need_machine_2
  refine wS_forS (enumD (mt.map rowD)) (some 2) (fun rest st => (∀ x ∈ rest, ∃ (k : Nat) (r : List (Option Int)), x = .tup [.int (k : Int), rowD r] ∧ k < 40 ∧ r ∈ mt) ∧ ∃ a b, st = [some (D.tup [D.int mw, D.tup (mt.map rowD), D.tup (mfs.map D.int)]), some (D.int mw), none, some (D.tup (mfs.map D.int)), a, b]) (fun Q q => ?_) ?_ ?_ ?_ ?_
  · simp [wE, wE2, wAs, wVs, wT, wIt, wS, wSs.eq_1, startR, startS, endOf, outs, List.zip_cons_cons, hide_nil, hide_cons, restore_nil, restore_cons, lock, setAll]; exact q
  · simp [enumD]; unfold lim; omega
  · refine ⟨fun x hx => ?_, none, none, by simp [wE, wE2, wAs, wVs, wT, wIt, wS, wSs.eq_1, startR, startS, endOf, outs, List.zip_cons_cons, hide_nil, hide_cons, restore_nil, restore_cons, lock, setAll]⟩
    simp [enumD] at hx
    obtain ⟨k, hk, rfl⟩ := hx
    exact ⟨k, _, rfl, by omega, List.getElem_mem _⟩
  · rintro x r st ⟨hx, a, b, rfl⟩ Kn Kb Kr ih
    obtain ⟨k, row, rfl, hk, hr⟩ := hx x List.mem_cons_self
    obtain ⟨hl, hok⟩ := rows row hr
    have hk' : ¬ (40 : Int) ≤ k := by omega
    simp [B_need_machine_1, setTgF, bindFs, bindF, wE, wE2, wAs, wVs, wT, wIt, wS, wSs.eq_1, startR, startS, endOf, outs, List.zip_cons_cons, hide_nil, hide_cons, restore_nil, restore_cons, lock, setAll]
    rw [wSs.eq_2]
    simp [wE, wE2, wAs, wVs, wT, wIt, wS, wSs.eq_1, startR, startS, endOf, outs, List.zip_cons_cons, hide_nil, hide_cons, restore_nil, restore_cons, lock, setAll, h2, spRow, hk', hi]
    refine ⟨row, mt.length, by simp [hl], by unfold lim; omega, hok, ?_⟩
    exact ih _ ⟨fun y hy => hx y (List.mem_cons_of_mem _ hy), _, _, rfl⟩
  · rintro st ⟨_, a, b, rfl⟩
    simp [wE, wE2, wAs, wVs, wT, wIt, wS, wSs.eq_1, startR, startS, endOf, outs, List.zip_cons_cons, hide_nil, hide_cons, restore_nil, restore_cons, lock, setAll]
    rw [wSs.eq_2]
    simp [wE, wE2, wAs, wVs, wT, wIt, wS, wSs.eq_1, startR, startS, endOf, outs, List.zip_cons_cons, hide_nil, hide_cons, restore_nil, restore_cons, lock, setAll, h3, spRising, hi]
    refine ⟨mfs, _, ⟨rfl, rfl⟩, ?_, fun f hf => ?_, ris, ?_⟩
    · have := rising_len (lo := 0) fin ris (by omega)
      omega
    · have := fin f hf
      omega
    · exact h
end Dl
/-! DlCls: columns and their classes. -/
namespace Dl
open PySem (Str)
def N_classes_of : List Str := ["letters", "table", "known", "found", "letter", "column", "row"]
def B_classes_of_1 : E := (.idx (.nm 6 (.nm 4 .nil)))
def B_classes_of_2 : E := .comp B_classes_of_1 (.nm 6) (.seqN 1) .nil [("row", 6)]
def B_classes_of_3 : List S := [.asg 5 (.bf .tuple (.cons B_classes_of_2 .nil)), .ite (.cmp .nin (.nm 5 (.nm 2 .nil))) [.sto 2 (.v 5) (.bf .len (.nm 2 .nil))] [], .ex (.mm .append 3 (.cons (.idx (.nm 2 (.nm 5 .nil))) .nil))]
def B_classes_of_4 : S := .for_ (.nm 4) (.rng1 (.v 0)) B_classes_of_3
def B_classes_of : List S := [.asg 2 .dct0, .asg 3 (.lst .nil), B_classes_of_4, .ret (.bf .tuple (.nm 3 .nil))]
def N_by_classes : List Str := ["table", "classes", "firsts", "number", "row", "letter"]
def B_by_classes_1 : E := (.mr .index 1 (.nm 3 .nil))
def B_by_classes_2 : E := .comp B_by_classes_1 (.nm 3) (.rng1 (.bin .add (.cons (.bf .max1 (.nm 1 .nil)) (.cons (.c (.int 1)) .nil)))) .nil [("number", 3)]
def B_by_classes_3 : E := (.idx (.nm 4 (.nm 5 .nil)))
def B_by_classes_4 : E := .comp B_by_classes_3 (.nm 5) (.seqN 2) .nil [("letter", 5)]
def B_by_classes_5 : E := (.bf .tuple (.cons B_by_classes_4 .nil))
def B_by_classes_6 : E := .comp B_by_classes_5 (.nm 4) (.seqN 0) .nil [("row", 4)]
def B_by_classes : List S := [.asg 2 B_by_classes_2, .ret (.bf .tuple (.cons B_by_classes_6 .nil))]
def N_classed : List Str := ["machine", "letters", "table", "finals", "classes", "small"]
def B_classed : List S := [.ex (.fn "need_machine" (.nm 0 .nil)), .unp [1, 2, 3] (.v 0), .asg 4 (.fn "classes_of" (.nm 1 (.nm 2 .nil))), .asg 5 (.fn "by_classes" (.nm 2 (.nm 4 .nil))), .ret (.tup (.cons (.v 4) (.cons (.tup (.cons (.bf .len (.pl (.nm 5 (.cons (.c (.int 0)) .nil)) .nil)) (.cons (.v 5) (.cons (.v 3) .nil)))) .nil)))]
/-! ### the plain law -/
abbrev Col := List (Option Int)
def cell (r : List (Option Int)) (l : Nat) : Option Int := r.getD l none
def col (t : List (List (Option Int))) (l : Nat) : Col := t.map fun r => cell r l
def addC (kn : List Col) (c : Col) : List Col := if c ∈ kn then kn else kn ++ [c]
def known (t : List (List (Option Int))) : Nat → List Col
  | 0 => []
  | k + 1 => addC (known t k) (col t k)
/-- a letter's class -/
def cl (t : List (List (Option Int))) (l : Nat) : Int := ((known t (l + 1)).idxOf (col t l) : Nat)
def cls (t : List (List (Option Int))) (k : Nat) : List Int := (List.range k).map (cl t)
theorem cls_succ {t : List (List (Option Int))} {k : Nat} : cls t (k + 1) = cls t k ++ [cl t k] := by simp [cls, List.range_succ]
theorem cls_len {t : List (List (Option Int))} {k : Nat} : (cls t k).length = k := by simp [cls]
theorem idx_app_mem {α : Type} [BEq α] [LawfulBEq α] {x : α} {l m : List α} (h : x ∈ l) : (l ++ m).idxOf x = l.idxOf x := by
  rw [List.idxOf_append, if_pos h]
theorem idx_app_not {α : Type} [BEq α] [LawfulBEq α] {x : α} {l m : List α} (h : x ∉ l) : (l ++ m).idxOf x = m.idxOf x + l.length := by
  rw [List.idxOf_append, if_neg h]
theorem idx_cons_ne {α : Type} [BEq α] [LawfulBEq α] {x y : α} {l : List α} (h : y ≠ x) : (y :: l).idxOf x = l.idxOf x + 1 := by
  rw [List.idxOf_cons]
  have : (y == x) = false := by simpa using h
  rw [this]; rfl
theorem mem_add {kn : List Col} {c x : Col} : x ∈ addC kn c ↔ x ∈ kn ∨ x = c := by
  unfold addC
  split
  · rename_i h
    exact ⟨.inl, fun z => z.elim id fun e => by rw [e]; exact h⟩
  · simp
theorem idx_add {kn : List Col} {c x : Col} (h : x ∈ kn) : (addC kn c).idxOf x = kn.idxOf x := by
  unfold addC
  split
  · rfl
  · exact idx_app_mem h
theorem known_mem {t : List (List (Option Int))} : ∀ {k l : Nat}, l < k → col t l ∈ known t k
  | k + 1, l, h => by
    rw [known, mem_add]
    by_cases e : l = k
    · exact .inr (by rw [e])
    · exact .inl (known_mem (by omega))
theorem known_idx {t : List (List (Option Int))} {x : Col} : ∀ {k m : Nat}, k ≤ m → x ∈ known t k → x ∈ known t m ∧ (known t m).idxOf x = (known t k).idxOf x
  | k, 0, h, hx => by
    obtain rfl : k = 0 := by omega
    exact ⟨hx, rfl⟩
  | k, m + 1, h, hx => by
    by_cases e : k = m + 1
    · subst e; exact ⟨hx, rfl⟩
    · obtain ⟨h1, h2⟩ := known_idx (m := m) (by omega) hx
      exact ⟨by rw [known, mem_add]; exact .inl h1, by rw [known, idx_add h1, h2]⟩
theorem cl_at {t : List (List (Option Int))} {k l : Nat} (h : l < k) : cl t l = ((known t k).idxOf (col t l) : Nat) := by
  unfold cl
  rw [(known_idx (k := l + 1) (m := k) (by omega) (known_mem (by omega))).2]
theorem cl_same {t : List (List (Option Int))} {k l : Nat} (h : l < k) (e : col t l = col t k) : cl t l = cl t k := by
  rw [cl_at (k := k + 1) (by omega), cl_at (k := k + 1) (Nat.lt_succ_self k), e]
theorem cl_new {t : List (List (Option Int))} {k : Nat} (h : col t k ∉ known t k) : cl t k = ((known t k).length : Int) ∧ known t (k + 1) = known t k ++ [col t k] := by
  have e : known t (k + 1) = known t k ++ [col t k] := by rw [known, addC, if_neg h]
  refine ⟨?_, e⟩
  unfold cl
  rw [e, idx_app_not h]
  simp
theorem cl_old {t : List (List (Option Int))} {k : Nat} (h : col t k ∈ known t k) : cl t k < ((known t k).length : Int) ∧ known t (k + 1) = known t k := by
  have e : known t (k + 1) = known t k := by rw [known, addC, if_pos h]
  refine ⟨?_, e⟩
  unfold cl
  rw [e]
  have := List.idxOf_lt_length_of_mem h
  omega
theorem of_known {t : List (List (Option Int))} {x : Col} : ∀ {k : Nat}, x ∈ known t k → ∃ l, l < k ∧ x = col t l
  | 0, h => by simp [known] at h
  | k + 1, h => by
    rw [known, mem_add] at h
    rcases h with h | h
    · obtain ⟨l, h1, h2⟩ := of_known h
      exact ⟨l, by omega, h2⟩
    · exact ⟨k, by omega, h⟩
/-- the highest class so far -/
theorem max_cls {t : List (List (Option Int))} : ∀ k : Nat, (cls t k).foldl max (-1) = ((known t k).length : Int) - 1
  | 0 => by simp [cls, known]
  | k + 1 => by
    rw [cls_succ, List.foldl_append, max_cls k]
    simp only [List.foldl_cons, List.foldl_nil]
    by_cases h : col t k ∈ known t k
    · obtain ⟨h1, h2⟩ := cl_old h
      rw [h2]; omega
    · obtain ⟨h1, h2⟩ := cl_new h
      rw [h2, h1]; simp; omega
theorem cl_nonneg {t : List (List (Option Int))} {l : Nat} : 0 ≤ cl t l := by unfold cl; omega
theorem max_cls1 {t : List (List (Option Int))} {k : Nat} (h : 1 ≤ k) : imax (cls t k) = some (((known t k).length : Int) - 1) := by
  have h0 := max_cls (t := t) k
  cases hc : cls t k with
  | nil => have := cls_len (t := t) (k := k); rw [hc] at this; simp at this; omega
  | cons x r =>
    rw [hc] at h0
    simp only [List.foldl_cons] at h0
    have hx : 0 ≤ x := by
      have : x ∈ cls t k := by rw [hc]; exact List.mem_cons_self
      obtain ⟨l, _, rfl⟩ := List.mem_map.mp this
      exact cl_nonneg
    rw [show max (-1) x = x by omega] at h0
    rw [imax, h0]
theorem cls_all {t : List (List (Option Int))} {n : Nat} : ∀ {k : Nat}, n < (known t k).length → (n : Int) ∈ cls t k
  | 0, h => by simp [known] at h
  | k + 1, h => by
    rw [cls_succ, List.mem_append]
    by_cases hk : col t k ∈ known t k
    · obtain ⟨h1, h2⟩ := cl_old hk
      rw [h2] at h
      exact .inl (cls_all h)
    · obtain ⟨h1, h2⟩ := cl_new hk
      rw [h2] at h
      simp at h
      by_cases e : n < (known t k).length
      · exact .inl (cls_all e)
      · right
        rw [h1]
        simp; omega
theorem known_le {t : List (List (Option Int))} : ∀ {k : Nat}, (known t k).length ≤ k
  | 0 => by simp [known]
  | k + 1 => by
    have := known_le (t := t) (k := k)
    rw [known, addC]
    split
    · omega
    · simp; omega
theorem known_pos {t : List (List (Option Int))} {k : Nat} (h : 1 ≤ k) : 1 ≤ (known t k).length := by
  have := known_mem (t := t) (k := k) (l := 0) (by omega)
  cases hk : known t k with
  | nil => rw [hk] at this; cases this
  | cons _ _ => simp
/-! ### over data -/
theorem eqv_enc {a b : Option Int} : eqv (encO a) (encO b) = decide (a = b) := by
  cases a <;> cases b <;> simp [encO, eqv]
theorem eqvs_enc : ∀ {a b : List (Option Int)}, eqvAll (a.map encO) (b.map encO) = decide (a = b)
  | [], [] => by simp [eqvAll]
  | [], _ :: _ => by simp [eqvAll]
  | _ :: _, [] => by simp [eqvAll]
  | x :: a, y :: b => by
    simp only [List.map_cons, eqvAll, eqv_enc, eqvs_enc (a := a) (b := b)]
    rw [Bool.eq_iff_iff]; simp
theorem eqv_row {a b : List (Option Int)} : eqv (rowD a) (rowD b) = decide (a = b) := by
  unfold rowD; simp only [eqv]; exact eqvs_enc
/-- the dict of columns -/
def knD (i : Nat) : List Col → List (D × D)
  | [] => []
  | c :: r => (rowD c, .int (i : Int)) :: knD (i + 1) r
theorem knD_len : ∀ {i : Nat} {kn : List Col}, (knD i kn).length = kn.length
  | _, [] => rfl
  | _, _ :: r => by simp [knD, knD_len (kn := r)]
theorem knD_get {c : Col} : ∀ {i : Nat} {kn : List Col}, dget (knD i kn) (rowD c) = if c ∈ kn then some (.int ((i + kn.idxOf c : Nat) : Int)) else none
  | _, [] => by simp [knD, dget]
  | i, x :: r => by
    unfold dget knD
    rw [List.find?_cons]
    simp only [eqv_row]
    by_cases h : x = c
    · subst h; simp
    · rw [decide_eq_false h]
      have := knD_get (c := c) (i := i + 1) (kn := r)
      unfold dget at this
      simp only
      rw [this]
      by_cases hr : c ∈ r
      · rw [if_pos hr, if_pos (List.mem_cons_of_mem _ hr), idx_cons_ne h]
        simp; omega
      · rw [if_neg hr, if_neg (by simp [hr, Ne.symm h])]
theorem knD_snoc {c : Col} : ∀ {i : Nat} {kn : List Col}, knD i (kn ++ [c]) = knD i kn ++ [(rowD c, .int ((i + kn.length : Nat) : Int))]
  | _, [] => by simp [knD]
  | i, x :: r => by
    simp only [List.cons_append, knD, knD_snoc (kn := r), List.length_cons]
    rw [show i + 1 + r.length = i + (r.length + 1) by omega]
theorem knD_put {c : Col} {kn : List Col} (h : c ∉ kn) : dput (knD 0 kn) (rowD c) (.int (kn.length : Int)) = knD 0 (kn ++ [c]) := by
  have hg := knD_get (c := c) (i := 0) (kn := kn)
  rw [if_neg h] at hg
  rw [dput_new hg, knD_snoc]
  simp
theorem keyN_row {r : List (Option Int)} {n : Nat} : keyN (n + 1) (rowD r) = true := by
  unfold rowD; simp only [keyN]
  have : ∀ r : List (Option Int), keyAllN n (r.map encO) = true := by
    intro r
    induction r with
    | nil => simp [keyAllN]
    | cons x r ih => simp only [List.map_cons, keyAllN, ih, Bool.and_true]; cases x <;> cases n <;> simp [encO, keyN]
  exact this r
theorem knD_key {c : Col} : ∀ {i : Nat} {kn : List Col}, keyOk (knD i kn) (rowD c) = true := by
  intro i kn
  unfold keyOk
  rw [keyN_row]
  have : ∀ (i : Nat) (kn : List Col), ((knD i kn).all fun p => p.1.kd == (rowD c).kd) = true := by
    intro i kn
    induction kn generalizing i with
    | nil => simp [knD]
    | cons x r ih => simp only [knD, List.all_cons, ih, Bool.and_true]; rfl
  rw [this]
  rfl
def spClasses : Spec := { io := [false, false], run := fun ds Q => ∃ (w : Nat) (t : List (List (Option Int))), ds = [.int (w : Int), tblD t] ∧ w ≤ 1000 ∧ t.length ≤ 1000 ∧ (∀ r ∈ t, r.length = w) ∧ Q (.tup ((cls t w).map D.int)) ds }
theorem range_drop {n : Int} {k : Nat} {x : D} {r : List D} (h : (rangeD 0 n).drop k = x :: r) : x = .int (k : Int) ∧ r = (rangeD 0 n).drop (k + 1) ∧ (k : Int) < n := by
  have hk : k < (rangeD 0 n).length := by
    by_cases hk : k < (rangeD 0 n).length
    · exact hk
    · rw [List.drop_of_length_le (by omega)] at h; cases h
  rw [List.drop_eq_getElem_cons hk] at h
  rw [List.cons.injEq] at h
  rw [range_len] at hk
  refine ⟨?_, h.2.symm, by omega⟩
  rw [← h.1]
  simp [rangeD]
theorem range_end {n : Int} {k : Nat} (h : (rangeD 0 n).drop k = []) : n ≤ (k : Int) := by
  rw [List.drop_eq_nil_iff, range_len] at h
  omega
theorem row_at {r : List (Option Int)} {k : Nat} (h : k < r.length) : atZ (r.map encO) (k : Int) = some (encO (cell r k)) := by
  rw [atZ_nat, List.getElem?_map, List.getElem?_eq_getElem h]
  simp [cell, List.getD, List.getElem?_eq_getElem h]
theorem k_classes_of {Φ : Phi} : Keeps Φ 7 [] B_classes_of spClasses := by
  intro ds Q h
  obtain ⟨w, t, rfl, hw, ht, hr, h⟩ := h
  refine ⟨rfl, by simp, ?_⟩
  have hi := rows_imm (t := t)
  unfold B_classes_of
  unfold tblD at h ⊢
  rw [wSs.eq_2]
  simp [wE, wE2, wAs, wVs, wT, wIt, wS, wSs.eq_1, startR, startS, endOf, outs, List.zip_cons_cons, hide_nil, hide_cons, restore_nil, restore_cons, lock, setAll, spClasses, hi]
  rw [wSs.eq_2]
  simp [wE, wE2, wAs, wVs, wT, wIt, wS, wSs.eq_1, startR, startS, endOf, outs, List.zip_cons_cons, hide_nil, hide_cons, restore_nil, restore_cons, lock, setAll]
  rw [wSs.eq_2]
  unfold B_classes_of_4
  refine wS_forS (rangeD 0 (w : Int)) none (fun rest st => ∃ (k : Nat) (a b : Option D), k ≤ w ∧ rest = (rangeD 0 (w : Int)).drop k ∧ st = [some (.int w), some (.tup (t.map rowD)), some (.dct (knD 0 (known t k))), some (.lst ((cls t k).map D.int)), a, b, none]) (fun Q q => ?_) ?_ ?_ ?_ ?_
  · simp [wE, wE2, wAs, wVs, wT, wIt, wS, wSs.eq_1, startR, startS, endOf, outs, List.zip_cons_cons, hide_nil, hide_cons, restore_nil, restore_cons, lock, setAll]; exact ⟨small_of (by omega) (by omega), q⟩
  · rw [range_len]; unfold lim; omega
  · exact ⟨0, none, none, by omega, rfl, by simp [wE, wE2, wAs, wVs, wT, wIt, wS, wSs.eq_1, startR, startS, endOf, outs, List.zip_cons_cons, hide_nil, hide_cons, restore_nil, restore_cons, lock, setAll, known, cls, knD]⟩
  · rintro x r st ⟨k, a, b, hk, e, rfl⟩ Kn Kb Kr ih
    obtain ⟨rfl, rfl, hlt⟩ := range_drop e.symm
    have hlt' : k < w := by omega
    have hkL : k < lim := by unfold lim; omega
    have hkn : (known t k).length < lim := by have := known_le (t := t) (k := k); unfold lim; omega
    simp [B_classes_of_3, setTgF, bindF]
    rw [wSs.eq_2]
    simp [wE, wE2, wAs, wVs, wT, wIt, wS, wSs.eq_1, startR, startS, endOf, outs, List.zip_cons_cons, hide_nil, hide_cons, restore_nil, restore_cons, lock, setAll, B_classes_of_2, hi]
    refine ⟨by unfold lim; omega, ?_⟩
    refine wComp_all (fun x => match x with | .tup xs => (atZ xs (k : Int)).getD .non | _ => .non) rfl (fun _ _ _ q => q) (fun x hx Q q => ?_) ?_
    · obtain ⟨row, hrow, rfl⟩ := List.mem_map.mp hx
      have hl := hr row hrow
      have ha := row_at (r := row) (k := k) (by omega)
      unfold rowD at q ⊢
      simp only [ha, Option.getD_some] at q
      simp [B_classes_of_1, wE, wE2, wAs, wVs, wT, wIt, wS, wSs.eq_1, startR, startS, endOf, outs, List.zip_cons_cons, hide_nil, hide_cons, restore_nil, restore_cons, lock, setAll, ha]
      exact q
    · have ec : ((t.map rowD).map fun x => match x with | .tup xs => (atZ xs (k : Int)).getD .non | _ => .non) = (col t k).map encO := by
        unfold col
        rw [List.map_map, List.map_map]
        refine List.map_congr_left fun row hrow => ?_
        have hl := hr row hrow
        have ha := row_at (r := row) (k := k) (by omega)
        simp [rowD, ha]
      rw [ec]
      have hci := enc_imm (r := col t k)
      simp [wE, wE2, wAs, wVs, wT, wIt, wS, wSs.eq_1, startR, startS, endOf, outs, List.zip_cons_cons, hide_nil, hide_cons, restore_nil, restore_cons, lock, setAll, hci]
      rw [wSs.eq_2]
      have hg := knD_get (c := col t k) (i := 0) (kn := known t k)
      have hok := knD_key (c := col t k) (i := 0) (kn := known t k)
      unfold rowD at hg hok
      by_cases hm : col t k ∈ known t k
      · obtain ⟨c1, c2⟩ := cl_old hm
        rw [if_pos hm] at hg
        simp [wE, wE2, wAs, wVs, wT, wIt, wS, wSs.eq_1, startR, startS, endOf, outs, List.zip_cons_cons, hide_nil, hide_cons, restore_nil, restore_cons, lock, setAll, hg, hok]
        rw [wSs.eq_2]
        simp [wE, wE2, wAs, wVs, wT, wIt, wS, wSs.eq_1, startR, startS, endOf, outs, List.zip_cons_cons, hide_nil, hide_cons, restore_nil, restore_cons, lock, setAll, hg, hok, cls_len, hkL]
        refine ih _ ⟨k + 1, some (.int k), some (.tup ((col t k).map encO)), by omega, rfl, ?_⟩
        rw [c2, cls_succ, List.map_append]
        have : cl t k = ((known t k).idxOf (col t k) : Nat) := by unfold cl; rw [c2]
        simp [this]
      · obtain ⟨c1, c2⟩ := cl_new hm
        rw [if_neg hm] at hg
        have hkl := known_le (t := t) (k := k)
        have hp := knD_put hm
        have hg2 := knD_get (c := col t k) (i := 0) (kn := known t k ++ [col t k])
        have hok2 := knD_key (c := col t k) (i := 0) (kn := known t k ++ [col t k])
        unfold rowD at hp hg2 hok2
        rw [if_pos (by simp), idx_app_not hm] at hg2
        simp [wE, wE2, wAs, wVs, wT, wIt, wS, wSs.eq_1, startR, startS, endOf, outs, List.zip_cons_cons, hide_nil, hide_cons, restore_nil, restore_cons, lock, setAll, hg, hok]
        rw [wSs.eq_2]
        simp [wE, wE2, wAs, wVs, wT, wIt, wS, wSs.eq_1, startR, startS, endOf, outs, List.zip_cons_cons, hide_nil, hide_cons, restore_nil, restore_cons, lock, setAll, isRw, hok, hci, knD_len, hp, hkn]
        rw [wSs.eq_2]
        simp [wE, wE2, wAs, wVs, wT, wIt, wS, wSs.eq_1, startR, startS, endOf, outs, List.zip_cons_cons, hide_nil, hide_cons, restore_nil, restore_cons, lock, setAll, hg2, hok2, cls_len, hkL]
        refine ih _ ⟨k + 1, some (.int k), some (.tup ((col t k).map encO)), by omega, rfl, ?_⟩
        rw [c2, cls_succ, List.map_append, c1]
        simp
  · rintro st ⟨k, a, b, hk, e, rfl⟩
    have hke := range_end e.symm
    obtain rfl : k = w := by omega
    simp only [Option.toList_none, restore_nil]
    rw [wSs.eq_2]
    have hci := immut_ints (ns := cls t k)
    simp [wE, wE2, wAs, wVs, wT, wIt, wS, wSs.eq_1, startR, startS, endOf, outs, List.zip_cons_cons, hide_nil, hide_cons, restore_nil, restore_cons, lock, setAll, hci]
    exact h
/-! ### by_classes -/
def firsts (cs : List Int) (m : Nat) : List Nat := (List.range m).map fun (n : Nat) => cs.idxOf (n : Int)
def smallT (t : List (List (Option Int))) (cs : List Int) (m : Nat) : List (List (Option Int)) := t.map fun r => (firsts cs m).map fun l => cell r l
theorem find_int {n : Int} : ∀ {cs : List Int}, n ∈ cs → (cs.map D.int).findIdx? (fun x => eqv x (.int n)) = some (cs.idxOf n)
  | [], h => by cases h
  | x :: r, h => by
    rw [List.map_cons, List.findIdx?_cons]
    simp only [eqv_int]
    by_cases e : x = n
    · subst e; simp
    · rw [decide_eq_false e, idx_cons_ne e]
      have hr : n ∈ r := by
        rcases List.mem_cons.mp h with z | z
        · exact absurd z.symm e
        · exact z
      simp [find_int hr]
theorem ints_plain {cs : List Int} : (cs.map D.int).all D.plain = true := by
  rw [List.all_eq_true]; intro x hx; obtain ⟨y, _, rfl⟩ := List.mem_map.mp hx; simp
theorem mr_int {cs : List Int} {n : Int} (h : n ∈ cs) : mread .index (.tup (cs.map D.int)) [.int n] = some (.int (cs.idxOf n : Nat)) ∧ mread .index (.lst (cs.map D.int)) [.int n] = some (.int (cs.idxOf n : Nat)) := by
  constructor <;> (unfold mread; simp only; rw [ints_plain, find_int h]; simp)
theorem ints_map : ∀ {cs : List Int}, ints? (cs.map D.int) = some cs
  | [] => rfl
  | x :: r => by simp [ints?, ints_map (cs := r)]
def spBy : Spec := { io := [false, false], run := fun ds Q => ∃ (t : List (List (Option Int))) (cs : List Int) (m : Nat), ds = [tblD t, .tup (cs.map D.int)] ∧ m ≤ 1000 ∧ t.length ≤ 1000 ∧ imax cs = some ((m : Int) - 1) ∧ (∀ n : Nat, n < m → (n : Int) ∈ cs) ∧ (∀ r ∈ t, r.length = cs.length) ∧ Q (tblD (smallT t cs m)) ds }
theorem firsts_lt {cs : List Int} {m l : Nat} (h : ∀ n : Nat, n < m → (n : Int) ∈ cs) (hl : l ∈ firsts cs m) : l < cs.length := by
  obtain ⟨n, hn, rfl⟩ := List.mem_map.mp hl
  exact List.idxOf_lt_length_of_mem (h n (List.mem_range.mp hn))
theorem range0 {m : Nat} : rangeD 0 (m : Int) = (List.range m).map fun (k : Nat) => D.int (k : Int) := by
  unfold rangeD
  simp
theorem k_by_classes {Φ : Phi} : Keeps Φ 6 [] B_by_classes spBy := by
  intro ds Q h
  obtain ⟨t, cs, m, rfl, hm, ht, hmax, hall, hr, h⟩ := h
  refine ⟨rfl, by simp, ?_⟩
  have hi := rows_imm (t := t)
  have hci := immut_ints (ns := cs)
  have hmL : m ≤ lim := by unfold lim; omega
  have htL : t.length ≤ lim := by unfold lim; omega
  unfold B_by_classes
  unfold tblD at h ⊢
  rw [wSs.eq_2]
  simp [wE, wE2, wAs, wVs, wT, wIt, wS, wSs.eq_1, startR, startS, endOf, outs, List.zip_cons_cons, hide_nil, hide_cons, restore_nil, restore_cons, lock, setAll, B_by_classes_2, spBy, hi, hci, ints_map, hmax]
  refine ⟨small_of (by omega) (by omega), by rw [range_len]; unfold lim; omega, ?_⟩
  refine wComp_all (fun x => match x with | .int n => .int (cs.idxOf n : Nat) | _ => .non) rfl (fun _ _ _ q => q) (fun x hx Q q => ?_) ?_
  · obtain ⟨k, rfl, hk⟩ := mem_range hx
    have hmem := hall k (by omega)
    have e1 := (mr_int hmem).1
    simp [B_by_classes_1, wE, wE2, wAs, wVs, wT, wIt, wS, wSs.eq_1, startR, startS, endOf, outs, List.zip_cons_cons, hide_nil, hide_cons, restore_nil, restore_cons, lock, setAll, e1] at q ⊢
    exact q
  · have ef : ((rangeD 0 (m : Int)).map fun x => match x with | .int n => D.int (cs.idxOf n : Nat) | _ => D.non) = (firsts cs m).map fun l : Nat => D.int (l : Int) := by
      rw [range0]; simp [firsts]
    rw [ef]
    have hfl : (firsts cs m).length ≤ lim := by simp [firsts]; exact hmL
    simp [wE, wE2, wAs, wVs, wT, wIt, wS, wSs.eq_1, startR, startS, endOf, outs, List.zip_cons_cons, hide_nil, hide_cons, restore_nil, restore_cons, lock, setAll]
    rw [wSs.eq_2]
    simp [wE, wE2, wAs, wVs, wT, wIt, wS, wSs.eq_1, startR, startS, endOf, outs, List.zip_cons_cons, hide_nil, hide_cons, restore_nil, restore_cons, lock, setAll, B_by_classes_6, hi, htL]
    refine wComp_all (fun x => match x with | .tup xs => .tup ((firsts cs m).map fun l : Nat => (atZ xs (l : Int)).getD .non) | _ => .non) rfl (fun _ _ _ q => q) (fun x hx Q q => ?_) ?_
    · obtain ⟨row, hrow, rfl⟩ := List.mem_map.mp hx
      have hl := hr row hrow
      unfold rowD at q ⊢
      simp [B_by_classes_5, wE, wE2, wAs, wVs, wT, wIt, wS, wSs.eq_1, startR, startS, endOf, outs, List.zip_cons_cons, hide_nil, hide_cons, restore_nil, restore_cons, lock, setAll, B_by_classes_4, hfl]
      refine wComp_all (fun x => match x with | .int l => (atZ (row.map encO) l).getD .non | _ => .non) rfl (fun _ _ _ q => q) (fun x hx Q q => ?_) ?_
      · obtain ⟨l, hl2, rfl⟩ := List.mem_map.mp hx
        have hlt := firsts_lt hall hl2
        have ha := row_at (r := row) (k := l) (by omega)
        simp only [ha, Option.getD_some] at q
        simp [B_by_classes_3, wE, wE2, wAs, wVs, wT, wIt, wS, wSs.eq_1, startR, startS, endOf, outs, List.zip_cons_cons, hide_nil, hide_cons, restore_nil, restore_cons, lock, setAll, ha]
        exact q
      · have e3 : (((firsts cs m).map fun l : Nat => D.int (l : Int)).map fun x => match x with | .int l => (atZ (row.map encO) l).getD .non | _ => .non) = (firsts cs m).map fun l : Nat => encO (cell row l) := by
          rw [List.map_map]
          refine List.map_congr_left fun l hl2 => ?_
          have hlt := firsts_lt hall hl2
          have ha := row_at (r := row) (k := l) (by omega)
          simp [ha]
        have e4 : ((firsts cs m).map fun l : Nat => (atZ (row.map encO) (l : Int)).getD .non) = (firsts cs m).map fun l : Nat => encO (cell row l) := by
          refine List.map_congr_left fun l hl2 => ?_
          have hlt := firsts_lt hall hl2
          have ha := row_at (r := row) (k := l) (by omega)
          simp [ha]
        simp only [e4] at q
        rw [e3]
        have him : immutAll ((firsts cs m).map fun l : Nat => encO (cell row l)) = true := immutAll_map fun _ _ => encO_imm
        simp [wE, wE2, wAs, wVs, wT, wIt, wS, wSs.eq_1, startR, startS, endOf, outs, List.zip_cons_cons, hide_nil, hide_cons, restore_nil, restore_cons, lock, setAll, him]
        exact q
    · have e5 : ((t.map rowD).map fun x => match x with | .tup xs => D.tup ((firsts cs m).map fun l : Nat => (atZ xs (l : Int)).getD .non) | _ => .non) = (smallT t cs m).map rowD := by
        unfold smallT
        rw [List.map_map, List.map_map]
        refine List.map_congr_left fun row hrow => ?_
        have hl := hr row hrow
        simp only [Function.comp_apply, rowD]
        rw [List.map_map]
        congr 1
        refine List.map_congr_left fun l hl2 => ?_
        have hlt := firsts_lt hall hl2
        have ha := row_at (r := row) (k := l) (by omega)
        simp [ha]
      rw [e5]
      have hsi := rows_imm (t := smallT t cs m)
      simp [wE, wE2, wAs, wVs, wT, wIt, wS, wSs.eq_1, startR, startS, endOf, outs, List.zip_cons_cons, hide_nil, hide_cons, restore_nil, restore_cons, lock, setAll, hsi]
      exact h
/-! ### classed -/
def classedD (m : Mach) : D := .tup [.tup ((cls m.t m.w).map D.int), .tup [.int ((known m.t m.w).length : Int), tblD (smallT m.t (cls m.t m.w) (known m.t m.w).length), .tup (m.fs.map D.int)]]
def spClassed : Spec := { io := [false], run := fun ds Q => ∃ m, ds = [machD m] ∧ MOk m ∧ Q (classedD m) ds }
theorem k_classed {Φ : Phi} (h1 : Φ "need_machine" = some spNeed) (h2 : Φ "classes_of" = some spClasses) (h3 : Φ "by_classes" = some spBy) : Keeps Φ 6 [] B_classed spClassed := by
  intro ds Q h
  obtain ⟨m, rfl, hm, h⟩ := h
  refine ⟨rfl, by simp, ?_⟩
  have hfi := immut_ints (ns := m.fs)
  have hci := immut_ints (ns := cls m.t m.w)
  have hk := known_le (t := m.t) (k := m.w)
  have hw2 := hm.w2
  have ht2 := hm.t2
  have ht1 := hm.t1
  have hmx := max_cls1 (t := m.t) hm.w1
  have hsl : ((smallT m.t (cls m.t m.w) (known m.t m.w).length).map rowD)[0]? = some (rowD ((firsts (cls m.t m.w) (known m.t m.w).length).map fun l => cell (m.t.headD []) l)) := by
    unfold smallT
    cases hmt : m.t with
    | nil => rw [hmt] at ht1; simp at ht1
    | cons r t => simp
  unfold B_classed
  rw [wSs.eq_2]
  simp [wE, wE2, wAs, wVs, wT, wIt, wS, wSs.eq_1, startR, startS, endOf, outs, List.zip_cons_cons, hide_nil, hide_cons, restore_nil, restore_cons, lock, setAll, h1, spNeed, spClassed]
  refine ⟨m, rfl, hm, ?_⟩
  rw [wSs.eq_2]
  unfold machD
  simp [wE, wE2, wAs, wVs, wT, wIt, wS, wSs.eq_1, startR, startS, endOf, outs, List.zip_cons_cons, hide_nil, hide_cons, restore_nil, restore_cons, lock, setAll, hfi]
  rw [wSs.eq_2]
  simp [wE, wE2, wAs, wVs, wT, wIt, wS, wSs.eq_1, startR, startS, endOf, outs, List.zip_cons_cons, hide_nil, hide_cons, restore_nil, restore_cons, lock, setAll, h2, spClasses]
  refine ⟨m.w, m.t, ⟨rfl, rfl⟩, by omega, by omega, fun r hr => (hm.rows r hr).1, ?_⟩
  rw [wSs.eq_2]
  simp [wE, wE2, wAs, wVs, wT, wIt, wS, wSs.eq_1, startR, startS, endOf, outs, List.zip_cons_cons, hide_nil, hide_cons, restore_nil, restore_cons, lock, setAll, h3, spBy]
  refine ⟨m.t, cls m.t m.w, ⟨rfl, rfl⟩, (known m.t m.w).length, by omega, by omega, hmx, fun n hn => cls_all hn, fun r hr => by rw [cls_len]; exact (hm.rows r hr).1, ?_⟩
  rw [wSs.eq_2]
  have hz : atZ ((smallT m.t (cls m.t m.w) (known m.t m.w).length).map rowD) 0 = some (rowD ((firsts (cls m.t m.w) (known m.t m.w).length).map fun l => cell (m.t.headD []) l)) := atZ_of (k := 0) rfl hsl
  unfold classedD machD at h
  have hsi := rows_imm (t := smallT m.t (cls m.t m.w) (known m.t m.w).length)
  unfold tblD at h ⊢
  unfold rowD at hz hsi ⊢
  simp [wE, wE2, wAs, wVs, wT, wIt, wS, wSs.eq_1, startR, startS, endOf, outs, List.zip_cons_cons, hide_nil, hide_cons, restore_nil, restore_cons, lock, setAll, hz, hfi, hci, hsi, enc_imm]
  have hfl : (firsts (cls m.t m.w) (known m.t m.w).length).length = (known m.t m.w).length := by simp [firsts]
  refine ⟨by decide, by decide, ?_⟩
  rw [hfl]
  exact h
end Dl
/-! DlLaw: what the laws have in common. -/
namespace Dl
open PySem (Str)
def N__law_taken : List Str := ["_law_row", "_law_many", "_law_found", "_law_cell"]
def B__law_taken : List S := [.ite (.cmp .gt (.pl (.nm 0 (.cons (.c (.int 3)) .nil)) (.cons (.c (.int 0)) .nil))) [.asg 2 (.bin .mod (.pl (.nm 0 (.cons (.c (.int 3)) .nil)) (.nm 1 .nil))), .sto 0 (.c (.int 3)) (.bin .fdiv (.pl (.nm 0 (.cons (.c (.int 3)) .nil)) (.nm 1 .nil))), .ret (.v 2)] [], .sto 0 (.c (.int 1)) (.bin .add (.pl (.nm 0 (.cons (.c (.int 1)) .nil)) (.cons (.c (.int 1)) .nil))), .ite (.cmp .gt (.pl (.nm 0 (.cons (.c (.int 1)) .nil)) (.cons (.bf .len (.pl (.nm 0 (.cons (.c (.int 0)) .nil)) .nil)) .nil))) [.sto 0 (.c (.int 2)) (.bin .mod (.cons (.bin .add (.cons (.bin .mul (.pl (.nm 0 (.cons (.c (.int 2)) .nil)) (.cons (.c (.int 48271)) .nil))) (.cons (.c (.int 11)) .nil))) (.cons (.c (.int 2147483647)) .nil))), .ret (.bin .mod (.cons (.bin .fdiv (.pl (.nm 0 (.cons (.c (.int 2)) .nil)) (.cons (.c (.int 7)) .nil))) (.nm 1 .nil)))] [], .asg 3 (.idx (.pl (.nm 0 (.cons (.c (.int 0)) .nil)) (.cons (.bin .sub (.pl (.nm 0 (.cons (.c (.int 1)) .nil)) (.cons (.c (.int 1)) .nil))) .nil))), .sto 0 (.c (.int 2)) (.bin .mod (.cons (.bin .add (.cons (.bin .add (.cons (.bin .mul (.pl (.nm 0 (.cons (.c (.int 2)) .nil)) (.cons (.c (.int 48271)) .nil))) (.nm 3 .nil))) (.cons (.c (.int 11)) .nil))) (.cons (.c (.int 2147483647)) .nil))), .ite (.cmp .ge (.nm 3 (.cons (.bin .pow (.cons (.c (.int 10)) (.cons (.c (.int 18)) .nil))) .nil))) [.sto 0 (.c (.int 3)) (.bin .fdiv (.nm 3 (.nm 1 .nil)))] [], .ret (.bin .mod (.nm 3 (.nm 1 .nil)))]
def N__law_alike : List Str := ["_law_found", "_law_due", "_law_k"]
def B__law_alike_1 : Es := (.cons (.not (.fn "_law_alike" (.pl (.nm 0 (.nm 2 .nil)) (.pl (.nm 1 (.nm 2 .nil)) .nil)))) .nil)
def B__law_alike_2 : E := (.v 2)
def B__law_alike_3 : E := .comp B__law_alike_2 (.nm 2) (.rng1 (.bf .len (.nm 1 .nil))) B__law_alike_1 [("_law_k", 2)]
def B__law_alike : List S := [.ite (.or (.isi [.tuple] (.nm 1 .nil)) (.isi [.list] (.nm 1 .nil))) [.ite (.or (.cmp .ne (.cons (.isi [.tuple] (.nm 0 .nil)) (.cons (.isi [.tuple] (.nm 1 .nil)) .nil))) (.not (.isi [.tuple, .list] (.nm 0 .nil)))) [.ret (.c (.bl false))] [], .ite (.cmp .ne (.cons (.bf .len (.nm 0 .nil)) (.cons (.bf .len (.nm 1 .nil)) .nil))) [.ret (.c (.bl false))] [], .ret (.cmp .eq (.cons B__law_alike_3 (.cons (.lst .nil) .nil)))] [], .ite (.or (.isN false (.nm 1 .nil)) (.isN false (.nm 0 .nil))) [.ret (.and (.isN false (.nm 1 .nil)) (.isN false (.nm 0 .nil)))] [], .ite (.or (.isi [.bool] (.nm 1 .nil)) (.isi [.bool] (.nm 0 .nil))) [.ret (.and (.isi [.bool] (.nm 1 .nil)) (.and (.isi [.bool] (.nm 0 .nil)) (.cmp .eq (.nm 0 (.nm 1 .nil)))))] [], .ite (.isi [.str] (.nm 1 .nil)) [.ret (.and (.isi [.str] (.nm 0 .nil)) (.cmp .eq (.nm 0 (.nm 1 .nil))))] [], .ret (.and (.isi [.int] (.nm 0 .nil)) (.cmp .eq (.nm 0 (.nm 1 .nil))))]
def N__law_machine : List Str := ["_law_row", "_law_rooms", "_law_letters", "_law_alike_here", "_law_twins", "_law_holes", "_law_many", "_law_wide", "_law_table", "_law_room", "_law_line", "_law_letter", "_law_twin", "_law_goal", "_law_finals"]
def B__law_machine_1 : List S := [.asg 13 (.fn "_law_taken" (.nm 0 (.cons (.bin .mul (.nm 6 (.nm 5 .nil))) .nil))), .sto 10 (.v 11) (.ite (.cmp .lt (.nm 13 (.nm 6 .nil))) (.c .non) (.bin .mod (.nm 13 (.nm 6 .nil))))]
def B__law_machine_2 : S := .for_ (.nm 11) (.rng1 (.v 7)) B__law_machine_1
def B__law_machine_3 : List S := [.sto 10 (.bin .sub (.cons (.bin .sub (.nm 7 (.cons (.c (.int 1)) .nil))) (.nm 12 .nil))) (.idx (.nm 10 (.cons (.bin .mod (.nm 12 (.cons (.bin .add (.cons (.c (.int 1)) (.cons (.bin .fdiv (.nm 4 (.cons (.c (.int 2)) .nil))) .nil))) .nil))) .nil)))]
def B__law_machine_4 : S := .for_ (.nm 12) (.rng1 (.bf .min2 (.nm 4 (.cons (.bin .sub (.nm 7 (.cons (.c (.int 1)) .nil))) .nil)))) B__law_machine_3
def B__law_machine_5 : List S := [.asg 10 (.bin .mul (.cons (.lst (.cons (.c .non) .nil)) (.nm 7 .nil))), B__law_machine_2, .ite (.and (.cmp .ne (.nm 8 (.cons (.lst .nil) .nil))) (.cmp .gt (.cons (.fn "_law_taken" (.nm 0 (.cons (.bin .add (.nm 3 (.cons (.c (.int 1)) .nil))) .nil))) (.cons (.c (.int 0)) .nil)))) [.asg 10 (.bf .list (.pl (.nm 8 (.cons (.fn "_law_taken" (.nm 0 (.nm 9 .nil))) .nil)) .nil)), .sto 10 (.fn "_law_taken" (.nm 0 (.nm 7 .nil))) (.fn "_law_taken" (.nm 0 (.nm 6 .nil)))] [], B__law_machine_4, .ex (.mm .append 8 (.cons (.bf .tuple (.nm 10 .nil)) .nil))]
def B__law_machine_6 : S := .for_ (.nm 9) (.rng1 (.v 6)) B__law_machine_5
def B__law_machine_7 : Es := (.cons (.cmp .eq (.cons (.fn "_law_taken" (.nm 0 (.cons (.c (.int 3)) .nil))) (.cons (.c (.int 0)) .nil))) .nil)
def B__law_machine_8 : E := (.v 9)
def B__law_machine_9 : E := .comp B__law_machine_8 (.nm 9) (.rng1 (.v 6)) B__law_machine_7 [("_law_room", 9)]
def B__law_machine : List S := [.par [3, 4, 5] (.cons (.fn "_law_taken" (.nm 0 (.cons (.c (.int 3)) .nil))) (.cons (.fn "_law_taken" (.nm 0 (.cons (.c (.int 4)) .nil))) (.cons (.idx (.cons (.lst (.cons (.c (.int 2)) (.cons (.c (.int 3)) (.cons (.c (.int 11)) .nil)))) (.cons (.fn "_law_taken" (.nm 0 (.cons (.c (.int 3)) .nil))) .nil))) .nil))), .par [6, 7] (.cons (.bin .add (.cons (.c (.int 1)) (.cons (.fn "_law_taken" (.nm 0 (.nm 1 .nil))) .nil))) (.cons (.bin .add (.cons (.c (.int 1)) (.cons (.fn "_law_taken" (.nm 0 (.nm 2 .nil))) .nil))) .nil)), .asg 8 (.lst .nil), B__law_machine_6, .asg 14 (.bf .tuple (.cons B__law_machine_9 .nil)), .ret (.tup (.cons (.v 7) (.cons (.bf .tuple (.nm 8 .nil)) (.cons (.v 14) .nil))))]
def N__law_classes : List Str := ["_law_letters", "_law_table", "_law_found", "_law_letter", "_law_ahead", "_law_k", "_law_line"]
def B__law_classes_1 : Es := (.cons (.cmp .ne (.pl (.nm 6 (.nm 5 .nil)) (.pl (.nm 6 (.nm 3 .nil)) .nil))) .nil)
def B__law_classes_2 : E := (.v 6)
def B__law_classes_3 : E := .comp B__law_classes_2 (.nm 6) (.seqN 1) B__law_classes_1 [("_law_line", 6)]
def B__law_classes_4 : Es := (.cons (.cmp .eq (.cons B__law_classes_3 (.cons (.lst .nil) .nil))) .nil)
def B__law_classes_5 : E := (.v 5)
def B__law_classes_6 : E := .comp B__law_classes_5 (.nm 5) (.rng1 (.v 3)) B__law_classes_4 [("_law_k", 5)]
def B__law_classes_7 : List S := [.asg 4 B__law_classes_6, .ex (.mm .append 2 (.cons (.ite (.cmp .ne (.nm 4 (.cons (.lst .nil) .nil))) (.idx (.nm 2 (.pl (.nm 4 (.cons (.c (.int 0)) .nil)) .nil))) (.bin .add (.cons (.bf .max1 (.cons (.bin .add (.cons (.lst (.cons (.bin .sub (.cons (.c (.int 0)) (.cons (.c (.int 1)) .nil))) .nil)) (.nm 2 .nil))) .nil)) (.cons (.c (.int 1)) .nil)))) .nil))]
def B__law_classes_8 : S := .for_ (.nm 3) (.rng1 (.v 0)) B__law_classes_7
def B__law_classes : List S := [.asg 2 (.lst .nil), B__law_classes_8, .ret (.v 2)]
def N__law_small : List Str := ["_law_table", "_law_classes_here", "_law_firsts", "_law_number", "_law_line", "_law_letter"]
def B__law_small_1 : E := (.mr .index 1 (.nm 3 .nil))
def B__law_small_2 : E := .comp B__law_small_1 (.nm 3) (.rng1 (.bin .add (.cons (.bf .max1 (.nm 1 .nil)) (.cons (.c (.int 1)) .nil)))) .nil [("_law_number", 3)]
def B__law_small_3 : E := (.idx (.nm 4 (.nm 5 .nil)))
def B__law_small_4 : E := .comp B__law_small_3 (.nm 5) (.seqN 2) .nil [("_law_letter", 5)]
def B__law_small_5 : E := B__law_small_4
def B__law_small_6 : E := .comp B__law_small_5 (.nm 4) (.seqN 0) .nil [("_law_line", 4)]
def B__law_small : List S := [.asg 2 B__law_small_2, .ret B__law_small_6]
def rowOk (d : D) : Prop := ∃ (ns : List Int) (p s c : Int), d = .lst [.ro ns, .int p, .int s, .int c] ∧ 0 ≤ p ∧ 0 ≤ s ∧ s < 2147483647 ∧ 0 ≤ c
def tk (m : Int) : Bool := decide (0 < m ∧ m < 1000000000)
theorem tk_of {m : Int} (h1 : 0 < m) (h2 : m < 1000000000) : tk m = true := by unfold tk; rw [decide_eq_true_iff]; exact ⟨h1, h2⟩
@[simp] theorem tk2 : tk 2 = true := by decide
@[simp] theorem tk3 : tk 3 = true := by decide
@[simp] theorem tk4 : tk 4 = true := by decide
def spTaken : Spec := { io := [true, false], run := fun ds Q => match ds with
  | [d, .int m] => rowOk d ∧ tk m = true ∧ ∀ (d' : D) (r : Int), rowOk d' → 0 ≤ r → r < m → Q (.int r) [d', .int m]
  | _ => False }
theorem fmod_in {a m : Int} (h : 0 < m) : 0 ≤ a.fmod m ∧ a.fmod m < m := ⟨Int.fmod_nonneg_of_pos a h, Int.fmod_lt_of_pos a h⟩
theorem fdiv_nn {a m : Int} (h : 0 < m) (ha : 0 ≤ a) : 0 ≤ a.fdiv m := by rw [Int.fdiv_eq_ediv_of_nonneg _ (by omega)]; exact Int.ediv_nonneg ha (by omega)
theorem k_taken {Φ : Phi} : Keeps Φ 4 [] B__law_taken spTaken := by
  intro ds Q h
  simp only [spTaken] at h
  split at h
  case h_2 => exact h.elim
  rename_i d m
  obtain ⟨⟨ns, p, s, c, rfl, hp, hs, hs2, hc⟩, hmt, h⟩ := h
  unfold tk at hmt
  rw [decide_eq_true_iff] at hmt
  obtain ⟨hm, hm2⟩ := hmt
  refine ⟨rfl, by simp, ?_⟩
  have hm0 : ¬ m = 0 := by omega
  have hmn : m.natAbs < 1073741824 := by omega
  unfold B__law_taken
  rw [wSs.eq_2]
  by_cases hc0 : 0 < c
  · simp [wE, wE2, wAs, wVs, wT, wIt, wS, wSs.eq_1, startR, startS, endOf, outs, List.zip_cons_cons, hide_nil, hide_cons, restore_nil, restore_cons, lock, setAll, spTaken, atZ, hc0]
    rw [wSs.eq_2]
    simp [wE, wE2, wAs, wVs, wT, wIt, wS, wSs.eq_1, startR, startS, endOf, outs, List.zip_cons_cons, hide_nil, hide_cons, restore_nil, restore_cons, lock, setAll, atZ, hm0]
    rw [wSs.eq_2]
    simp [wE, wE2, wAs, wVs, wT, wIt, wS, wSs.eq_1, startR, startS, endOf, outs, List.zip_cons_cons, hide_nil, hide_cons, restore_nil, restore_cons, lock, setAll, atZ, hm0, hmn, isRw, ixZ]
    rw [wSs.eq_2]
    simp [wE, wE2, wAs, wVs, wT, wIt, wS, wSs.eq_1, startR, startS, endOf, outs, List.zip_cons_cons, hide_nil, hide_cons, restore_nil, restore_cons, lock, setAll]
    have := fmod_in (a := c) hm
    exact h _ _ ⟨ns, p, s, c.fdiv m, rfl, hp, hs, hs2, fdiv_nn hm hc⟩ this.1 this.2
  · simp [wE, wE2, wAs, wVs, wT, wIt, wS, wSs.eq_1, startR, startS, endOf, outs, List.zip_cons_cons, hide_nil, hide_cons, restore_nil, restore_cons, lock, setAll, spTaken, atZ, hc0]
    rw [wSs.eq_2]
    simp [wE, wE2, wAs, wVs, wT, wIt, wS, wSs.eq_1, startR, startS, endOf, outs, List.zip_cons_cons, hide_nil, hide_cons, restore_nil, restore_cons, lock, setAll, atZ, isRw, ixZ]
    rw [wSs.eq_2]
    by_cases hl : (ns.length : Int) < p + 1
    · have hb : mulOk s 48271 = true := mulOk_l (by omega) (by omega)
      simp [wE, wE2, wAs, wVs, wT, wIt, wS, wSs.eq_1, startR, startS, endOf, outs, List.zip_cons_cons, hide_nil, hide_cons, restore_nil, restore_cons, lock, setAll, atZ, hl]
      rw [wSs.eq_2]
      simp [wE, wE2, wAs, wVs, wT, wIt, wS, wSs.eq_1, startR, startS, endOf, outs, List.zip_cons_cons, hide_nil, hide_cons, restore_nil, restore_cons, lock, setAll, atZ, isRw, ixZ, hb]
      rw [wSs.eq_2]
      simp [wE, wE2, wAs, wVs, wT, wIt, wS, wSs.eq_1, startR, startS, endOf, outs, List.zip_cons_cons, hide_nil, hide_cons, restore_nil, restore_cons, lock, setAll, atZ, hm0, hmn]
      have h1 := fmod_in (a := s * 48271 + 11) (m := 2147483647) (by decide)
      have h2 := fmod_in (a := ((s * 48271 + 11).fmod 2147483647).fdiv 7) hm
      exact h _ _ ⟨ns, p + 1, _, c, rfl, by omega, h1.1, h1.2, hc⟩ h2.1 h2.2
    · have hb : mulOk s 48271 = true := mulOk_l (by omega) (by omega)
      have hpl : p.toNat < ns.length := by omega
      have hg : ns[p.toNat]? = some ns[p.toNat] := List.getElem?_eq_getElem hpl
      generalize ns[p.toNat] = cell at hg
      simp [wE, wE2, wAs, wVs, wT, wIt, wS, wSs.eq_1, startR, startS, endOf, outs, List.zip_cons_cons, hide_nil, hide_cons, restore_nil, restore_cons, lock, setAll, atZ, hl]
      rw [wSs.eq_2]
      simp [wE, wE2, wAs, wVs, wT, wIt, wS, wSs.eq_1, startR, startS, endOf, outs, List.zip_cons_cons, hide_nil, hide_cons, restore_nil, restore_cons, lock, setAll, atZ, hp, hg]
      rw [wSs.eq_2]
      simp [wE, wE2, wAs, wVs, wT, wIt, wS, wSs.eq_1, startR, startS, endOf, outs, List.zip_cons_cons, hide_nil, hide_cons, restore_nil, restore_cons, lock, setAll, atZ, isRw, ixZ, hb]
      rw [wSs.eq_2]
      have h1 := fmod_in (a := s * 48271 + cell + 11) (m := 2147483647) (by decide)
      have h2 := fmod_in (a := cell) hm
      by_cases hbig : (1000000000000000000 : Int) ≤ cell
      · simp [wE, wE2, wAs, wVs, wT, wIt, wS, wSs.eq_1, startR, startS, endOf, outs, List.zip_cons_cons, hide_nil, hide_cons, restore_nil, restore_cons, lock, setAll, atZ, hbig]
        rw [wSs.eq_2]
        simp [wE, wE2, wAs, wVs, wT, wIt, wS, wSs.eq_1, startR, startS, endOf, outs, List.zip_cons_cons, hide_nil, hide_cons, restore_nil, restore_cons, lock, setAll, atZ, isRw, ixZ, hm0, hmn]
        rw [wSs.eq_2]
        simp [wE, wE2, wAs, wVs, wT, wIt, wS, wSs.eq_1, startR, startS, endOf, outs, List.zip_cons_cons, hide_nil, hide_cons, restore_nil, restore_cons, lock, setAll, hm0]
        exact h _ _ ⟨ns, p + 1, _, _, rfl, by omega, h1.1, h1.2, fdiv_nn hm (by omega)⟩ h2.1 h2.2
      · simp [wE, wE2, wAs, wVs, wT, wIt, wS, wSs.eq_1, startR, startS, endOf, outs, List.zip_cons_cons, hide_nil, hide_cons, restore_nil, restore_cons, lock, setAll, atZ, hbig]
        rw [wSs.eq_2]
        simp [wE, wE2, wAs, wVs, wT, wIt, wS, wSs.eq_1, startR, startS, endOf, outs, List.zip_cons_cons, hide_nil, hide_cons, restore_nil, restore_cons, lock, setAll, hm0]
        exact h _ _ ⟨ns, p + 1, _, _, rfl, by omega, h1.1, h1.2, hc⟩ h2.1 h2.2
/-! ### alike -/
/-- data that _law_alike goes through -/
def deep : Nat → D → Prop
  | _, .non => True | _, .bl _ => True | _, .int _ => True | _, .str _ => True
  | n + 1, .tup xs => xs.length ≤ 1000 ∧ ∀ x ∈ xs, deep n x
  | n + 1, .lst xs => xs.length ≤ 1000 ∧ ∀ x ∈ xs, deep n x
  | _, _ => False
def spAlike (n : Nat) : Spec := { io := [false, false], run := fun ds Q => match n with
  | 0 => False
  | n + 1 => ∃ x, ds = [x, x] ∧ deep n x ∧ Q (.bl true) ds }
theorem k_alikeG {Φ : Phi} {n : Nat} (h1 : n ≠ 0 → Φ "_law_alike" = some (spAlike n)) : Keeps Φ 3 [] B__law_alike (spAlike (n + 1)) := by
  intro ds Q h
  obtain ⟨x, rfl, hx, h⟩ := h
  refine ⟨rfl, by simp, ?_⟩
  unfold B__law_alike
  rw [wSs.eq_2]
  cases x with
  | non =>
    simp [wE, wE2, wAs, wVs, wT, wIt, wS, wSs.eq_1, startR, startS, endOf, outs, List.zip_cons_cons, hide_nil, hide_cons, restore_nil, restore_cons, lock, setAll, spAlike]
    rw [wSs.eq_2]; simp [wE, wE2, wAs, wVs, wT, wIt, wS, wSs.eq_1, startR, startS, endOf, outs, List.zip_cons_cons, hide_nil, hide_cons, restore_nil, restore_cons, lock, setAll]
    rw [wSs.eq_2]; simp [wE, wE2, wAs, wVs, wT, wIt, wS, wSs.eq_1, startR, startS, endOf, outs, List.zip_cons_cons, hide_nil, hide_cons, restore_nil, restore_cons, lock, setAll]
    exact h
  | bl b =>
    simp [wE, wE2, wAs, wVs, wT, wIt, wS, wSs.eq_1, startR, startS, endOf, outs, List.zip_cons_cons, hide_nil, hide_cons, restore_nil, restore_cons, lock, setAll, spAlike]
    rw [wSs.eq_2]; simp [wE, wE2, wAs, wVs, wT, wIt, wS, wSs.eq_1, startR, startS, endOf, outs, List.zip_cons_cons, hide_nil, hide_cons, restore_nil, restore_cons, lock, setAll]
    rw [wSs.eq_2]; simp [wE, wE2, wAs, wVs, wT, wIt, wS, wSs.eq_1, startR, startS, endOf, outs, List.zip_cons_cons, hide_nil, hide_cons, restore_nil, restore_cons, lock, setAll]
    rw [wSs.eq_2]; simp [wE, wE2, wAs, wVs, wT, wIt, wS, wSs.eq_1, startR, startS, endOf, outs, List.zip_cons_cons, hide_nil, hide_cons, restore_nil, restore_cons, lock, setAll]
    exact h
  | int i =>
    simp [wE, wE2, wAs, wVs, wT, wIt, wS, wSs.eq_1, startR, startS, endOf, outs, List.zip_cons_cons, hide_nil, hide_cons, restore_nil, restore_cons, lock, setAll, spAlike]
    rw [wSs.eq_2]; simp [wE, wE2, wAs, wVs, wT, wIt, wS, wSs.eq_1, startR, startS, endOf, outs, List.zip_cons_cons, hide_nil, hide_cons, restore_nil, restore_cons, lock, setAll]
    rw [wSs.eq_2]; simp [wE, wE2, wAs, wVs, wT, wIt, wS, wSs.eq_1, startR, startS, endOf, outs, List.zip_cons_cons, hide_nil, hide_cons, restore_nil, restore_cons, lock, setAll]
    rw [wSs.eq_2]; simp [wE, wE2, wAs, wVs, wT, wIt, wS, wSs.eq_1, startR, startS, endOf, outs, List.zip_cons_cons, hide_nil, hide_cons, restore_nil, restore_cons, lock, setAll]
    rw [wSs.eq_2]; simp [wE, wE2, wAs, wVs, wT, wIt, wS, wSs.eq_1, startR, startS, endOf, outs, List.zip_cons_cons, hide_nil, hide_cons, restore_nil, restore_cons, lock, setAll]
    exact h
  | str s =>
    have him : (D.str s).immut = true := by simp [D.immut]
    have hce : cmpop .eq (.str s) (.str s) = some true := by simp [cmpop, D.plain, plainN, eqv]
    simp [wE, wE2, wAs, wVs, wT, wIt, wS, wSs.eq_1, startR, startS, endOf, outs, List.zip_cons_cons, hide_nil, hide_cons, restore_nil, restore_cons, lock, setAll, spAlike, him]
    rw [wSs.eq_2]; simp [wE, wE2, wAs, wVs, wT, wIt, wS, wSs.eq_1, startR, startS, endOf, outs, List.zip_cons_cons, hide_nil, hide_cons, restore_nil, restore_cons, lock, setAll]
    rw [wSs.eq_2]; simp [wE, wE2, wAs, wVs, wT, wIt, wS, wSs.eq_1, startR, startS, endOf, outs, List.zip_cons_cons, hide_nil, hide_cons, restore_nil, restore_cons, lock, setAll]
    rw [wSs.eq_2]; simp [wE, wE2, wAs, wVs, wT, wIt, wS, wSs.eq_1, startR, startS, endOf, outs, List.zip_cons_cons, hide_nil, hide_cons, restore_nil, restore_cons, lock, setAll]
    rw [wSs.eq_2]; simp [wE, wE2, wAs, wVs, wT, wIt, wS, wSs.eq_1, startR, startS, endOf, outs, List.zip_cons_cons, hide_nil, hide_cons, restore_nil, restore_cons, lock, setAll, hce]
    exact h
  | tup xs =>
    cases n with
    | zero => simp [deep] at hx
    | succ n =>
    have h1 := h1 (by simp)
    obtain ⟨hl, hx⟩ := hx
    simp [wE, wE2, wAs, wVs, wT, wIt, wS, wSs.eq_1, startR, startS, endOf, outs, List.zip_cons_cons, hide_nil, hide_cons, restore_nil, restore_cons, lock, setAll, spAlike]
    rw [wSs.eq_2]; simp [wE, wE2, wAs, wVs, wT, wIt, wS, wSs.eq_1, startR, startS, endOf, outs, List.zip_cons_cons, hide_nil, hide_cons, restore_nil, restore_cons, lock, setAll]
    rw [wSs.eq_2]; simp [wE, wE2, wAs, wVs, wT, wIt, wS, wSs.eq_1, startR, startS, endOf, outs, List.zip_cons_cons, hide_nil, hide_cons, restore_nil, restore_cons, lock, setAll]
    rw [wSs.eq_2]
    simp [wE, wE2, wAs, wVs, wT, wIt, wS, wSs.eq_1, startR, startS, endOf, outs, List.zip_cons_cons, hide_nil, hide_cons, restore_nil, restore_cons, lock, setAll, B__law_alike_3]
    refine ⟨small_of (by omega) (by omega), by rw [range_len]; unfold lim; omega, ?_⟩
    refine wComp_no (by simp [hide_cons, hide_nil]) (fun y hy Q q => ?_) ?_
    · obtain ⟨k, rfl, hk⟩ := mem_range hy
      have hk' : k < xs.length := by omega
      have ha : atZ xs (0 + (k : Int)) = some xs[k] := atZ_of (k := k) (by omega) (List.getElem?_eq_getElem hk')
      have hd := hx _ (List.getElem_mem hk')
      simp at ha
      by_cases him : immutAll xs = true
      · have hi2 := immutAll_iff.mp him _ (List.getElem_mem hk')
        simp [him] at q
        simp [B__law_alike_1, wE, wE2, wAs, wVs, wT, wIt, wS, wSs.eq_1, startR, startS, endOf, outs, List.zip_cons_cons, hide_nil, hide_cons, restore_nil, restore_cons, lock, setAll, him, h1, spAlike, ha, hi2, hd]
        exact q
      · simp [him] at q
        by_cases hz : xs[k].immut = true
        · simp [B__law_alike_1, wE, wE2, wAs, wVs, wT, wIt, wS, wSs.eq_1, startR, startS, endOf, outs, List.zip_cons_cons, hide_nil, hide_cons, restore_nil, restore_cons, lock, setAll, him, h1, spAlike, ha, hd, hz]
          exact q
        · simp [B__law_alike_1, wE, wE2, wAs, wVs, wT, wIt, wS, wSs.eq_1, startR, startS, endOf, outs, List.zip_cons_cons, hide_nil, hide_cons, restore_nil, restore_cons, lock, setAll, him, h1, spAlike, ha, hd, hz, lockAll]
          exact q
    · simp [wE, wE2, wAs, wVs, wT, wIt, wS, wSs.eq_1, startR, startS, endOf, outs, List.zip_cons_cons, hide_nil, hide_cons, restore_nil, restore_cons, lock, setAll]
      exact h
  | lst xs =>
    cases n with
    | zero => simp [deep] at hx
    | succ n =>
    have h1 := h1 (by simp)
    obtain ⟨hl, hx⟩ := hx
    simp [wE, wE2, wAs, wVs, wT, wIt, wS, wSs.eq_1, startR, startS, endOf, outs, List.zip_cons_cons, hide_nil, hide_cons, restore_nil, restore_cons, lock, setAll, spAlike]
    rw [wSs.eq_2]; simp [wE, wE2, wAs, wVs, wT, wIt, wS, wSs.eq_1, startR, startS, endOf, outs, List.zip_cons_cons, hide_nil, hide_cons, restore_nil, restore_cons, lock, setAll]
    rw [wSs.eq_2]; simp [wE, wE2, wAs, wVs, wT, wIt, wS, wSs.eq_1, startR, startS, endOf, outs, List.zip_cons_cons, hide_nil, hide_cons, restore_nil, restore_cons, lock, setAll]
    rw [wSs.eq_2]
    simp [wE, wE2, wAs, wVs, wT, wIt, wS, wSs.eq_1, startR, startS, endOf, outs, List.zip_cons_cons, hide_nil, hide_cons, restore_nil, restore_cons, lock, setAll, B__law_alike_3]
    refine ⟨small_of (by omega) (by omega), by rw [range_len]; unfold lim; omega, ?_⟩
    refine wComp_no (by simp [hide_cons, hide_nil]) (fun y hy Q q => ?_) ?_
    · obtain ⟨k, rfl, hk⟩ := mem_range hy
      have hk' : k < xs.length := by omega
      have ha : atZ xs (0 + (k : Int)) = some xs[k] := atZ_of (k := k) (by omega) (List.getElem?_eq_getElem hk')
      have hd := hx _ (List.getElem_mem hk')
      simp at ha
      by_cases hz : xs[k].immut = true
      · simp [B__law_alike_1, wE, wE2, wAs, wVs, wT, wIt, wS, wSs.eq_1, startR, startS, endOf, outs, List.zip_cons_cons, hide_nil, hide_cons, restore_nil, restore_cons, lock, setAll, h1, spAlike, ha, hd, hz]
        exact q
      · simp [B__law_alike_1, wE, wE2, wAs, wVs, wT, wIt, wS, wSs.eq_1, startR, startS, endOf, outs, List.zip_cons_cons, hide_nil, hide_cons, restore_nil, restore_cons, lock, setAll, h1, spAlike, ha, hd, hz, lockAll]
        exact q
    · simp [wE, wE2, wAs, wVs, wT, wIt, wS, wSs.eq_1, startR, startS, endOf, outs, List.zip_cons_cons, hide_nil, hide_cons, restore_nil, restore_cons, lock, setAll]
      exact h
  | _ => simp [deep] at hx
theorem k_alike {Φ : Phi} {n : Nat} (h1 : Φ "_law_alike" = some (spAlike n)) : Keeps Φ 3 [] B__law_alike (spAlike (n + 1)) := k_alikeG fun _ => h1
theorem k_alike0 {Φ : Phi} : Keeps Φ 3 [] B__law_alike (spAlike 1) := k_alikeG (n := 0) fun h => absurd rfl h
/-! ### _law_classes, _law_small -/
def spLClasses : Spec := { io := [false, false], run := fun ds Q => ∃ (w : Nat) (t : List (List (Option Int))), ds = [.int (w : Int), tblD t] ∧ w ≤ 1000 ∧ t.length ≤ 1000 ∧ (∀ r ∈ t, r.length = w) ∧ Q (.lst ((cls t w).map D.int)) ds }
theorem filt_head {p : Nat → Bool} {k : Nat} : ((List.range k).filter p = [] ∧ ∀ j, j < k → p j = false) ∨ ∃ j r, (List.range k).filter p = j :: r ∧ j < k ∧ p j = true := by
  cases h : (List.range k).filter p with
  | nil =>
    refine .inl ⟨rfl, fun j hj => ?_⟩
    cases hp : p j with
    | false => rfl
    | true =>
      have : j ∈ (List.range k).filter p := List.mem_filter.mpr ⟨List.mem_range.mpr hj, hp⟩
      rw [h] at this; cases this
  | cons j r =>
    have : j ∈ (List.range k).filter p := by rw [h]; exact List.mem_cons_self
    obtain ⟨h1, h2⟩ := List.mem_filter.mp this
    exact .inr ⟨j, r, rfl, List.mem_range.mp h1, h2⟩
theorem col_eq {t : List (List (Option Int))} {j k : Nat} : col t j = col t k ↔ ∀ r ∈ t, cell r j = cell r k := by
  unfold col
  rw [List.map_inj_left]
theorem c_ne_enc {a b : Option Int} : cmpop .ne (encO a) (encO b) = some (!decide (a = b)) := by
  rw [c_neP encO_plain encO_plain, eqv_enc]
/-- where two letters differ -/
def diffP (j k : Nat) (x : D) : Bool := match x with | .tup xs => !eqv ((atZ xs (j : Int)).getD .non) ((atZ xs (k : Int)).getD .non) | _ => false
theorem diff_row {row : List (Option Int)} {j k : Nat} (hj : j < row.length) (hk : k < row.length) : diffP j k (rowD row) = !decide (cell row j = cell row k) := by
  unfold diffP rowD
  simp only [row_at hj, row_at hk, Option.getD_some, eqv_enc]
theorem diff_rows {t : List (List (Option Int))} {j k : Nat} (hj : ∀ r ∈ t, j < r.length) (hk : ∀ r ∈ t, k < r.length) : ((t.map rowD).filter (diffP j k)).isEmpty = decide (col t j = col t k) := by
  rw [Bool.eq_iff_iff, List.isEmpty_iff, List.filter_eq_nil_iff, decide_eq_true_iff, col_eq]
  constructor
  · intro h r hr
    have := h (rowD r) (List.mem_map.mpr ⟨r, hr, rfl⟩)
    rw [diff_row (hj r hr) (hk r hr)] at this
    simpa using this
  · intro h x hx
    obtain ⟨r, hr, rfl⟩ := List.mem_map.mp hx
    rw [diff_row (hj r hr) (hk r hr)]
    simpa using h r hr
theorem filt_plain {t : List (List (Option Int))} {p : D → Bool} : plainAllN 59 ((t.map rowD).filter p) = true := by
  rw [plainAll_iff]
  intro x hx
  obtain ⟨r, _, rfl⟩ := List.mem_map.mp (List.mem_filter.mp hx).1
  exact plain_row
theorem imax_neg {ns : List Int} : imax (-1 :: ns) = some (ns.foldl max (-1)) := rfl
theorem k_lclasses {Φ : Phi} : Keeps Φ 7 [] B__law_classes spLClasses := by
  intro ds Q h
  obtain ⟨w, t, rfl, hw, ht, hr, h⟩ := h
  refine ⟨rfl, by simp, ?_⟩
  have hi := rows_imm (t := t)
  have htL : t.length ≤ lim := by unfold lim; omega
  unfold B__law_classes
  unfold tblD at h ⊢
  rw [wSs.eq_2]
  simp [wE, wE2, wAs, wVs, wT, wIt, wS, wSs.eq_1, startR, startS, endOf, outs, List.zip_cons_cons, hide_nil, hide_cons, restore_nil, restore_cons, lock, setAll, spLClasses, hi]
  rw [wSs.eq_2]
  unfold B__law_classes_8
  refine wS_forS (rangeD 0 (w : Int)) none (fun rest st => ∃ (k : Nat) (a b : Option D), k ≤ w ∧ rest = (rangeD 0 (w : Int)).drop k ∧ st = [some (.int w), some (.tup (t.map rowD)), some (.lst ((cls t k).map D.int)), a, b, none, none]) (fun Q q => ?_) ?_ ?_ ?_ ?_
  · simp [wE, wE2, wAs, wVs, wT, wIt, wS, wSs.eq_1, startR, startS, endOf, outs, List.zip_cons_cons, hide_nil, hide_cons, restore_nil, restore_cons, lock, setAll]; exact ⟨small_of (by omega) (by omega), q⟩
  · rw [range_len]; unfold lim; omega
  · exact ⟨0, none, none, by omega, rfl, by simp [wE, wE2, wAs, wVs, wT, wIt, wS, wSs.eq_1, startR, startS, endOf, outs, List.zip_cons_cons, hide_nil, hide_cons, restore_nil, restore_cons, lock, setAll, cls]⟩
  · rintro x r st ⟨k, a, b, hk, e, rfl⟩ Kn Kb Kr ih
    obtain ⟨rfl, rfl, hlt⟩ := range_drop e.symm
    have hlt' : k < w := by omega
    have hkL : k < lim := by unfold lim; omega
    simp [B__law_classes_7, setTgF, bindF]
    rw [wSs.eq_2]
    simp [wE, wE2, wAs, wVs, wT, wIt, wS, wSs.eq_1, startR, startS, endOf, outs, List.zip_cons_cons, hide_nil, hide_cons, restore_nil, restore_cons, lock, setAll, B__law_classes_6]
    refine ⟨small_of (by omega) (by omega), by rw [range_len]; unfold lim; omega, ?_⟩
    refine wComp_nm (fun x => match x with | .int j => decide (col t j.toNat = col t k) | _ => false) id rfl (fun x hx Q q => ?_) (fun x hx hp Q q => ?_) ?_
    · obtain ⟨j, rfl, hj⟩ := mem_range hx
      simp at q hj
      simp [B__law_classes_4, wE, wE2, wAs, wVs, wT, wIt, wS, wSs.eq_1, startR, startS, endOf, outs, List.zip_cons_cons, hide_nil, hide_cons, restore_nil, restore_cons, lock, setAll, B__law_classes_3, hi, htL]
      have hjr : ∀ r ∈ t, j < r.length := fun r hr2 => by rw [hr r hr2]; omega
      have hkr : ∀ r ∈ t, k < r.length := fun r hr2 => by rw [hr r hr2]; omega
      refine wComp_nm (diffP j k) id rfl (fun x hx Q q => ?_) (fun x hx hp Q q => ?_) ?_
      · obtain ⟨row, hrow, rfl⟩ := List.mem_map.mp hx
        have a1 := row_at (r := row) (k := j) (hjr row hrow)
        have a2 := row_at (r := row) (k := k) (hkr row hrow)
        rw [diff_row (hjr row hrow) (hkr row hrow)] at q
        unfold rowD
        by_cases hd : cell row j = cell row k
        · simp [B__law_classes_1, wE, wE2, wAs, wVs, wT, wIt, wS, wSs.eq_1, startR, startS, endOf, outs, List.zip_cons_cons, hide_nil, hide_cons, restore_nil, restore_cons, lock, setAll, a1, a2, c_ne_enc, hd]
          simpa [hd] using q
        · simp [B__law_classes_1, wE, wE2, wAs, wVs, wT, wIt, wS, wSs.eq_1, startR, startS, endOf, outs, List.zip_cons_cons, hide_nil, hide_cons, restore_nil, restore_cons, lock, setAll, a1, a2, c_ne_enc, hd]
          simpa [hd] using q
      · obtain ⟨row, hrow, rfl⟩ := List.mem_map.mp hx
        simp [B__law_classes_2, wE, wE2, wAs, wVs, wT, wIt, wS, wSs.eq_1, startR, startS, endOf, outs, List.zip_cons_cons, hide_nil, hide_cons, restore_nil, restore_cons, lock, setAll]
        exact q
      · rw [List.map_id]
        simp [wE, wE2, wAs, wVs, wT, wIt, wS, wSs.eq_1, startR, startS, endOf, outs, List.zip_cons_cons, hide_nil, hide_cons, restore_nil, restore_cons, lock, setAll, filt_plain, diff_rows hjr hkr]
        by_cases hd : col t j = col t k
        · simp [hd] at q ⊢; exact q
        · simp [hd] at q ⊢; exact q
    · obtain ⟨j, rfl, hj⟩ := mem_range hx
      simp [B__law_classes_5, wE, wE2, wAs, wVs, wT, wIt, wS, wSs.eq_1, startR, startS, endOf, outs, List.zip_cons_cons, hide_nil, hide_cons, restore_nil, restore_cons, lock, setAll]
      simpa using q
    · have ef : ((rangeD 0 (k : Int)).filter fun x => match x with | .int j => decide (col t j.toNat = col t k) | _ => false) = ((List.range k).filter fun j => decide (col t j = col t k)).map fun j : Nat => D.int (j : Int) := by
        rw [range0, List.filter_map]
        rfl
      rw [List.map_id, ef]
      have hpl : ∀ l : List Nat, plainAllN 59 (l.map fun j : Nat => D.int (j : Int)) = true := fun l => by
        rw [plainAll_iff]; intro x hx; obtain ⟨y, _, rfl⟩ := List.mem_map.mp hx; simp
      simp [wE, wE2, wAs, wVs, wT, wIt, wS, wSs.eq_1, startR, startS, endOf, outs, List.zip_cons_cons, hide_nil, hide_cons, restore_nil, restore_cons, lock, setAll]
      rw [wSs.eq_2]
      rcases filt_head (p := fun j => decide (col t j = col t k)) (k := k) with ⟨h0, hno⟩ | ⟨j, r2, h0, hj, hjp⟩
      · rw [h0]
        have hm : col t k ∉ known t k := fun z => by
          obtain ⟨l, hl, e⟩ := of_known z
          have := hno l hl
          simp [e] at this
        obtain ⟨c1, c2⟩ := cl_new hm
        have hci := immut_ints (ns := cls t k)
        have him : ints? (D.int (-1) :: (cls t k).map D.int) = some (-1 :: cls t k) := by simp [ints?, ints_map]
        have hlen : (cls t k).length + 1 ≤ lim := by rw [cls_len]; omega
        have hlen2 : 1 + (cls t k).length ≤ lim := by rw [cls_len]; omega
        simp [wE, wE2, wAs, wVs, wT, wIt, wS, wSs.eq_1, startR, startS, endOf, outs, List.zip_cons_cons, hide_nil, hide_cons, restore_nil, restore_cons, lock, setAll, hci, him, imax_neg, max_cls, cls_len, hkL, hlen, hlen2]
        have hlen3 : 1 + k ≤ lim := by omega
        refine ⟨by decide, ?_⟩
        simp [hlen3, him, imax_neg, max_cls]
        refine ih _ ⟨k + 1, some (.int k), some (.lst []), by omega, rfl, ?_⟩
        rw [cls_succ, List.map_append, c1]
        simp
      · rw [h0]
        have he : col t j = col t k := by simpa using hjp
        have hs := cl_same hj he
        have hcj : (cls t k)[j]? = some (cl t k) := by simp [cls, hj, hs]
        have hp2 := hpl (j :: r2)
        simp at hp2
        simp [wE, wE2, wAs, wVs, wT, wIt, wS, wSs.eq_1, startR, startS, endOf, outs, List.zip_cons_cons, hide_nil, hide_cons, restore_nil, restore_cons, lock, setAll, hp2, atZ, hcj, cls_len, hkL]
        refine ih _ ⟨k + 1, some (.int k), some (.lst (D.int (j : Int) :: r2.map fun j : Nat => D.int (j : Int))), by omega, rfl, ?_⟩
        rw [cls_succ, List.map_append]
        simp
  · rintro st ⟨k, a, b, hk, e, rfl⟩
    have hke := range_end e.symm
    obtain rfl : k = w := by omega
    simp only [Option.toList_none, restore_nil]
    rw [wSs.eq_2]
    simp [wE, wE2, wAs, wVs, wT, wIt, wS, wSs.eq_1, startR, startS, endOf, outs, List.zip_cons_cons, hide_nil, hide_cons, restore_nil, restore_cons, lock, setAll]
    exact h
def spLSmall : Spec := { io := [false, false], run := fun ds Q => ∃ (t : List (List (Option Int))) (cs : List Int) (m : Nat), ds = [tblD t, .lst (cs.map D.int)] ∧ m ≤ 1000 ∧ t.length ≤ 1000 ∧ imax cs = some ((m : Int) - 1) ∧ (∀ n : Nat, n < m → (n : Int) ∈ cs) ∧ (∀ r ∈ t, r.length = cs.length) ∧ Q (.lst ((smallT t cs m).map fun r => .lst (r.map encO))) ds }
theorem k_lsmall {Φ : Phi} : Keeps Φ 6 [] B__law_small spLSmall := by
  intro ds Q h
  obtain ⟨t, cs, m, rfl, hm, ht, hmax, hall, hr, h⟩ := h
  refine ⟨rfl, by simp, ?_⟩
  have hi := rows_imm (t := t)
  have hci := immut_ints (ns := cs)
  have hmL : m ≤ lim := by unfold lim; omega
  have htL : t.length ≤ lim := by unfold lim; omega
  unfold B__law_small
  unfold tblD at h ⊢
  rw [wSs.eq_2]
  simp [wE, wE2, wAs, wVs, wT, wIt, wS, wSs.eq_1, startR, startS, endOf, outs, List.zip_cons_cons, hide_nil, hide_cons, restore_nil, restore_cons, lock, setAll, B__law_small_2, spLSmall, hi, ints_map, hmax]
  refine ⟨small_of (by omega) (by omega), by rw [range_len]; unfold lim; omega, ?_⟩
  refine wComp_all (fun x => match x with | .int n => .int (cs.idxOf n : Nat) | _ => .non) rfl (fun _ _ _ q => q) (fun x hx Q q => ?_) ?_
  · obtain ⟨k, rfl, hk⟩ := mem_range hx
    have hmem := hall k (by omega)
    have e1 := (mr_int hmem).2
    simp [B__law_small_1, wE, wE2, wAs, wVs, wT, wIt, wS, wSs.eq_1, startR, startS, endOf, outs, List.zip_cons_cons, hide_nil, hide_cons, restore_nil, restore_cons, lock, setAll, e1] at q ⊢
    exact q
  · have ef : ((rangeD 0 (m : Int)).map fun x => match x with | .int n => D.int (cs.idxOf n : Nat) | _ => D.non) = (firsts cs m).map fun l : Nat => D.int (l : Int) := by
      rw [range0]; simp [firsts]
    rw [ef]
    have hfl : (firsts cs m).length ≤ lim := by simp [firsts]; exact hmL
    simp [wE, wE2, wAs, wVs, wT, wIt, wS, wSs.eq_1, startR, startS, endOf, outs, List.zip_cons_cons, hide_nil, hide_cons, restore_nil, restore_cons, lock, setAll]
    rw [wSs.eq_2]
    simp [wE, wE2, wAs, wVs, wT, wIt, wS, wSs.eq_1, startR, startS, endOf, outs, List.zip_cons_cons, hide_nil, hide_cons, restore_nil, restore_cons, lock, setAll, B__law_small_6, hi, htL]
    refine wComp_all (fun x => match x with | .tup xs => .lst ((firsts cs m).map fun l : Nat => (atZ xs (l : Int)).getD .non) | _ => .non) rfl (fun _ _ _ q => q) (fun x hx Q q => ?_) ?_
    · obtain ⟨row, hrow, rfl⟩ := List.mem_map.mp hx
      have hl := hr row hrow
      unfold rowD at q ⊢
      simp [B__law_small_5, wE, wE2, wAs, wVs, wT, wIt, wS, wSs.eq_1, startR, startS, endOf, outs, List.zip_cons_cons, hide_nil, hide_cons, restore_nil, restore_cons, lock, setAll, B__law_small_4, hfl]
      refine wComp_all (fun x => match x with | .int l => (atZ (row.map encO) l).getD .non | _ => .non) rfl (fun _ _ _ q => q) (fun x hx Q q => ?_) ?_
      · obtain ⟨l, hl2, rfl⟩ := List.mem_map.mp hx
        have hlt := firsts_lt hall hl2
        have ha := row_at (r := row) (k := l) (by omega)
        simp only [ha, Option.getD_some] at q
        simp [B__law_small_3, wE, wE2, wAs, wVs, wT, wIt, wS, wSs.eq_1, startR, startS, endOf, outs, List.zip_cons_cons, hide_nil, hide_cons, restore_nil, restore_cons, lock, setAll, ha]
        exact q
      · have e3 : (((firsts cs m).map fun l : Nat => D.int (l : Int)).map fun x => match x with | .int l => (atZ (row.map encO) l).getD .non | _ => .non) = (firsts cs m).map fun l : Nat => (atZ (row.map encO) (l : Int)).getD .non := by
          rw [List.map_map]; rfl
        rw [e3]
        simp [wE, wE2, wAs, wVs, wT, wIt, wS, wSs.eq_1, startR, startS, endOf, outs, List.zip_cons_cons, hide_nil, hide_cons, restore_nil, restore_cons, lock, setAll]
        exact q
    · have e5 : ((t.map rowD).map fun x => match x with | .tup xs => D.lst ((firsts cs m).map fun l : Nat => (atZ xs (l : Int)).getD .non) | _ => .non) = (smallT t cs m).map fun r => D.lst (r.map encO) := by
        unfold smallT
        rw [List.map_map, List.map_map]
        refine List.map_congr_left fun row hrow => ?_
        have hl := hr row hrow
        simp only [Function.comp_apply, rowD]
        rw [List.map_map]
        congr 1
        refine List.map_congr_left fun l hl2 => ?_
        have hlt := firsts_lt hall hl2
        have ha := row_at (r := row) (k := l) (by omega)
        simp [ha]
      rw [e5]
      simp [wE, wE2, wAs, wVs, wT, wIt, wS, wSs.eq_1, startR, startS, endOf, outs, List.zip_cons_cons, hide_nil, hide_cons, restore_nil, restore_cons, lock, setAll]
      exact h
/-! ### _law_machine -/
theorem emod_le {a b : Int} (ha : 0 ≤ a) (hb : 0 < b) : a % b ≤ a := by
  rw [Int.emod_def]
  have := Int.mul_nonneg (a := b) (b := a / b) (by omega) (Int.ediv_nonneg ha (by omega))
  omega
def spMach : Spec := { io := [true, false, false], run := fun ds Q => match ds with
  | [d, .int rooms, .int letters] => rowOk d ∧ 1 ≤ rooms ∧ rooms ≤ 40 ∧ 1 ≤ letters ∧ letters ≤ 30 ∧ ∀ (d' : D) (m : Mach), rowOk d' → MOk m → (m.t.length : Int) ≤ rooms → (m.w : Int) ≤ letters → Q (machD m) [d', .int rooms, .int letters]
  | _ => False }
theorem three_of {r : Int} (h0 : 0 ≤ r) (h3 : r < 3) : ∃ v : Int, atZ [D.int 2, D.int 3, D.int 11] r = some (.int v) ∧ 1 ≤ v ∧ v ≤ 11 := by
  have : r = 0 ∨ r = 1 ∨ r = 2 := by omega
  rcases this with rfl | rfl | rfl
  · exact ⟨2, rfl, by decide, by decide⟩
  · exact ⟨3, rfl, by decide, by decide⟩
  · exact ⟨11, rfl, by decide, by decide⟩
end Dl
/-! Mach: _law_machine. -/
namespace Dl
open PySem (Str)
abbrev mst (dd : D) (rooms letters r1 r2 ho mn wd : Int) (t : List D) (a9 a10 a11 a12 a13 : Option D) : DS := [some dd, some (.int rooms), some (.int letters), some (.int r1), some (.int r2), some (.int ho), some (.int mn), some (.int wd), some (.lst t), a9, a10, a11, a12, a13, none]
abbrev mro : DS := [none, none, none, none, none, none, none, none, none, none, none, none, none, none, none]
def mgo (mn r : Int) : Option Int := if r < mn then none else some (r.fmod mn)
theorem mgo_ok {mn r : Int} (h : 0 < mn) : okN mn (mgo mn r) = true := by
  unfold mgo
  split
  · rfl
  · have := fmod_in (a := r) h
    simp [okN, this]
theorem mach1 {Φ : Phi} (h1 : Φ "_law_taken" = some spTaken) {dd : D} {rooms letters r1 r2 ho mn wd j : Int} {t : List D} {l : List (Option Int)} {a9 a12 a13 : Option D} {N : Ends}
  (hdd : rowOk dd) (hj : 0 ≤ j) (hjl : j < l.length) (hmn : 0 < mn) (hmul : mulOk mn ho = true) (htk : tk (mn * ho) = true)
  (k : ∀ d' r, rowOk d' → N.nx (mst d' rooms letters r1 r2 ho mn wd t a9 (some (.lst ((l.set j.toNat (mgo mn r)).map encO))) (some (.int j)) a12 (some (.int r)))) :
  wSs Φ B__law_machine_1 mro N (mst dd rooms letters r1 r2 ho mn wd t a9 (some (.lst (l.map encO))) (some (.int j)) a12 a13) := by
  have hix : ixZ l.length j = some j.toNat := ixZ_of (by omega) (by omega)
  have hmn0 : ¬ mn = 0 := by omega
  unfold B__law_machine_1
  rw [wSs.eq_2]
  simp [wE, wE2, wAs, wVs, wT, wIt, wS, wSs.eq_1, startR, startS, endOf, outs, List.zip_cons_cons, hide_nil, hide_cons, restore_nil, restore_cons, lock, setAll, h1, spTaken, ioSlots, putIO, isRw, hmul, hdd, htk]
  intro d' r hd' h0 hr
  have k := k d' r hd'
  rw [wSs.eq_2]
  unfold mgo at k
  by_cases hg : r < mn
  · simp [hg, List.map_set, encO] at k
    simp [wE, wE2, wAs, wVs, wT, wIt, wS, wSs.eq_1, startR, startS, endOf, outs, List.zip_cons_cons, hide_nil, hide_cons, restore_nil, restore_cons, lock, setAll, isRw, hg, hix]
    exact k
  · simp [hg, List.map_set, encO] at k
    simp [wE, wE2, wAs, wVs, wT, wIt, wS, wSs.eq_1, startR, startS, endOf, outs, List.zip_cons_cons, hide_nil, hide_cons, restore_nil, restore_cons, lock, setAll, isRw, hg, hix, hmn0]
    exact k
theorem set_ok {mn : Int} {l : List (Option Int)} {i : Nat} {x : Option Int} (h : ∀ y ∈ l, okN mn y = true) (hx : okN mn x = true) : ∀ y ∈ l.set i x, okN mn y = true := fun y hy => by
  rcases List.mem_or_eq_of_mem_set hy with z | z
  · exact h y z
  · rw [z]; exact hx
theorem mach2 {Φ : Phi} (h1 : Φ "_law_taken" = some spTaken) {dd : D} {rooms letters r1 r2 ho mn : Int} {wd : Nat} {t : List D} {l : List (Option Int)} {a9 a11 a12 a13 : Option D} {N : Ends}
  (hdd : rowOk dd) (hl : l.length = wd) (hwd : wd ≤ 1000) (hmn : 0 < mn) (hmul : mulOk mn ho = true) (htk : tk (mn * ho) = true) (hlo : ∀ x ∈ l, okN mn x = true)
  (k : ∀ (d' : D) (l' : List (Option Int)) (a11 a13 : Option D), rowOk d' → l'.length = wd → (∀ x ∈ l', okN mn x = true) → N.nx (mst d' rooms letters r1 r2 ho mn wd t a9 (some (.lst (l'.map encO))) a11 a12 a13)) :
  wS Φ B__law_machine_2 mro N (mst dd rooms letters r1 r2 ho mn wd t a9 (some (.lst (l.map encO))) a11 a12 a13) := by
  unfold B__law_machine_2
  refine wS_rng 0 wd (fun j st => ∃ (d' : D) (l' : List (Option Int)) (a11 a13 : Option D), rowOk d' ∧ l'.length = wd ∧ (∀ x ∈ l', okN mn x = true) ∧ st = mst d' rooms letters r1 r2 ho mn wd t a9 (some (.lst (l'.map encO))) a11 a12 a13) (fun Q q => ?_) (by omega) ⟨dd, l, a11, a13, hdd, hl, hlo, rfl⟩ ?_ ?_
  · simp [wE, wE2, wAs, wVs, wT, wIt, wS, wSs.eq_1, startR, startS, endOf, outs, List.zip_cons_cons, hide_nil, hide_cons, restore_nil, restore_cons, lock, setAll]; exact ⟨small_of (by omega) (by omega), q⟩
  · rintro j st hj ⟨d', l', a11, a13, hd', hl', hlo', rfl⟩ Kn ih
    refine mach1 h1 hd' (by omega) (by omega) hmn hmul htk fun d'' r hd'' => ih _ ⟨d'', _, _, _, hd'', ?_, ?_, rfl⟩
    · simp [hl']
    · exact set_ok hlo' (mgo_ok hmn)
  · rintro j st ⟨d', l', a11, a13, hd', hl', hlo', rfl⟩ _
    exact k _ _ _ _ hd' hl' hlo'
theorem cell_ok {mn : Int} {l : List (Option Int)} {u : Nat} (hlo : ∀ x ∈ l, okN mn x = true) (h : u < l.length) : okN mn (cell l u) = true := by
  have : cell l u = l[u] := by simp [cell, List.getD, List.getElem?_eq_getElem h]
  rw [this]
  exact hlo _ (List.getElem_mem h)
theorem mach3 {Φ : Phi} {dd : D} {rooms letters r1 r2 ho mn : Int} {wd j : Nat} {t : List D} {l : List (Option Int)} {a9 a11 a13 : Option D} {N : Ends}
  (hl : l.length = wd) (hr2 : 0 ≤ r2) (hj : j < wd) (hlo : ∀ x ∈ l, okN mn x = true)
  (k : ∀ l' : List (Option Int), l'.length = wd → (∀ x ∈ l', okN mn x = true) → N.nx (mst dd rooms letters r1 r2 ho mn wd t a9 (some (.lst (l'.map encO))) a11 (some (.int j)) a13)) :
  wSs Φ B__law_machine_3 mro N (mst dd rooms letters r1 r2 ho mn wd t a9 (some (.lst (l.map encO))) a11 (some (.int j)) a13) := by
  have hfd : 0 ≤ r2.fdiv 2 := fdiv_nn (by decide) hr2
  have hf0 : ¬ 1 + r2.fdiv 2 = 0 := by omega
  obtain ⟨u, hu, hul⟩ : ∃ u : Nat, (j : Int).fmod (1 + r2.fdiv 2) = (u : Int) ∧ u ≤ j := by
    have h1 := fmod_in (a := (j : Int)) (m := 1 + r2.fdiv 2) (by omega)
    have h2 : (j : Int).fmod (1 + r2.fdiv 2) ≤ (j : Int) := by
      rw [Int.fmod_eq_emod_of_nonneg _ (by omega)]
      exact emod_le (by omega) (by omega)
    exact ⟨((j : Int).fmod (1 + r2.fdiv 2)).toNat, by omega, by omega⟩
  have ha := row_at (r := l) (k := u) (by omega)
  have hix : ixZ l.length ((wd : Int) - 1 - (j : Int)) = some (wd - 1 - j) := ixZ_of (by omega) (by omega)
  have k := k (l.set (wd - 1 - j) (cell l u)) (by simp [hl]) (set_ok hlo (cell_ok hlo (by omega)))
  unfold B__law_machine_3
  rw [wSs.eq_2]
  simp [List.map_set] at k
  simp [wE, wE2, wAs, wVs, wT, wIt, wS, wSs.eq_1, startR, startS, endOf, outs, List.zip_cons_cons, hide_nil, hide_cons, restore_nil, restore_cons, lock, setAll, isRw, hf0, hu, ha, hix]
  exact k
theorem mach4 {Φ : Phi} {dd : D} {rooms letters r1 r2 ho mn : Int} {wd : Nat} {t : List D} {l : List (Option Int)} {a9 a11 a12 a13 : Option D} {N : Ends}
  (hl : l.length = wd) (hwd : wd ≤ 1000) (hwd1 : 1 ≤ wd) (hr2 : 0 ≤ r2) (hlo : ∀ x ∈ l, okN mn x = true)
  (k : ∀ (l' : List (Option Int)) (a12 : Option D), l'.length = wd → (∀ x ∈ l', okN mn x = true) → N.nx (mst dd rooms letters r1 r2 ho mn wd t a9 (some (.lst (l'.map encO))) a11 a12 a13)) :
  wS Φ B__law_machine_4 mro N (mst dd rooms letters r1 r2 ho mn wd t a9 (some (.lst (l.map encO))) a11 a12 a13) := by
  unfold B__law_machine_4
  obtain ⟨q, hq1, hq2⟩ : ∃ q : Nat, (if (wd : Int) - 1 < r2 then (wd : Int) - 1 else r2) = (q : Int) ∧ (q : Int) ≤ (wd : Int) - 1 := by
    by_cases hc : (wd : Int) - 1 < r2
    · exact ⟨wd - 1, by rw [if_pos hc]; omega, by omega⟩
    · exact ⟨r2.toNat, by rw [if_neg hc]; omega, by omega⟩
  refine wS_rng 0 q (fun j st => ∃ (l' : List (Option Int)) (a12 : Option D), l'.length = wd ∧ (∀ x ∈ l', okN mn x = true) ∧ st = mst dd rooms letters r1 r2 ho mn wd t a9 (some (.lst (l'.map encO))) a11 a12 a13) (fun Q q => ?_) (by omega) ⟨l, a12, hl, hlo, rfl⟩ ?_ ?_
  · simp [wE, wE2, wAs, wVs, wT, wIt, wS, wSs.eq_1, startR, startS, endOf, outs, List.zip_cons_cons, hide_nil, hide_cons, restore_nil, restore_cons, lock, setAll, hq1]; exact ⟨small_of (by omega) (by omega), q⟩
  · rintro j st hj ⟨l', a12, hl', hlo', rfl⟩ Kn ih
    have := mach3 (Φ := Φ) (dd := dd) (rooms := rooms) (letters := letters) (r1 := r1) (ho := ho) (t := t) (a9 := a9) (a11 := a11) (a13 := a13) (N := { nx := Kn, ct := Kn, bk := N.nx, rt := N.rt }) (j := j) hl' hr2 (by omega) hlo' fun l'' h1 h2 => ih _ ⟨l'', _, h1, h2, rfl⟩
    simpa using this
  · rintro j st ⟨l', a12, hl', hlo', rfl⟩ _
    exact k _ _ hl' hlo'

/-- the line's end: twins, then it is put behind the others -/
theorem mach5e {Φ : Phi} {dd : D} {rooms letters r1 r2 ho mn : Int} {wd : Nat} {t : List (List (Option Int))} {l : List (Option Int)} {a9 a11 a12 a13 : Option D} {N : Ends}
  (hl : l.length = wd) (hwd : wd ≤ 1000) (hwd1 : 1 ≤ wd) (hr2 : 0 ≤ r2) (ht : t.length < 1000) (hlo : ∀ x ∈ l, okN mn x = true)
  (k : ∀ (l' : List (Option Int)) (a10 a12 : Option D), l'.length = wd → (∀ x ∈ l', okN mn x = true) → N.nx (mst dd rooms letters r1 r2 ho mn wd ((t ++ [l']).map rowD) a9 a10 a11 a12 a13)) :
  wSs Φ [B__law_machine_4, S.ex (E.mm Mm.append 8 (Es.cons (E.bf Bf.tuple (Es.nm 10 Es.nil)) Es.nil))] mro N (mst dd rooms letters r1 r2 ho mn wd (t.map rowD) a9 (some (.lst (l.map encO))) a11 a12 a13) := by
  (try dsimp only); rw [wSs.eq_2]
  refine mach4 hl hwd hwd1 hr2 hlo fun l' a12 hl' hlo' => ?_
  have him := enc_imm (r := l')
  have hkL : t.length < lim := by unfold lim; omega
  have k := k l' (some (.lst (l'.map encO))) a12 hl' hlo'
  (try dsimp only); rw [wSs.eq_2]
  simp [rowD] at k
  simp [wE, wE2, wAs, wVs, wT, wIt, wS, wSs.eq_1, startR, startS, endOf, outs, List.zip_cons_cons, hide_nil, hide_cons, restore_nil, restore_cons, lock, setAll, him, hkL]
  simpa [rowD] using k
theorem tbl_at {t : List (List (Option Int))} {i : Nat} (h : i < t.length) : atZ (t.map rowD) (i : Int) = some (rowD t[i]) := by
  rw [atZ_nat, List.getElem?_map, List.getElem?_eq_getElem h]; rfl
theorem mach5 {Φ : Phi} (h1 : Φ "_law_taken" = some spTaken) {dd : D} {rooms letters r1 r2 ho mn : Int} {wd : Nat} {t : List (List (Option Int))} {a10 a11 a12 a13 : Option D} {N : Ends}
  (hdd : rowOk dd) (hwd : wd ≤ 1000) (hwd1 : 1 ≤ wd) (hr1 : 0 ≤ r1) (hr1' : r1 < 1000) (hr2 : 0 ≤ r2) (ht : t.length < 1000) (hmn : 0 < mn) (hmn2 : mn ≤ 1000) (hmul : mulOk mn ho = true) (htk : tk (mn * ho) = true)
  (hrows : ∀ r ∈ t, r.length = wd ∧ ∀ x ∈ r, okN mn x = true)
  (k : ∀ (d' : D) (l' : List (Option Int)) (a10 a11 a12 a13 : Option D), rowOk d' → l'.length = wd → (∀ x ∈ l', okN mn x = true) → N.nx (mst d' rooms letters r1 r2 ho mn wd ((t ++ [l']).map rowD) (some (.int (t.length : Int))) a10 a11 a12 a13)) :
  wSs Φ B__law_machine_5 mro N (mst dd rooms letters r1 r2 ho mn wd (t.map rowD) (some (.int (t.length : Int))) a10 a11 a12 a13) := by
  unfold B__law_machine_5
  have hwM : (wd : Int) ≤ 1000000 := by omega
  have hwL : wd ≤ lim := by unfold lim; omega
  have erep : List.replicate wd D.non = (List.replicate wd (none : Option Int)).map encO := by
    rw [List.map_replicate]; rfl
  have hl0l : (List.replicate wd (none : Option Int)).length = wd := by simp
  have hl0o : ∀ x ∈ List.replicate wd (none : Option Int), okN mn x = true := fun x hx => by rw [(List.mem_replicate.mp hx).2]; rfl
  (try dsimp only); rw [wSs.eq_2]
  simp [wE, wE2, wAs, wVs, wT, wIt, wS, wSs.eq_1, startR, startS, endOf, outs, List.zip_cons_cons, hide_nil, hide_cons, restore_nil, restore_cons, lock, setAll, hwM, hwL]
  refine ⟨by decide, ?_⟩
  rw [erep]
  generalize List.replicate wd (none : Option Int) = l0 at hl0l hl0o
  (try dsimp only); rw [wSs.eq_2]
  refine mach2 h1 hdd hl0l hwd hmn hmul htk hl0o fun d1 l1 a11 a13 hd1 hl1 hlo1 => ?_
  have hpr := plain_rows (t := t) (n := 58)
  (try dsimp only); rw [wSs.eq_2]
  by_cases ht0 : t = []
  · subst ht0
    simp [wE, wE2, wAs, wVs, wT, wIt, wS, wSs.eq_1, startR, startS, endOf, outs, List.zip_cons_cons, hide_nil, hide_cons, restore_nil, restore_cons, lock, setAll]
    exact mach5e (t := []) hl1 hwd hwd1 hr2 (by simp) hlo1 fun l' a10 a12 h3 h4 => k _ _ _ _ _ _ hd1 h3 h4
  · have htl : 0 < t.length := by cases t with | nil => exact absurd rfl ht0 | cons _ _ => simp
    have hte : t.isEmpty = false := by cases t with | nil => exact absurd rfl ht0 | cons _ _ => rfl
    have htk1 : tk (r1 + 1) = true := tk_of (by omega) (by omega)
    have htk2 : tk (t.length : Int) = true := tk_of (by omega) (by omega)
    have htk3 : tk (wd : Int) = true := tk_of (by omega) (by omega)
    have htk4 : tk mn = true := tk_of (by omega) (by omega)
    simp [wE, wE2, wAs, wVs, wT, wIt, wS, wSs.eq_1, startR, startS, endOf, outs, List.zip_cons_cons, hide_nil, hide_cons, restore_nil, restore_cons, lock, setAll, h1, spTaken, ioSlots, putIO, isRw, hpr, hd1, htk1, hte]
    intro d2 r hd2 h0 hr
    by_cases hr0 : 0 < r
    · simp [hr0]
      (try dsimp only); rw [wSs.eq_2]
      simp [wE, wE2, wAs, wVs, wT, wIt, wS, wSs.eq_1, startR, startS, endOf, outs, List.zip_cons_cons, hide_nil, hide_cons, restore_nil, restore_cons, lock, setAll, h1, spTaken, ioSlots, putIO, isRw, hd2, htk2]
      intro d3 q hd3 hq0 hq
      obtain ⟨u, rfl⟩ : ∃ u : Nat, q = (u : Int) := ⟨q.toNat, by omega⟩
      have hu : u < t.length := by omega
      have ha := tbl_at (t := t) hu
      have himu := enc_imm (r := t[u])
      obtain ⟨hul, huo⟩ := hrows _ (List.getElem_mem hu)
      simp [ha, rowD, himu]
      (try dsimp only); rw [wSs.eq_2]
      simp [wE, wE2, wAs, wVs, wT, wIt, wS, wSs.eq_1, startR, startS, endOf, outs, List.zip_cons_cons, hide_nil, hide_cons, restore_nil, restore_cons, lock, setAll, h1, spTaken, ioSlots, putIO, isRw, hd3, htk4]
      intro d4 g hd4 hg0 hg
      refine ⟨hd4, htk3, fun d5 p hd5 hp0 hp => ?_⟩
      have hix : ixZ t[u].length p = some p.toNat := ixZ_of (by omega) (by omega)
      simp [hix]
      have e : (t[u].map encO).set p.toNat (D.int g) = (t[u].set p.toNat (some g)).map encO := by rw [List.map_set]; rfl
      rw [e]
      exact mach5e (by simp [hul]) hwd hwd1 hr2 ht (set_ok huo (by simp [okN]; omega)) fun l' a10 a12 h3 h4 => k _ _ _ _ _ _ hd5 h3 h4
    · simp [hr0, wE, wE2, wAs, wVs, wT, wIt, wS, wSs.eq_1, startR, startS, endOf, outs, List.zip_cons_cons, hide_nil, hide_cons, restore_nil, restore_cons, lock, setAll]
      exact mach5e hl1 hwd hwd1 hr2 ht hlo1 fun l' a10 a12 h3 h4 => k _ _ _ _ _ _ hd2 h3 h4

theorem mach6 {Φ : Phi} (h1 : Φ "_law_taken" = some spTaken) {dd : D} {rooms letters r1 r2 ho : Int} {wd mn : Nat} {a9 a10 a11 a12 a13 : Option D} {N : Ends}
  (hdd : rowOk dd) (hwd : wd ≤ 1000) (hwd1 : 1 ≤ wd) (hr1 : 0 ≤ r1) (hr1' : r1 < 1000) (hr2 : 0 ≤ r2) (hmn : 0 < mn) (hmn2 : mn ≤ 1000) (hmul : mulOk mn ho = true) (htk : tk (mn * ho) = true)
  (k : ∀ (d' : D) (t : List (List (Option Int))) (a9 a10 a11 a12 a13 : Option D), rowOk d' → t.length = mn → (∀ r ∈ t, r.length = wd ∧ ∀ x ∈ r, okN mn x = true) → N.nx (mst d' rooms letters r1 r2 ho mn wd (t.map rowD) a9 a10 a11 a12 a13)) :
  wS Φ B__law_machine_6 mro N (mst dd rooms letters r1 r2 ho mn wd [] a9 a10 a11 a12 a13) := by
  unfold B__law_machine_6
  refine wS_rng 0 mn (fun j st => ∃ (d' : D) (t : List (List (Option Int))) (a9 a10 a11 a12 a13 : Option D), rowOk d' ∧ t.length = j ∧ (∀ r ∈ t, r.length = wd ∧ ∀ x ∈ r, okN mn x = true) ∧ st = mst d' rooms letters r1 r2 ho mn wd (t.map rowD) a9 a10 a11 a12 a13) (fun Q q => ?_) (by omega) ⟨dd, [], a9, a10, a11, a12, a13, hdd, rfl, by simp, rfl⟩ ?_ ?_
  · simp [wE, wE2, wAs, wVs, wT, wIt, wS, wSs.eq_1, startR, startS, endOf, outs, List.zip_cons_cons, hide_nil, hide_cons, restore_nil, restore_cons, lock, setAll]; exact ⟨small_of (by omega) (by omega), q⟩
  · rintro j st hj ⟨d', t, a9, a10, a11, a12, a13, hd', ht, hrows, rfl⟩ Kn ih
    subst ht
    have := mach5 (Φ := Φ) h1 (rooms := rooms) (letters := letters) (t := t) (a10 := a10) (a11 := a11) (a12 := a12) (a13 := a13) (N := { nx := Kn, ct := Kn, bk := N.nx, rt := N.rt }) hd' hwd hwd1 hr1 hr1' hr2 (by omega) (by omega) (by omega) hmul htk hrows fun d'' l' a10 a11 a12 a13 g1 g2 g3 => ih _ ⟨d'', t ++ [l'], _, _, _, _, _, g1, by simp, fun r hr => ?_, rfl⟩
    · simpa using this
    · rcases List.mem_append.mp hr with z | z
      · exact hrows r z
      · rw [List.mem_singleton.mp z]; exact ⟨g2, g3⟩
  · rintro j st ⟨d', t, a9, a10, a11, a12, a13, hd', ht, hrows, rfl⟩ hj
    exact k _ _ _ _ _ _ _ hd' (by omega) hrows
/-- the finals -/
theorem mach9 {Φ : Phi} (h1 : Φ "_law_taken" = some spTaken) {dd : D} {rooms letters r1 r2 ho : Int} {wd mn : Nat} {t : List D} {a9 a10 a11 a12 a13 : Option D} {Q : D → DS → Prop} (hdd : rowOk dd) (hmn2 : mn ≤ 1000)
  (k : ∀ (d' : D) (fs : List Int), rowOk d' → (∀ f ∈ fs, 0 ≤ f ∧ f < mn) → fs.Pairwise (· < ·) → Q (.lst (fs.map D.int)) (mst d' rooms letters r1 r2 ho mn wd t a9 a10 a11 a12 a13)) :
  wE Φ B__law_machine_9 mro (mst dd rooms letters r1 r2 ho mn wd t a9 a10 a11 a12 a13) Q := by
  unfold B__law_machine_9
  simp [wE, wE2, wAs, wVs, wT, wIt, wS, wSs.eq_1, startR, startS, endOf, outs, List.zip_cons_cons, hide_nil, hide_cons, restore_nil, restore_cons, lock, setAll]
  refine ⟨small_of (by omega) (by omega), by rw [range_len]; unfold lim; omega, ?_⟩
  refine wComp_rule (fun r acc st => ∃ (k : Nat) (d' : D) (fs : List Int), r = (rangeD 0 mn).drop k ∧ rowOk d' ∧ acc = fs.map D.int ∧ (∀ f ∈ fs, 0 ≤ f ∧ f < mn ∧ f < k) ∧ fs.Pairwise (· < ·) ∧ st = mst d' rooms letters r1 r2 ho mn wd t none a10 a11 a12 a13) ?_ ?_ _ _ _ ⟨0, dd, [], rfl, hdd, rfl, by simp, by simp, rfl⟩
  · rintro x r acc st ⟨j, d', fs, e, hd', rfl, hf, hp, rfl⟩ Kt Kf kt kf
    obtain ⟨rfl, rfl, hlt⟩ := range_dropL e.symm
    simp [setTg, B__law_machine_7, wE, wE2, wAs, wVs, wT, wIt, wS, wSs.eq_1, startR, startS, endOf, outs, List.zip_cons_cons, hide_nil, hide_cons, restore_nil, restore_cons, lock, setAll, h1, spTaken, ioSlots, putIO, isRw, hd']
    intro d'' r hd'' h0 h3
    by_cases hr : r = 0
    · simp [hr, B__law_machine_8, wE, wE2, wAs, wVs, wT, wIt, wS, wSs.eq_1, startR, startS, endOf, outs, List.zip_cons_cons, hide_nil, hide_cons, restore_nil, restore_cons, lock, setAll]
      refine kt _ _ ⟨j + 1, d'', fs ++ [(j : Int)], rfl, hd'', by simp, fun f hf' => ?_, ?_, by simp [hide_cons, hide_nil, Tg.slots]⟩
      · rcases List.mem_append.mp hf' with z | z
        · have := hf f z; omega
        · rw [List.mem_singleton.mp z]; omega
      · rw [List.pairwise_append]
        refine ⟨hp, by simp, fun a ha b hb => ?_⟩
        rw [List.mem_singleton.mp hb]
        exact (hf a ha).2.2
    · simp [hr, wE, wE2, wAs, wVs, wT, wIt, wS, wSs.eq_1, startR, startS, endOf, outs, List.zip_cons_cons, hide_nil, hide_cons, restore_nil, restore_cons, lock, setAll]
      exact kf _ ⟨j + 1, d'', fs, rfl, hd'', rfl, fun f hf' => by have := hf f hf'; omega, hp, by simp [hide_cons, hide_nil, Tg.slots]⟩
  · rintro acc st ⟨j, d', fs, e, hd', rfl, hf, hp, rfl⟩
    have := k d' fs hd' (fun f h => ⟨(hf f h).1, (hf f h).2.1⟩) hp
    simpa [restore_cons, restore_nil] using this
theorem k_machine {Φ : Phi} (h1 : Φ "_law_taken" = some spTaken) : Keeps Φ 15 [] B__law_machine spMach := by
  intro ds Q h
  simp only [spMach] at h
  split at h
  case h_2 => exact h.elim
  rename_i d rooms letters
  obtain ⟨hd, hr1, hr2, hl1, hl2, h⟩ := h
  refine ⟨rfl, by simp, ?_⟩
  unfold B__law_machine
  (try dsimp only); rw [wSs.eq_2]
  simp [wE, wE2, wAs, wVs, wT, wIt, wS, wSs.eq_1, startR, startS, endOf, outs, List.zip_cons_cons, hide_nil, hide_cons, restore_nil, restore_cons, lock, setAll, spMach, h1, spTaken, ioSlots, putIO, isRw]
  refine ⟨hd, fun d1 r1 hd1 a1 b1 => ⟨hd1, fun d2 r2 hd2 a2 b2 => ?_⟩⟩
  refine ⟨by decide, hd2, fun d3 r3 hd3 a3 b3 => ?_⟩
  obtain ⟨ho, e3, ho1, ho2⟩ := three_of a3 b3
  simp [e3]
  (try dsimp only); rw [wSs.eq_2]
  simp [wE, wE2, wAs, wVs, wT, wIt, wS, wSs.eq_1, startR, startS, endOf, outs, List.zip_cons_cons, hide_nil, hide_cons, restore_nil, restore_cons, lock, setAll, h1, spTaken, ioSlots, putIO, isRw]
  refine ⟨hd3, tk_of (by omega) (by omega), fun d4 r4 hd4 a4 b4 => ⟨hd4, tk_of (by omega) (by omega), fun d5 r5 hd5 a5 b5 => ?_⟩⟩
  obtain ⟨mn, hmn⟩ : ∃ mn : Nat, 1 + r4 = (mn : Int) := ⟨(1 + r4).toNat, by omega⟩
  obtain ⟨wd, hwd⟩ : ∃ wd : Nat, 1 + r5 = (wd : Int) := ⟨(1 + r5).toNat, by omega⟩
  rw [hmn, hwd]
  have hmn1 : 1 ≤ mn := by omega
  have hmn2 : mn ≤ 40 := by omega
  have hwd1 : 1 ≤ wd := by omega
  have hwd2 : wd ≤ 30 := by omega
  have hmul : mulOk (mn : Int) ho = true := mulOk_l (by omega) (by omega)
  have hp1 : 0 < (mn : Int) * ho := Int.mul_pos (by omega) (by omega)
  have hp2 : (mn : Int) * ho < 1000000000 := by
    have := Int.mul_le_mul (a := (mn : Int)) (b := ho) (c := 40) (d := 11) (by omega) ho2 (by omega) (by omega)
    omega
  (try dsimp only); rw [wSs.eq_2]
  simp [wE, wE2, wAs, wVs, wT, wIt, wS, wSs.eq_1, startR, startS, endOf, outs, List.zip_cons_cons, hide_nil, hide_cons, restore_nil, restore_cons, lock, setAll]
  (try dsimp only); rw [wSs.eq_2]
  refine mach6 h1 hd5 (by omega) hwd1 a1 (by omega) a2 (by omega) (by omega) hmul (tk_of hp1 hp2) fun d6 t a9 a10 a11 a12 a13 hd6 ht hrows => ?_
  (try dsimp only); rw [wSs.eq_2]
  simp [wE, wE2, wAs, wVs, wT, wIt, wS, wSs.eq_1, startR, startS, endOf, outs, List.zip_cons_cons, hide_nil, hide_cons, restore_nil, restore_cons, lock, setAll]
  refine mach9 h1 hd6 (by omega) fun d7 fs hd7 hf hp => ?_
  simp [wE, wE2, wAs, wVs, wT, wIt, wS, wSs.eq_1, startR, startS, endOf, outs, List.zip_cons_cons, hide_nil, hide_cons, restore_nil, restore_cons, lock, setAll, immut_ints]
  (try dsimp only); rw [wSs.eq_2]
  have hi := rows_imm (t := t)
  simp [wE, wE2, wAs, wVs, wT, wIt, wS, wSs.eq_1, startR, startS, endOf, outs, List.zip_cons_cons, hide_nil, hide_cons, restore_nil, restore_cons, lock, setAll, immut_ints, hi]
  refine ⟨by decide, ?_⟩
  have hw1 : 1 ≤ wd := hwd1
  have := h d7 ⟨wd, t, fs⟩ hd7 ⟨hwd1, hwd2, by simp; omega, by simp; omega, fun r hr => by simpa [ht] using hrows r hr, fun f hf' => by simpa [ht] using hf f hf', hp⟩ (by simp; omega) (by simp; omega)
  simpa [machD, tblD] using this
end Dl
/-! Run1: runs. -/
namespace Dl
open PySem (Str)
def N_need_word : List Str := ["letters", "word", "place", "letter"]
def B_need_word_1 : List S := [.ite (.or (.cmp .ge (.nm 2 (.cons (.g "MOST_WORD" (.int 200)) .nil))) (.not (.fn "is_number" (.nm 3 (.cons (.c (.int 0)) (.cons (.bin .sub (.nm 0 (.cons (.c (.int 1)) .nil))) .nil)))))) [.raise] []]
def B_need_word_2 : S := .for_ (.tp [2, 3]) (.enumN 1) B_need_word_1
def B_need_word : List S := [B_need_word_2]
def N_run_by : List Str := ["step", "finals", "word", "rooms", "letter", "room"]
def B_run_by_1 : List S := [.asg 5 (.ap 0 (.pl (.nm 3 (.cons (.neg (.c (.int 1))) .nil)) (.nm 4 .nil))), .ite (.isN false (.nm 5 .nil)) [.ret (.tup (.cons (.v 3) (.cons (.g "BROKEN" (.str "broken")) .nil)))] [], .ex (.mm .append 3 (.cons (.v 5) .nil))]
def B_run_by_2 : S := .for_ (.nm 4) (.seqN 2) B_run_by_1
def B_run_by : List S := [.asg 3 (.lst (.cons (.c (.int 0)) .nil)), B_run_by_2, .ret (.tupM 3 (.cons (.ite (.cmp .inn (.pl (.nm 3 (.cons (.neg (.c (.int 1))) .nil)) (.nm 1 .nil))) (.g "GOOD" (.str "good")) (.g "BAD" (.str "bad"))) .nil))]
def N_run : List Str := ["machine", "word", "letters", "table", "finals", "room", "letter"]
def B_run_1 : E := (.idx (.pl (.nm 3 (.nm 5 .nil)) (.nm 6 .nil)))
def B_run : List S := [.ex (.fn "need_machine" (.nm 0 .nil)), .unp [2, 3, 4] (.v 0), .ex (.fn "need_word" (.nm 2 (.nm 1 .nil))), .ret2 (.act "run_by" [5, 6] B_run_1 [4, 1])]
def N__law_word_of : List Str := ["_law_row", "_law_machine_here", "_law_most", "_law_letters", "_law_table", "_law_finals", "_law_found", "_law_room", "_law_k", "_law_letter", "_law_some", "_law_one"]
def B__law_word_of_1 : Es := (.cons (.and (.isN true (.nm 7 .nil)) (.isN true (.pl (.pl (.nm 4 (.nm 7 .nil)) (.nm 11 .nil)) .nil))) .nil)
def B__law_word_of_2 : E := (.v 11)
def B__law_word_of_3 : E := .comp B__law_word_of_2 (.nm 11) (.rng1 (.v 3)) B__law_word_of_1 [("_law_one", 11)]
def B__law_word_of_4 : List S := [.asg 9 (.fn "_law_taken" (.nm 0 (.nm 3 .nil))), .asg 10 B__law_word_of_3, .ite (.and (.cmp .ne (.nm 10 (.cons (.lst .nil) .nil))) (.cmp .gt (.cons (.fn "_law_taken" (.nm 0 (.cons (.c (.int 9)) .nil))) (.cons (.c (.int 0)) .nil)))) [.asg 9 (.idx (.nm 10 (.cons (.bin .mod (.nm 9 (.cons (.bf .len (.nm 10 .nil)) .nil))) .nil)))] [], .ex (.mm .append 6 (.cons (.v 9) .nil)), .asg 7 (.ite (.isN true (.nm 7 .nil)) (.idx (.pl (.nm 4 (.nm 7 .nil)) (.nm 9 .nil))) (.c .non))]
def B__law_word_of_5 : S := .for_ (.nm 8) (.rng1 (.fn "_law_taken" (.nm 0 (.cons (.bin .add (.nm 2 (.cons (.c (.int 1)) .nil))) .nil)))) B__law_word_of_4
def B__law_word_of : List S := [.unp [3, 4, 5] (.v 1), .unp [6, 7] (.tup (.cons (.lst .nil) (.cons (.c (.int 0)) .nil))), B__law_word_of_5, .ret (.v 6)]
/-- the rooms come to, whether it breaks -/
def rn (s : Int → Int → Option Int) : Int → List Int → List Int × Bool
  | _, [] => ([], false)
  | r, l :: ls => match s r l with
    | none => ([], true)
    | some g => (g :: (rn s g ls).1, (rn s g ls).2)
def lastR (r : Int) (rs : List Int) : Int := rs.getLast?.getD r
theorem lastR_snoc {r g : Int} {rs : List Int} : lastR r (rs ++ [g]) = g := by simp [lastR]
theorem lastR_cons {r g : Int} {rs : List Int} : lastR r (g :: rs) = lastR g rs := by
  unfold lastR
  cases rs with
  | nil => rfl
  | cons a l =>
    rw [List.getLast?_cons_cons]
    cases h : (a :: l).getLast? with
    | none => simp at h
    | some x => rfl
theorem rn_snoc {s : Int → Int → Option Int} {x : Int} : ∀ {ws : List Int} {r : Int}, (rn s r ws).2 = false → rn s r (ws ++ [x]) = match s (lastR r (rn s r ws).1) x with
    | none => ((rn s r ws).1, true)
    | some g => ((rn s r ws).1 ++ [g], false)
  | [], r, _ => by
    show (match s r x with | none => ([], true) | some g => (g :: (rn s g []).1, (rn s g []).2)) = _
    simp only [rn, lastR, List.getLast?_nil, Option.getD_none, List.nil_append]
  | l :: ws, r, h => by
    rw [List.cons_append]
    simp only [rn] at h ⊢
    cases hs : s r l with
    | none => rw [hs] at h; cases h
    | some g =>
      rw [hs] at h
      simp only at h ⊢
      rw [rn_snoc h, lastR_cons]
      cases s (lastR g (rn s g ws).1) x <;> simp
theorem rn_stop {s : Int → Int → Option Int} {ys : List Int} : ∀ {ws : List Int} {r : Int}, (rn s r ws).2 = true → rn s r (ws ++ ys) = rn s r ws
  | [], r, h => by cases h
  | l :: ws, r, h => by
    rw [List.cons_append]
    simp only [rn] at h ⊢
    cases hs : s r l with
    | none => rfl
    | some g =>
      rw [hs] at h
      simp only at h ⊢
      rw [rn_stop h]
theorem rn_len {s : Int → Int → Option Int} : ∀ {ws : List Int} {r : Int}, (rn s r ws).1.length ≤ ws.length ∧ ((rn s r ws).2 = false → (rn s r ws).1.length = ws.length)
  | [], r => by simp [rn]
  | l :: ws, r => by
    simp only [rn]
    cases hs : s r l with
    | none => simp
    | some g => have := rn_len (s := s) (ws := ws) (r := g); simp only [List.length_cons]; exact ⟨by omega, fun h => by rw [this.2 h]⟩
/-- rooms that are come to keep a promise -/
theorem rn_all {s : Int → Int → Option Int} {P : Int → Prop} : ∀ {ws : List Int} {r : Int}, P r → (∀ r l g, P r → l ∈ ws → s r l = some g → P g) → (∀ x ∈ (rn s r ws).1, P x) ∧ P (lastR r (rn s r ws).1)
  | [], r, h0, _ => ⟨by simp [rn], by simpa [rn, lastR] using h0⟩
  | l :: ws, r, h0, h => by
    simp only [rn]
    cases hs : s r l with
    | none => exact ⟨by simp, by simpa [lastR] using h0⟩
    | some g =>
      have hg := h r l g h0 List.mem_cons_self hs
      obtain ⟨h1, h2⟩ := rn_all (ws := ws) hg fun r l g a b c => h r l g a (List.mem_cons_of_mem _ b) c
      simp only
      rw [lastR_cons]
      exact ⟨fun x hx => by
        rcases List.mem_cons.mp hx with rfl | hx
        · exact hg
        · exact h1 x hx, h2⟩
theorem rn_congr {s s' : Int → Int → Option Int} {P : Int → Prop} : ∀ {ws : List Int} {r : Int}, P r → (∀ r l, P r → l ∈ ws → s r l = s' r l ∧ ∀ g, s r l = some g → P g) → rn s r ws = rn s' r ws
  | [], r, _, _ => rfl
  | l :: ws, r, h0, h => by
    simp only [rn]
    obtain ⟨h1, h2⟩ := h r l h0 List.mem_cons_self
    rw [← h1]
    cases hs : s r l with
    | none => rfl
    | some g =>
      simp only
      rw [rn_congr (h2 g hs) fun r l a b => h r l a (List.mem_cons_of_mem _ b)]
def endW (fs : List Int) (p : List Int × Bool) : String := if p.2 then "broken" else if lastR 0 p.1 ∈ fs then "good" else "bad"
def sD (x : String) : D := .str (Str.ofString x)
def roomsD (rs : List Int) : D := .lst ((0 :: rs).map D.int)
def runD (s : Int → Int → Option Int) (fs ws : List Int) : D := .tup [roomsD (rn s 0 ws).1, sD (endW fs (rn s 0 ws))]
theorem at_last {r : Int} {rs : List Int} : atZ ((r :: rs).map D.int) (-1) = some (.int (lastR r rs)) := by
  unfold atZ
  rw [if_neg (by decide), if_pos (by simp; omega)]
  have : ((((r :: rs).map D.int).length : Nat) : Int) + -1 = ((rs.length : Nat) : Int) := by simp; omega
  rw [this, Int.toNat_natCast, List.getElem?_map]
  have h2 : (r :: rs)[rs.length]? = some (lastR r rs) := by
    unfold lastR
    cases hl : rs.getLast? with
    | none =>
      have : rs = [] := by simpa using hl
      subst this; rfl
    | some x =>
      rw [List.getLast?_eq_getElem?] at hl
      cases rs with
      | nil => simp at hl
      | cons a l => simpa using hl
  rw [h2]; rfl
theorem in_ints {x : Int} {fs : List Int} : cmpop .inn (.int x) (.tup (fs.map D.int)) = some (decide (x ∈ fs)) := by
  have hp : (fs.map D.int).all D.plain = true := by
    rw [List.all_eq_true]; intro y hy; obtain ⟨z, _, rfl⟩ := List.mem_map.mp hy; simp
  simp only [cmpop, plain_int, hp, Bool.and_self, if_true]
  congr 1
  rw [Bool.eq_iff_iff, List.any_eq_true, decide_eq_true_iff]
  constructor
  · rintro ⟨y, hy, h⟩
    obtain ⟨z, hz, rfl⟩ := List.mem_map.mp hy
    simp [eqv] at h
    rw [← h]; exact hz
  · intro h
    exact ⟨.int x, List.mem_map.mpr ⟨x, h, rfl⟩, by simp [eqv]⟩
/-! ### run_by -/
def hRunBy : Nat → Run → Run := fun f step ds Q => ∃ (s : Int → Int → Option Int) (fs ws : List Int) (P : Int → Prop), ds = [.fnc f, .tup (fs.map D.int), .lst (ws.map D.int)] ∧ ws.length ≤ 1000 ∧ P 0 ∧
  (∀ r l, P r → l ∈ ws → (∀ Q' : D → List D → Prop, Q' (encO (s r l)) [.int r, .int l] → step [.int r, .int l] Q') ∧ ∀ g, s r l = some g → P g) ∧ Q (runD s fs ws) ds
def spRunBy : Spec := { io := [false, false, false], run := fun _ _ => False, ho := some (2, hRunBy) }
abbrev sRB (f : Nat) (fs : List Int) (a3 a4 a5 : Option D) : DS := [some (.fnc f), some (.tup (fs.map D.int)), none, a3, a4, a5]
abbrev rRB (ws : List Int) : DS := [none, none, some (.lst (ws.map D.int)), none, none, none]
theorem k_run_by (fa : Nat) (step : Run) : Keeps (fun y => if y = "@" then some { io := List.replicate 2 false, run := step, id := some fa } else none) 6 [] B_run_by { io := [false, false, false], run := hRunBy fa step } := by
  intro ds Q h
  obtain ⟨s, fs, ws, P, rfl, hw, h0, hs, h⟩ := h
  refine ⟨rfl, by simp, ?_⟩
  have hfi := immut_ints (ns := fs)
  have hl1 : 1 ≤ lim := by decide
  have hl2 : 2 ≤ lim := by decide
  unfold B_run_by
  (try dsimp only); rw [wSs.eq_2]
  simp [wE, wE2, wAs, wVs, wT, wIt, wS, wSs.eq_1, startR, startS, endOf, outs, List.zip_cons_cons, hide_nil, hide_cons, restore_nil, restore_cons, lock, setAll, hfi, hl1]
  (try dsimp only); rw [wSs.eq_2]
  unfold B_run_by_2
  have hroot : peek (rRB ws) (sRB fa fs (some (.lst [.int 0])) none none) 2 = some (.lst (ws.map D.int)) := rfl
  refine wS_seqN (.lst (ws.map D.int)) (ws.map D.int) (fun k st => ∃ a4 a5, (rn s 0 (ws.take k)).2 = false ∧ st = sRB fa fs (some (roomsD (rn s 0 (ws.take k)).1)) a4 a5) hroot rfl (by simp; unfold lim; omega) (fun x hx => by obtain ⟨y, _, rfl⟩ := List.mem_map.mp hx; rfl) ⟨none, none, by simp [rn], by simp [rn, roomsD]⟩ ?_ ?_
  · rintro k st x hx ⟨a4, a5, hb, rfl⟩ Kn ih
    rw [List.getElem?_map] at hx
    obtain ⟨l, hl, rfl⟩ := Option.map_eq_some_iff.mp hx
    have hlm : l ∈ ws := List.mem_of_getElem? hl
    have htk : ws.take (k + 1) = ws.take k ++ [l] := by rw [List.take_add_one, hl]; rfl
    have hall := rn_all (s := s) (P := P) (ws := ws.take k) h0 fun r l g a b c => (hs r l a (List.mem_of_mem_take b)).2 g c
    have hsn := rn_snoc (s := s) (x := l) (r := 0) hb
    rw [← htk] at hsn
    have hlen := (rn_len (s := s) (ws := ws.take k) (r := 0)).1
    have hlen2 : (rn s 0 (ws.take k)).1.length ≤ 1000 := by have := List.length_take_le k ws; simp at hlen; omega
    have hsplit : ws = ws.take (k + 1) ++ ws.drop (k + 1) := (List.take_append_drop (k + 1) ws).symm
    generalize hrs : (rn s 0 (ws.take k)).1 = rs at *
    have hlast := at_last (r := 0) (rs := rs)
    obtain ⟨hst, hg⟩ := hs (lastR 0 rs) l hall.2 hlm
    unfold B_run_by_1
    (try dsimp only); rw [wSs.eq_2]
    have hlast' : atZ (D.int 0 :: rs.map D.int) (-1) = some (.int (lastR 0 rs)) := hlast
    simp [wE, wE2, wAs, wVs, wT, wIt, wS, wSs.eq_1, startR, startS, endOf, outs, List.zip_cons_cons, hide_nil, hide_cons, restore_nil, restore_cons, lock, setAll, roomsD, hlast']
    refine hst _ ?_
    (try dsimp only); rw [wSs.eq_2]
    cases hn : s (lastR 0 rs) l with
    | none =>
      rw [hn] at hsn
      simp only at hsn
      have hst2 : rn s 0 ws = (rs, true) := by
        rw [hsplit, rn_stop (by rw [hsn]), hsn]
      unfold runD roomsD sD endW at h
      rw [hst2] at h
      simp [wE, wE2, wAs, wVs, wT, wIt, wS, wSs.eq_1, startR, startS, endOf, outs, List.zip_cons_cons, hide_nil, hide_cons, restore_nil, restore_cons, lock, setAll, encO, hfi, hl2, K0.d]
      (try dsimp only); rw [wSs.eq_2]
      simp [wE, wE2, wAs, wVs, wT, wIt, wS, wSs.eq_1, startR, startS, endOf, outs, List.zip_cons_cons, hide_nil, hide_cons, restore_nil, restore_cons, lock, setAll, encO, hfi, hl2, K0.d]
      simpa using h
    | some g =>
      rw [hn] at hsn
      simp only at hsn
      simp [wE, wE2, wAs, wVs, wT, wIt, wS, wSs.eq_1, startR, startS, endOf, outs, List.zip_cons_cons, hide_nil, hide_cons, restore_nil, restore_cons, lock, setAll, encO]
      (try dsimp only); rw [wSs.eq_2]
      have hll : rs.length + 1 < lim := by unfold lim; omega
      have htn : (D.lst (D.int 0 :: rs.map D.int)).tyN = "list" := rfl
      simp [wE, wE2, wAs, wVs, wT, wIt, wS, wSs.eq_1, startR, startS, endOf, outs, List.zip_cons_cons, hide_nil, hide_cons, restore_nil, restore_cons, lock, setAll, hll, htn]
      refine ih _ ⟨some (.int l), some (.int g), by rw [hsn], ?_⟩
      rw [hsn]
      simp [roomsD]
  · rintro st ⟨a4, a5, hb, rfl⟩
    have e : ws.take (ws.map D.int).length = ws := List.take_of_length_le (by simp)
    rw [e] at hb ⊢
    unfold runD roomsD sD endW at h
    rw [hb] at h
    unfold roomsD
    generalize (rn s 0 ws).1 = rs at *
    have hlast' : atZ (D.int 0 :: rs.map D.int) (-1) = some (.int (lastR 0 rs)) := at_last (r := 0) (rs := rs)
    (try dsimp only); rw [wSs.eq_2]
    by_cases hm : lastR 0 rs ∈ fs
    · simp [wE, wE2, wAs, wVs, wT, wIt, wS, wSs.eq_1, startR, startS, endOf, outs, List.zip_cons_cons, hide_nil, hide_cons, restore_nil, restore_cons, lock, setAll, hlast', in_ints, hfi, hl2, hm, K0.d, isRw] at h ⊢
      exact ⟨by unfold lim; omega, h⟩
    · simp [wE, wE2, wAs, wVs, wT, wIt, wS, wSs.eq_1, startR, startS, endOf, outs, List.zip_cons_cons, hide_nil, hide_cons, restore_nil, restore_cons, lock, setAll, hlast', in_ints, hfi, hl2, hm, K0.d, isRw] at h ⊢
      exact ⟨by unfold lim; omega, h⟩
/-! ### need_word, run -/
def WOk (w : Int) (ws : List Int) : Prop := ws.length ≤ 200 ∧ ∀ x ∈ ws, 0 ≤ x ∧ x < w
def wordD (ws : List Int) : D := .lst (ws.map D.int)
def spWord : Spec := { io := [false, false], run := fun ds Q => ∃ (w : Int) (ws : List Int), ds = [.int w, wordD ws] ∧ WOk w ws ∧ Q .non ds }
theorem k_need_word {Φ : Phi} (h1 : Φ "is_number" = some spNum) : Keeps Φ 4 [] B_need_word spWord := by
  intro ds Q h
  obtain ⟨w, ws, rfl, ⟨hl, hw⟩, h⟩ := h
  refine ⟨rfl, by simp, ?_⟩
  unfold B_need_word
  unfold wordD at h ⊢
  show wSs Φ [B_need_word_2] [none, some (.lst (ws.map D.int)), none, none] { nx := endOf [false, false] [.int w, .lst (ws.map D.int)] Q .non, rt := endOf [false, false] [.int w, .lst (ws.map D.int)] Q } [some (.int w), none, none, none]
  (try dsimp only); rw [wSs.eq_2]
  unfold B_need_word_2
  refine wS_it (enumD (ws.map D.int)) (some 1) (fun k st => ∃ a b, st = [some (.int w), none, a, b]) (fun Q q => ?_) ?_ ⟨none, none, by simp [wE, wE2, wAs, wVs, wT, wIt, wS, wSs.eq_1, startR, startS, endOf, outs, List.zip_cons_cons, hide_nil, hide_cons, restore_nil, restore_cons, lock, setAll]⟩ ?_ ?_
  · simp [wE, wE2, wAs, wVs, wT, wIt, wS, wSs.eq_1, startR, startS, endOf, outs, List.zip_cons_cons, hide_nil, hide_cons, restore_nil, restore_cons, lock, setAll]; exact q
  · simp [enumD]; unfold lim; omega
  · rintro k x st hx ⟨a, b, rfl⟩ Kn ih
    unfold enumD at hx
    rw [List.getElem?_mapIdx, List.getElem?_map] at hx
    obtain ⟨y, hy, rfl⟩ := Option.map_eq_some_iff.mp hx
    obtain ⟨z, hz, rfl⟩ := Option.map_eq_some_iff.mp hy
    have hk := (List.getElem?_eq_some_iff.mp hz).1
    obtain ⟨z0, z1⟩ := hw z (List.mem_of_getElem? hz)
    have hk' : ¬ (200 : Int) ≤ (k : Int) := by omega
    have hz1 : z ≤ w - 1 := by omega
    simp [setTgF, bindFs, bindF, B_need_word_1]
    (try dsimp only); rw [wSs.eq_2]
    simp [wE, wE2, wAs, wVs, wT, wIt, wS, wSs.eq_1, startR, startS, endOf, outs, List.zip_cons_cons, hide_nil, hide_cons, restore_nil, restore_cons, lock, setAll, h1, spNum, isNum, hk', z0, hz1]
    exact ih _ ⟨_, _, rfl⟩
  · rintro st ⟨a, b, rfl⟩
    simp [wE, wE2, wAs, wVs, wT, wIt, wS, wSs.eq_1, startR, startS, endOf, outs, List.zip_cons_cons, hide_nil, hide_cons, restore_nil, restore_cons, lock, setAll]
    exact h
/-- the next room -/
def nxT (t : List (List (Option Int))) (r l : Int) : Option Int := cell (t.getD r.toNat []) l.toNat
theorem at_row {t : List (List (Option Int))} {r : Int} (h0 : 0 ≤ r) (h1 : r < t.length) : atZ (t.map rowD) r = some (rowD (t.getD r.toNat [])) ∧ t.getD r.toNat [] ∈ t := by
  have hl : r.toNat < t.length := by omega
  refine ⟨?_, ?_⟩
  · refine atZ_of (k := r.toNat) (by omega) ?_
    rw [List.getElem?_map]
    simp [hl]
  · simp [List.getD_eq_getElem?_getD, List.getElem?_eq_getElem hl]
theorem at_cell {row : List (Option Int)} {l : Int} (h0 : 0 ≤ l) (h1 : l < row.length) : atZ (row.map encO) l = some (encO (cell row l.toNat)) := by
  have := row_at (r := row) (k := l.toNat) (by omega)
  rw [show ((l.toNat : Nat) : Int) = l by omega] at this
  exact this
theorem nxT_ok {m : Mach} (hm : MOk m) {r l g : Int} (h0 : 0 ≤ r) (h1 : r < m.t.length) (h2 : 0 ≤ l) (h3 : l < m.w) (h : nxT m.t r l = some g) : 0 ≤ g ∧ g < m.t.length := by
  have hr := (at_row h0 h1).2
  obtain ⟨hl, hok⟩ := hm.rows _ hr
  have hlt : l.toNat < (m.t.getD r.toNat []).length := by omega
  have hmem : nxT m.t r l ∈ m.t.getD r.toNat [] := by
    unfold nxT cell
    generalize m.t.getD r.toNat [] = row at *
    rw [List.getD_eq_getElem?_getD, List.getElem?_eq_getElem hlt]
    simp
  have := hok _ hmem
  rw [h] at this
  simp [okN] at this
  exact this
theorem idx_tbl {t : List (List (Option Int))} {x : D} : index (tblD t) x = index (.tup (t.map rowD)) x := rfl
def spRun : Spec := { io := [false, false], run := fun ds Q => ∃ (m : Mach) (ws : List Int), ds = [machD m, wordD ws] ∧ MOk m ∧ WOk m.w ws ∧ Q (runD (nxT m.t) m.fs ws) ds }
theorem k_run {Φ : Phi} (h1 : Φ "need_machine" = some spNeed) (h2 : Φ "need_word" = some spWord) (h3 : Φ "run_by" = some spRunBy) : Keeps Φ 7 [] B_run spRun := by
  intro ds Q h
  obtain ⟨m, ws, rfl, hm, hws, h⟩ := h
  refine ⟨rfl, by simp, ?_⟩
  have hfi := immut_ints (ns := m.fs)
  have hti := rows_imm (t := m.t)
  unfold B_run
  (try dsimp only); rw [wSs.eq_2]
  simp [wE, wE2, wAs, wVs, wT, wIt, wS, wSs.eq_1, startR, startS, endOf, outs, List.zip_cons_cons, hide_nil, hide_cons, restore_nil, restore_cons, lock, setAll, h1, spNeed, wordD, spRun]
  refine ⟨m, rfl, hm, ?_⟩
  (try dsimp only); rw [wSs.eq_2]
  have hmi := machD_imm (m := m)
  unfold machD at hmi h ⊢
  simp [wE, wE2, wAs, wVs, wT, wIt, wS, wSs.eq_1, startR, startS, endOf, outs, List.zip_cons_cons, hide_nil, hide_cons, restore_nil, restore_cons, lock, setAll, hfi]
  (try dsimp only); rw [wSs.eq_2]
  simp [wE, wE2, wAs, wVs, wT, wIt, wS, wSs.eq_1, startR, startS, endOf, outs, List.zip_cons_cons, hide_nil, hide_cons, restore_nil, restore_cons, lock, setAll, h2, spWord]
  refine ⟨m.w, ws, ⟨rfl, rfl⟩, hws, ?_⟩
  (try dsimp only); rw [wSs.eq_2]
  simp [wE, wE2, wAs, wVs, wT, wIt, wS, wSs.eq_1, startR, startS, endOf, outs, List.zip_cons_cons, hide_nil, hide_cons, restore_nil, restore_cons, lock, setAll, h3, spRunBy, hfi]
  refine ⟨fun as Q' => ∃ r l : Int, as = [.int r, .int l] ∧ 0 ≤ r ∧ r < m.t.length ∧ 0 ≤ l ∧ l < m.w ∧ Q' (encO (nxT m.t r l)) as, ?_, fun f => ?_⟩
  · rintro as Q' ⟨r, l, rfl, hr0, hr1, hl0, hl1, q⟩
    have hrow := at_row hr0 hr1
    obtain ⟨hl, hok⟩ := hm.rows _ hrow.2
    have hcell := at_cell (row := m.t.getD r.toNat []) hl0 (by omega)
    refine ⟨rfl, by simp [immutAll], ?_⟩
    have hrm : (rowD (m.t.getD r.toNat [])).immut = true := rowD_imm
    have hix : index (rowD (m.t.getD r.toNat [])) (.int l) = some (encO (nxT m.t r l)) := hcell
    have hrow1 := hrow.1
    generalize m.t.getD r.toNat [] = row at *
    simp [wE, wE2, wAs, wVs, wT, wIt, wS, wSs.eq_1, startR, startS, endOf, outs, List.zip_cons_cons, hide_nil, hide_cons, restore_nil, restore_cons, lock, setAll, B_run_1, lockAll]
    rw [idx_tbl, i_tup, hrow1]
    simp only [hrm, if_true]
    simp [wE, wE2, wAs, wVs, wT, wIt, wS, wSs.eq_1, startR, startS, endOf, outs, List.zip_cons_cons, hide_nil, hide_cons, restore_nil, restore_cons, lock, setAll, hix]
    exact q
  · refine ⟨nxT m.t, m.fs, ws, fun r => 0 ≤ r ∧ r < m.t.length, rfl, by have := hws.1; omega, ⟨by omega, by have := hm.t1; omega⟩, fun r l ⟨a1, a2⟩ hl => ?_, ⟨rfl, h⟩⟩
    obtain ⟨b1, b2⟩ := hws.2 l hl
    exact ⟨fun Q' q => ⟨r, l, rfl, a1, a2, b1, b2, q⟩, fun g hg => nxT_ok hm a1 a2 b1 b2 hg⟩
end Dl
/-! Run2: words that are drawn. -/
namespace Dl
open PySem (Str)
theorem at_tbl {t : List (List (Option Int))} {r : Int} (h0 : 0 ≤ r) (h1 : r < t.length) : index (tblD t) (.int r) = some (rowD (t.getD r.toNat [])) := (at_row h0 h1).1
theorem at_nx {m : Mach} (hm : MOk m) {r l : Int} (h0 : 0 ≤ r) (h1 : r < m.t.length) (h2 : 0 ≤ l) (h3 : l < m.w) : index (rowD (m.t.getD r.toNat [])) (.int l) = some (encO (nxT m.t r l)) := by
  obtain ⟨hl, _⟩ := hm.rows _ (at_row h0 h1).2
  exact at_cell h2 (by omega)
/-- a room, or None -/
def inR (n : Nat) : Option Int → Prop
  | none => True
  | some r => 0 ≤ r ∧ r < n
abbrev sWO (dd : D) (m : Mach) (most : Int) (ws : List Int) (ro : Option Int) (a8 a9 a10 : Option D) : DS := [some dd, some (machD m), some (.int most), some (.int m.w), some (tblD m.t), some (.tup (m.fs.map D.int)), some (wordD ws), some (encO ro), a8, a9, a10, none]
abbrev rWO : DS := [none, none, none, none, none, none, none, none, none, none, none, none]
def goP (t : List (List (Option Int))) (ro : Option Int) (l : Nat) : Bool := match ro with
  | none => false
  | some r => (nxT t r (l : Int)).isSome
theorem wo_3 {Φ : Phi} {dd : D} {m : Mach} {most : Int} {ws : List Int} {ro : Option Int} {a8 a9 a10 : Option D} {Q : D → DS → Prop} (hm : MOk m) (hr : inR m.t.length ro)
  (go : Q (.lst (((List.range m.w).filter (goP m.t ro)).map fun (l : Nat) => D.int (l : Int))) (sWO dd m most ws ro a8 a9 a10)) :
  wE Φ B__law_word_of_3 rWO (sWO dd m most ws ro a8 a9 a10) Q := by
  have hw2 := hm.w2
  have hfi := immut_ints (ns := m.fs)
  unfold B__law_word_of_3
  simp [wE, wE2, wAs, wVs, wT, wIt, wS, wSs.eq_1, startR, startS, endOf, outs, List.zip_cons_cons, hide_nil, hide_cons, restore_nil, restore_cons, lock, setAll]
  refine ⟨small_of (by omega) (by omega), by rw [range_len]; unfold lim; omega, ?_⟩
  rw [range0]
  refine wComp_ty (fun (l : Nat) => D.int (l : Nat)) (goP m.t ro) (fun l => D.int (l : Int)) rfl (fun l hl Q k2 => ?_) ?_
  · have hl := List.mem_range.mp hl
    simp only [setTg] at k2 ⊢
    refine k2 _ ⟨fun Q q => ?_, fun _ Q q => ?_⟩
    · cases ro with
      | none =>
        have q : Q false _ := q
        simp [wE, wE2, wAs, wVs, wT, wIt, wS, wSs.eq_1, startR, startS, endOf, outs, List.zip_cons_cons, hide_nil, hide_cons, restore_nil, restore_cons, lock, setAll, B__law_word_of_1, encO]
        exact q
      | some r =>
        have q : Q (nxT m.t r (l : Int)).isSome _ := q
        have e1 := at_tbl (t := m.t) hr.1 hr.2
        have e2 := at_nx hm hr.1 hr.2 (l := (l : Int)) (by omega) (by omega)
        have hrm : (rowD (m.t.getD r.toNat [])).immut = true := rowD_imm
        generalize m.t.getD r.toNat [] = row at *
        cases hn : nxT m.t r (l : Int) with
        | none =>
          rw [hn] at q e2
          simp [wE, wE2, wAs, wVs, wT, wIt, wS, wSs.eq_1, startR, startS, endOf, outs, List.zip_cons_cons, hide_nil, hide_cons, restore_nil, restore_cons, lock, setAll, B__law_word_of_1, encO, e1, hrm, e2] at q ⊢
          exact q
        | some g =>
          rw [hn] at q e2
          simp [wE, wE2, wAs, wVs, wT, wIt, wS, wSs.eq_1, startR, startS, endOf, outs, List.zip_cons_cons, hide_nil, hide_cons, restore_nil, restore_cons, lock, setAll, B__law_word_of_1, encO, e1, hrm, e2] at q ⊢
          exact q
    · simp [wE, wE2, wAs, wVs, wT, wIt, wS, wSs.eq_1, startR, startS, endOf, outs, List.zip_cons_cons, hide_nil, hide_cons, restore_nil, restore_cons, lock, setAll, B__law_word_of_2]
      exact q
  · rw [List.nil_append]
    simp [wE, wE2, wAs, wVs, wT, wIt, wS, wSs.eq_1, startR, startS, endOf, outs, List.zip_cons_cons, hide_nil, hide_cons, restore_nil, restore_cons, lock, setAll]
    exact go
theorem wo_4 {Φ : Phi} (h1 : Φ "_law_taken" = some spTaken) {dd : D} {m : Mach} {most : Int} {ws : List Int} {ro : Option Int} {a8 a9 a10 : Option D} {N : Ends} (hd : rowOk dd) (hm : MOk m) (hr : inR m.t.length ro) (hl : ws.length ≤ 1000)
  (go : ∀ dd (l : Int) ro a9 a10, rowOk dd → 0 ≤ l → l < m.w → inR m.t.length ro → N.nx (sWO dd m most (ws ++ [l]) ro a8 a9 a10)) :
  wSs Φ B__law_word_of_4 rWO N (sWO dd m most ws ro a8 a9 a10) := by
  have hw1 := hm.w1
  have hw2 := hm.w2
  have htk : tk (m.w : Int) = true := tk_of (by omega) (by omega)
  have hll : ws.length < lim := by unfold lim; omega
  have htn : ∀ ws, (wordD ws).tyN = "list" := fun _ => rfl
  -- the tail
  have tail : ∀ dd (l : Int) a10, rowOk dd → 0 ≤ l → l < (m.w : Int) → wSs Φ [.ex (.mm .append 6 (.cons (.v 9) .nil)), .asg 7 (.ite (.isN true (.nm 7 .nil)) (.idx (.pl (.nm 4 (.nm 7 .nil)) (.nm 9 .nil))) (.c .non))] rWO N (sWO dd m most ws ro a8 (some (.int l)) a10) := by
    intro dd l a10 hd hl0 hl1
    (try dsimp only); rw [wSs.eq_2]
    simp [wE, wE2, wAs, wVs, wT, wIt, wS, wSs.eq_1, startR, startS, endOf, outs, List.zip_cons_cons, hide_nil, hide_cons, restore_nil, restore_cons, lock, setAll, wordD, hll]
    (try dsimp only); rw [wSs.eq_2]
    cases ro with
    | none =>
      simp [wE, wE2, wAs, wVs, wT, wIt, wS, wSs.eq_1, startR, startS, endOf, outs, List.zip_cons_cons, hide_nil, hide_cons, restore_nil, restore_cons, lock, setAll, encO, K0.d]
      have := go dd l none (some (.int l)) a10 hd hl0 hl1 trivial
      simpa [wordD, encO, sWO] using this
    | some r =>
      have e1 := at_tbl (t := m.t) hr.1 hr.2
      have e2 := at_nx hm hr.1 hr.2 hl0 hl1
      have hg : inR m.t.length (nxT m.t r l) := by
        cases hn : nxT m.t r l with
        | none => trivial
        | some g => exact nxT_ok hm hr.1 hr.2 hl0 hl1 hn
      have hrm : (rowD (m.t.getD r.toNat [])).immut = true := rowD_imm
      generalize m.t.getD r.toNat [] = row at *
      have eR : encO (some r) = .int r := rfl
      simp [wE, wE2, wAs, wVs, wT, wIt, wS, wSs.eq_1, startR, startS, endOf, outs, List.zip_cons_cons, hide_nil, hide_cons, restore_nil, restore_cons, lock, setAll, eR, e1, hrm, e2]
      have := go dd l (nxT m.t r l) (some (.int l)) a10 hd hl0 hl1 hg
      simpa [wordD, sWO] using this
  unfold B__law_word_of_4
  (try dsimp only); rw [wSs.eq_2]
  simp [wE, wE2, wAs, wVs, wT, wIt, wS, wSs.eq_1, startR, startS, endOf, outs, List.zip_cons_cons, hide_nil, hide_cons, restore_nil, restore_cons, lock, setAll, h1, spTaken, ioSlots, putIO, isRw, hd, htk]
  intro d1 l1 hd1 hl0 hl1
  (try dsimp only); rw [wSs.eq_2]
  rw [wS]
  refine wo_3 hm hr ?_
  have hmem : ∀ x ∈ (List.range m.w).filter (goP m.t ro), x < m.w := fun x hx => List.mem_range.mp (List.mem_filter.mp hx).1
  have hpl : plainAllN 59 (((List.range m.w).filter (goP m.t ro)).map fun (l : Nat) => D.int (l : Int)) = true := by
    rw [plainAll_iff]; intro x hx; obtain ⟨y, _, rfl⟩ := List.mem_map.mp hx; simp
  generalize (List.range m.w).filter (goP m.t ro) = some_ at *
  (try dsimp only); rw [wSs.eq_2]
  cases hs : some_ with
  | nil =>
    simp [wE, wE2, wAs, wVs, wT, wIt, wS, wSs.eq_1, startR, startS, endOf, outs, List.zip_cons_cons, hide_nil, hide_cons, restore_nil, restore_cons, lock, setAll]
    exact tail _ _ _ hd1 hl0 hl1
  | cons x xs =>
    rw [hs] at hpl hmem
    have htk9 : tk 9 = true := by decide
    simp only [List.map_cons] at hpl
    simp [wE, wE2, wAs, wVs, wT, wIt, wS, wSs.eq_1, startR, startS, endOf, outs, List.zip_cons_cons, hide_nil, hide_cons, restore_nil, restore_cons, lock, setAll, hpl, h1, spTaken, ioSlots, putIO, isRw, hd1, htk9]
    intro d2 r2 hd2 hr0 hr9
    by_cases hz : 0 < r2
    · rw [decide_eq_true hz]
      simp only
      (try dsimp only); rw [wSs.eq_2]
      have hml := fmod_in (a := l1) (m := (xs.length : Int) + 1) (by omega)
      obtain ⟨q, hq⟩ : ∃ q : Nat, l1.fmod ((xs.length : Int) + 1) = (q : Int) := ⟨(l1.fmod ((xs.length : Int) + 1)).toNat, by omega⟩
      have hql : q < (x :: xs).length := by simp; omega
      have hne : ((xs.length : Int) + 1) ≠ 0 := by omega
      have hat : atZ (D.int (x : Int) :: xs.map fun (l : Nat) => D.int (l : Int)) (q : Int) = some (.int (((x :: xs)[q] : Nat) : Int)) := by
        have e : (D.int (x : Int) :: xs.map fun (l : Nat) => D.int (l : Int)) = (x :: xs).map fun (l : Nat) => D.int (l : Int) := rfl
        rw [e, atZ_nat, List.getElem?_map, List.getElem?_eq_getElem hql]; rfl
      have hqm := hmem _ (List.getElem_mem hql)
      generalize (x :: xs)[q] = y at *
      simp [wE, wE2, wAs, wVs, wT, wIt, wS, wSs.eq_1, startR, startS, endOf, outs, List.zip_cons_cons, hide_nil, hide_cons, restore_nil, restore_cons, lock, setAll, hne, hq, hat]
      exact tail _ _ _ hd2 (by omega) (by omega)
    · rw [decide_eq_false hz]
      exact tail _ _ _ hd2 hl0 hl1
def spWordOf : Spec := { io := [true, false, false], run := fun ds Q => ∃ (dd : D) (m : Mach) (most : Int), ds = [dd, machD m, .int most] ∧ rowOk dd ∧ MOk m ∧ 0 ≤ most ∧ most ≤ 1000 ∧
  ∀ (dd : D) (ws : List Int), rowOk dd → (ws.length : Int) ≤ most → (∀ x ∈ ws, 0 ≤ x ∧ x < (m.w : Int)) → Q (wordD ws) [dd, machD m, .int most] }
theorem k_word_of {Φ : Phi} (h1 : Φ "_law_taken" = some spTaken) : Keeps Φ 12 [] B__law_word_of spWordOf := by
  intro ds Q h
  obtain ⟨dd, m, most, rfl, hd, hm, hm0, hm1, h⟩ := h
  refine ⟨rfl, by simp, ?_⟩
  have hfi := immut_ints (ns := m.fs)
  unfold B__law_word_of
  have hti := rows_imm (t := m.t)
  have hmi := machD_imm (m := m)
  (try dsimp only); rw [wSs.eq_2]
  have eM : machD m = .tup [.int m.w, tblD m.t, .tup (m.fs.map D.int)] := rfl
  simp [wE, wE2, wAs, wVs, wT, wIt, wS, wSs.eq_1, startR, startS, endOf, outs, List.zip_cons_cons, hide_nil, hide_cons, restore_nil, restore_cons, lock, setAll, spWordOf, eM, hfi]
  rw [← eM]
  (try dsimp only); rw [wSs.eq_2]
  simp [wE, wE2, wAs, wVs, wT, wIt, wS, wSs.eq_1, startR, startS, endOf, outs, List.zip_cons_cons, hide_nil, hide_cons, restore_nil, restore_cons, lock, setAll]
  refine ⟨by decide, ?_⟩
  (try dsimp only); rw [wSs.eq_2]
  unfold B__law_word_of_5
  refine wS_rngE (fun n st => n ≤ most ∧ ∃ d', rowOk d' ∧ st = sWO d' m most [] (some 0) none none none)
    (fun n k st => n ≤ most ∧ ∃ d' ws ro a8 a9 a10, rowOk d' ∧ ws.length = k ∧ (∀ x ∈ ws, 0 ≤ x ∧ x < (m.w : Int)) ∧ inR m.t.length ro ∧ st = sWO d' m most ws ro a8 a9 a10) (fun Q q => ?_) ?_ ?_ ?_
  · simp [wE, wE2, wAs, wVs, wT, wIt, wS, wSs.eq_1, startR, startS, endOf, outs, List.zip_cons_cons, hide_nil, hide_cons, restore_nil, restore_cons, lock, setAll, h1, spTaken, ioSlots, putIO, isRw]
    exact ⟨hd, tk_of (by omega) (by omega), fun d3 n hd3 n0 n1 => ⟨small_of (by omega) (by omega), q _ _ ⟨by omega, d3, hd3, rfl⟩⟩⟩
  · rintro n st ⟨hn, d', hd', rfl⟩
    exact ⟨by omega, hn, d', [], some 0, none, none, none, hd', rfl, by simp, ⟨by omega, by have := hm.t1; omega⟩, rfl⟩
  · rintro n k st hk ⟨hn, d', ws, ro, a8, a9, a10, hd', rfl, hws, hro, rfl⟩ Kn ih
    refine wo_4 h1 hd' hm hro (by omega) fun d4 l ro2 a9 a10 g1 g2 g3 g4 => ih _ ⟨hn, d4, ws ++ [l], ro2, _, a9, a10, g1, by simp, fun x hx => ?_, g4, rfl⟩
    rcases List.mem_append.mp hx with z | z
    · exact hws x z
    · rw [List.mem_singleton.mp z]; exact ⟨g2, g3⟩
  · rintro n k st ⟨hn, d', ws, ro, a8, a9, a10, hd', hk, hws, hro, rfl⟩ hk2
    have := h d' ws hd' (by omega) hws
    (try dsimp only); rw [wSs.eq_2]
    simp [wE, wE2, wAs, wVs, wT, wIt, wS, wSs.eq_1, startR, startS, endOf, outs, List.zip_cons_cons, hide_nil, hide_cons, restore_nil, restore_cons, lock, setAll, wordD]
    simpa [wordD] using this
end Dl
/-! K06: classes: the plain law. -/
namespace Dl
open PySem (Str)
abbrev Tb := List (List (Option Int))
theorem known_nd {t : Tb} : ∀ {k : Nat}, (known t k).Nodup
  | 0 => by simp [known]
  | k + 1 => by
    rw [known, addC]
    split
    · exact known_nd
    · rename_i h
      rw [List.nodup_append]
      exact ⟨known_nd, by simp, fun a ha b hb e => h (by rw [List.mem_singleton] at hb; rw [← hb, ← e]; exact ha)⟩
/-- the machine by classes -/
def smM (m : Mach) : Mach := { w := (known m.t m.w).length, t := smallT m.t (cls m.t m.w) (known m.t m.w).length, fs := m.fs }
theorem classedD_sm (m : Mach) : classedD m = .tup [.tup ((cls m.t m.w).map D.int), machD (smM m)] := rfl
/-- a class's first letter -/
def fst6 (m : Mach) (c : Nat) : Nat := (cls m.t m.w).idxOf (c : Int)
theorem cls_get {t : Tb} {k l : Nat} (h : l < k) : (cls t k)[l]? = some (cl t l) := by
  unfold cls
  rw [List.getElem?_map, List.getElem?_range h]; rfl
theorem fst6_ok {m : Mach} {c : Nat} (h : c < (known m.t m.w).length) : fst6 m c < m.w ∧ cl m.t (fst6 m c) = (c : Int) := by
  have hm := cls_all (t := m.t) (k := m.w) h
  have hl := List.idxOf_lt_length_of_mem hm
  rw [cls_len] at hl
  refine ⟨hl, ?_⟩
  have h1 := cls_get (t := m.t) hl
  have h2 : (cls m.t m.w)[(cls m.t m.w).idxOf (c : Int)]? = some (c : Int) := by
    rw [List.getElem?_eq_getElem (by rw [cls_len]; exact hl), List.getElem_idxOf]
  rw [h2] at h1
  exact (Option.some.inj h1).symm
theorem cl_lt {t : Tb} {k l : Nat} (h : l < k) : 0 ≤ cl t l ∧ cl t l < ((known t k).length : Int) := by
  rw [cl_at h]
  have := List.idxOf_lt_length_of_mem (known_mem (t := t) h)
  omega
/-- its column is the class's -/
theorem cl_col {t : Tb} {k l : Nat} (h : l < k) {c : Nat} (hc : cl t l = (c : Int)) : (known t k)[c]? = some (col t l) := by
  rw [cl_at h] at hc
  have hm := known_mem (t := t) h
  have hl := List.idxOf_lt_length_of_mem hm
  obtain rfl : (known t k).idxOf (col t l) = c := by omega
  rw [List.getElem?_eq_getElem hl, List.getElem_idxOf]
theorem cl_inj {t : Tb} {k a b : Nat} (ha : a < k) (hb : b < k) (h : cl t a = cl t b) : col t a = col t b := by
  have h0 := (cl_lt (t := t) ha).1
  have h1 := cl_col (t := t) ha (c := (cl t a).toNat) (by omega)
  have h2 := cl_col (t := t) hb (c := (cl t a).toNat) (by omega)
  rw [h1] at h2
  exact Option.some.inj h2
theorem col_cell {t : Tb} {a b : Nat} (h : col t a = col t b) {r : List (Option Int)} (hr : r ∈ t) : cell r a = cell r b := by
  unfold col at h
  obtain ⟨i, hi, rfl⟩ := List.getElem_of_mem hr
  have := congrArg (fun l => l[i]?) h
  simpa [hi] using this
theorem sm_row {m : Mach} {r : List (Option Int)} {c : Nat} (h : c < (known m.t m.w).length) : cell ((firsts (cls m.t m.w) (known m.t m.w).length).map fun l => cell r l) c = cell r (fst6 m c) := by
  unfold cell firsts fst6
  rw [List.getD_eq_getElem?_getD, List.getElem?_map, List.getElem?_map, List.getElem?_range h]
  rfl
theorem nx_sm {m : Mach} {r l : Int} (h0 : 0 ≤ r) (h1 : r < m.t.length) (hl0 : 0 ≤ l) (hl1 : l < m.w) : nxT (smM m).t r (cl m.t l.toNat) = nxT m.t r l := by
  have hr : r.toNat < m.t.length := by omega
  have hlw : l.toNat < m.w := by omega
  obtain ⟨hc0, hc1⟩ := cl_lt (t := m.t) hlw
  have hc : (cl m.t l.toNat).toNat < (known m.t m.w).length := by omega
  unfold nxT smM smallT
  simp only
  rw [List.getD_eq_getElem?_getD, List.getElem?_map, List.getElem?_eq_getElem hr, List.getD_eq_getElem?_getD, List.getElem?_eq_getElem hr]
  show cell ((firsts (cls m.t m.w) (known m.t m.w).length).map fun l => cell m.t[r.toNat] l) _ = cell m.t[r.toNat] l.toNat
  rw [sm_row hc]
  obtain ⟨g1, g2⟩ := fst6_ok hc
  exact col_cell (cl_inj g1 hlw (by rw [g2]; omega)) (List.getElem_mem hr)
theorem sm_len {m : Mach} : (smM m).t.length = m.t.length := by simp [smM, smallT]
theorem sm_ok {m : Mach} (hm : MOk m) : MOk (smM m) := by
  have hk := known_le (t := m.t) (k := m.w)
  have hp := known_pos (t := m.t) hm.w1
  refine ⟨hp, by show (known m.t m.w).length ≤ 30; have := hm.w2; omega, by rw [sm_len]; exact hm.t1, by rw [sm_len]; exact hm.t2, fun r hr => ?_, by rw [sm_len]; exact hm.fin, hm.ris⟩
  rw [sm_len]
  unfold smM smallT at hr
  obtain ⟨r0, h0, rfl⟩ := List.mem_map.mp hr
  refine ⟨by simp [firsts, smM], fun x hx => ?_⟩
  obtain ⟨l, hl, rfl⟩ := List.mem_map.mp hx
  have hlt := firsts_lt (fun n hn => cls_all hn) hl
  rw [cls_len] at hlt
  obtain ⟨g1, g2⟩ := hm.rows r0 h0
  exact cell_ok g2 (by omega)
/-- one run is another's, letter by letter -/
theorem rn_map {s s' : Int → Int → Option Int} {P : Int → Prop} {f : Int → Int} : ∀ {ws : List Int} {r : Int}, P r → (∀ r l, P r → l ∈ ws → s' r (f l) = s r l ∧ ∀ g, s r l = some g → P g) → rn s' r (ws.map f) = rn s r ws
  | [], r, _, _ => rfl
  | l :: ws, r, h0, h => by
    simp only [rn, List.map_cons]
    obtain ⟨h1, h2⟩ := h r l h0 List.mem_cons_self
    rw [h1]
    cases hs : s r l with
    | none => rfl
    | some g =>
      simp only
      rw [rn_map (h2 g hs) fun r l a b => h r l a (List.mem_cons_of_mem _ b)]
def clz (m : Mach) (l : Int) : Int := cl m.t l.toNat
theorem run_sm {m : Mach} (hm : MOk m) {ws : List Int} (hw : ∀ x ∈ ws, 0 ≤ x ∧ x < (m.w : Int)) : runD (nxT (smM m).t) (smM m).fs (ws.map (clz m)) = runD (nxT m.t) m.fs ws := by
  have e : rn (nxT (smM m).t) 0 (ws.map (clz m)) = rn (nxT m.t) 0 ws := rn_map (P := fun r => 0 ≤ r ∧ r < (m.t.length : Int)) ⟨by omega, by have := hm.t1; omega⟩ fun r l hr hl => by
    obtain ⟨b1, b2⟩ := hw l hl
    exact ⟨nx_sm hr.1 hr.2 b1 b2, fun g hg => nxT_ok hm hr.1 hr.2 b1 b2 hg⟩
  unfold runD
  rw [e]; rfl
theorem clz_ok {m : Mach} {l : Int} (h0 : 0 ≤ l) (h1 : l < m.w) : 0 ≤ clz m l ∧ clz m l < ((smM m).w : Int) := cl_lt (by omega)
/-- the first letter that has its class -/
def tw6 (m : Mach) (l : Int) : Int := (fst6 m (clz m l).toNat : Nat)
theorem tw6_ok {m : Mach} {l : Int} (h0 : 0 ≤ l) (h1 : l < m.w) : 0 ≤ tw6 m l ∧ tw6 m l < (m.w : Int) ∧ clz m (tw6 m l) = clz m l := by
  obtain ⟨c0, c1⟩ := clz_ok h0 h1
  obtain ⟨g1, g2⟩ := fst6_ok (m := m) (c := (clz m l).toNat) (by have : ((smM m).w : Int) = ((known m.t m.w).length : Int) := rfl; omega)
  unfold tw6
  refine ⟨by omega, by omega, ?_⟩
  unfold clz at g2 ⊢
  rw [Int.toNat_natCast, g2]
  unfold clz at c0
  omega
theorem run_tw {m : Mach} (hm : MOk m) {ws : List Int} (hw : ∀ x ∈ ws, 0 ≤ x ∧ x < (m.w : Int)) : runD (nxT m.t) m.fs (ws.map (tw6 m)) = runD (nxT m.t) m.fs ws := by
  have h1 : ∀ x ∈ ws.map (tw6 m), 0 ≤ x ∧ x < (m.w : Int) := fun x hx => by
    obtain ⟨l, hl, rfl⟩ := List.mem_map.mp hx
    have := tw6_ok (hw l hl).1 (hw l hl).2
    exact ⟨this.1, this.2.1⟩
  rw [← run_sm hm h1, ← run_sm hm hw, List.map_map]
  congr 1
  refine List.map_congr_left fun l hl => ?_
  exact (tw6_ok (hw l hl).1 (hw l hl).2).2.2
/-! ### classed again -/
theorem sm_col {m : Mach} {c : Nat} (h : c < (known m.t m.w).length) : (known m.t m.w)[c]? = some (col (smM m).t c) := by
  obtain ⟨g1, g2⟩ := fst6_ok h
  rw [cl_col g1 g2]
  congr 1
  unfold col smM smallT
  rw [List.map_map]
  refine List.map_congr_left fun r hr => ?_
  exact (sm_row (r := r) h).symm
theorem sm_known {m : Mach} : ∀ {c : Nat}, c ≤ (known m.t m.w).length → known (smM m).t c = (known m.t m.w).take c
  | 0, _ => rfl
  | c + 1, h => by
    have e := sm_col (m := m) (c := c) (by omega)
    rw [known, sm_known (by omega), List.take_add_one, e, addC, if_neg]
    · rfl
    · intro hm
      obtain ⟨i, hi, e2⟩ := List.getElem_of_mem hm
      rw [List.length_take] at hi
      rw [List.getElem_take] at e2
      have e3 : (known m.t m.w)[i]? = some (col (smM m).t c) := by rw [List.getElem?_eq_getElem (by omega), e2]
      have := (List.getElem?_inj (by omega) (known_nd (t := m.t) (k := m.w))).mp (e3.trans e.symm)
      omega
theorem sm_cl {m : Mach} {c : Nat} (h : c < (known m.t m.w).length) : cl (smM m).t c = (c : Int) := by
  have e := sm_col (m := m) h
  rw [cl_at (k := (known m.t m.w).length) h, sm_known (Nat.le_refl _), List.take_length]
  have hm : col (smM m).t c ∈ known m.t m.w := List.mem_of_getElem? e
  have hl := List.idxOf_lt_length_of_mem hm
  have e2 : (known m.t m.w)[(known m.t m.w).idxOf (col (smM m).t c)]? = some (col (smM m).t c) := by rw [List.getElem?_eq_getElem hl, List.getElem_idxOf]
  have := (List.getElem?_inj hl (known_nd (t := m.t) (k := m.w))).mp (e2.trans e.symm)
  omega
theorem sm_cls {m : Mach} : cls (smM m).t (smM m).w = (List.range (smM m).w).map fun (c : Nat) => (c : Int) := by
  unfold cls
  refine List.map_congr_left fun c hc => sm_cl (List.mem_range.mp hc)
theorem idx_range {n c : Nat} (h : c < n) : ((List.range n).map fun (c : Nat) => (c : Int)).idxOf (c : Int) = c := by
  have nd : ((List.range n).map fun (c : Nat) => (c : Int)).Nodup := by
    rw [List.nodup_iff_pairwise_ne, List.pairwise_map]
    exact List.nodup_range.imp fun h => by omega
  have hm : (c : Int) ∈ (List.range n).map fun (c : Nat) => (c : Int) := List.mem_map.mpr ⟨c, List.mem_range.mpr h, rfl⟩
  have hl := List.idxOf_lt_length_of_mem hm
  have e2 := List.getElem_idxOf hl
  have e1 : ((List.range n).map fun (c : Nat) => (c : Int))[c]? = some (c : Int) := by rw [List.getElem?_map, List.getElem?_range h]; rfl
  have e3 : ((List.range n).map fun (c : Nat) => (c : Int))[((List.range n).map fun (c : Nat) => (c : Int)).idxOf (c : Int)]? = some (c : Int) := by rw [List.getElem?_eq_getElem hl, e2]
  exact (List.getElem?_inj hl nd).mp (e3.trans e1.symm)
theorem sm_sm {m : Mach} (hm : MOk m) : smM (smM m) = smM m := by
  have hkn : known (smM m).t (smM m).w = known m.t m.w := by
    show known (smM m).t (known m.t m.w).length = _
    rw [sm_known (Nat.le_refl _), List.take_length]
  have hw : (known (smM m).t (smM m).w).length = (smM m).w := by rw [hkn]; rfl
  have hs := sm_ok hm
  have ht : smallT (smM m).t (cls (smM m).t (smM m).w) (smM m).w = (smM m).t := by
    unfold smallT
    have hid : ∀ r ∈ (smM m).t, ((firsts (cls (smM m).t (smM m).w) (smM m).w).map fun l => cell r l) = r := fun r hr => by
      have hl := (hs.rows r hr).1
      refine List.ext_getElem? fun i => ?_
      unfold firsts
      rw [List.map_map, List.getElem?_map]
      by_cases hi : i < (smM m).w
      · rw [List.getElem?_range hi]
        show some (cell r ((cls (smM m).t (smM m).w).idxOf (i : Int))) = _
        rw [sm_cls, idx_range hi]
        unfold cell
        rw [List.getD_eq_getElem?_getD, List.getElem?_eq_getElem (by omega)]; rfl
      · rw [List.getElem?_eq_none (by simpa using hi), List.getElem?_eq_none (by omega)]; rfl
    exact (List.map_congr_left hid).trans (List.map_id _)
  unfold smM at hw ht ⊢
  simp only [Mach.mk.injEq, and_true]
  simp only at hw ht
  rw [hw]
  exact ⟨rfl, ht⟩
theorem classed_sm {m : Mach} (hm : MOk m) : classedD (smM m) = .tup [.tup (rangeD 0 ((smM m).w : Int)), machD (smM m)] := by
  rw [classedD_sm, sm_sm hm, sm_cls, List.map_map, range0]; rfl
/-! ### counted -/
theorem dd6 (ns : List Int) : (ddI ns).Nodup ∧ ∀ k, k ∈ ddI ns ↔ k ∈ ns := by
  have dd : ∀ (ns acc : List Int), acc.Nodup → (ns.foldl (fun acc x => if acc.any (· == x) then acc else acc ++ [x]) acc).Nodup ∧ ∀ k, k ∈ ns.foldl (fun acc x => if acc.any (· == x) then acc else acc ++ [x]) acc ↔ k ∈ acc ∨ k ∈ ns := by
    intro ns
    induction ns with
    | nil => intro acc h; exact ⟨h, by simp⟩
    | cons x ns ih =>
      intro acc h
      rw [List.foldl_cons]
      by_cases hx : x ∈ acc
      · rw [if_pos (List.any_eq_true.mpr ⟨x, hx, by simp⟩)]
        obtain ⟨g1, g2⟩ := ih acc h
        refine ⟨g1, fun k => ?_⟩
        rw [g2, List.mem_cons]
        constructor
        · rintro (z | z) <;> simp [z]
        · rintro (z | z | z)
          · exact .inl z
          · exact .inl (by rw [z]; exact hx)
          · exact .inr z
      · rw [if_neg (by simpa using hx)]
        obtain ⟨g1, g2⟩ := ih (acc ++ [x]) (by
          rw [List.nodup_append]
          exact ⟨h, by simp, fun a ha b hb e => hx (by rw [List.mem_singleton] at hb; rw [← hb, ← e]; exact ha)⟩)
        refine ⟨g1, fun k => ?_⟩
        rw [g2]
        simp [or_assoc]
  obtain ⟨d1, d2⟩ := dd ns [] List.nodup_nil
  exact ⟨d1, fun k => by have := d2 k; simpa [ddI] using this⟩
theorem len_cls {m : Mach} (hm : MOk m) : lenSet (.tup ((cls m.t m.w).map D.int)) = some (.int ((smM m).w : Nat)) := by
  have hw2 := hm.w2
  have hl : (cls m.t m.w).length ≤ 1000 := by rw [cls_len]; omega
  have e : (ddI (cls m.t m.w)).length = (smM m).w := by
    obtain ⟨d1, d2⟩ := dd6 (cls m.t m.w)
    have nd : ((List.range (smM m).w).map fun (c : Nat) => (c : Int)).Nodup := by
      rw [List.nodup_iff_pairwise_ne, List.pairwise_map]
      exact List.nodup_range.imp fun h => by omega
    have := ((List.perm_ext_iff_of_nodup d1 nd).mpr fun k => by
      rw [d2]
      constructor
      · intro hk
        obtain ⟨l, hl, rfl⟩ := List.mem_map.mp hk
        obtain ⟨c0, c1⟩ := cl_lt (t := m.t) (List.mem_range.mp hl)
        exact List.mem_map.mpr ⟨(cl m.t l).toNat, List.mem_range.mpr (by show _ < (known m.t m.w).length; omega), by omega⟩
      · intro hk
        obtain ⟨c, hc, rfl⟩ := List.mem_map.mp hk
        exact cls_all (List.mem_range.mp hc)).length_eq
    simpa using this
  simp only [lenSet, ints_map, hl, if_true, e]
theorem len_cols {m : Mach} (hm : MOk m) : lenSet (.lst ((List.range (smM m).w).map fun c => rowD (col (smM m).t c))) = some (.int ((smM m).w : Nat)) := by
  have hk := known_le (t := m.t) (k := m.w)
  have hp := known_pos (t := m.t) hm.w1
  have hw2 := hm.w2
  have e : ((List.range (smM m).w).map fun c => rowD (col (smM m).t c)) = (known m.t m.w).map rowD := by
    refine List.ext_getElem? fun i => ?_
    rw [List.getElem?_map, List.getElem?_map]
    by_cases hi : i < (smM m).w
    · rw [List.getElem?_range hi, sm_col (show i < (known m.t m.w).length from hi)]; rfl
    · rw [List.getElem?_eq_none (by simpa using hi), List.getElem?_eq_none (by show (known m.t m.w).length ≤ i; have : (smM m).w = (known m.t m.w).length := rfl; omega)]; rfl
  rw [e]
  have hn : ints? ((known m.t m.w).map rowD) = none := by
    cases hk : known m.t m.w with
    | nil => rw [hk] at hp; simp at hp
    | cons c cs => rfl
  have h1 : ((known m.t m.w).map rowD).all isRow0 = true := by
    rw [List.all_eq_true]
    intro x hx
    obtain ⟨r, _, rfl⟩ := List.mem_map.mp hx
    unfold rowD isRow0
    rw [List.all_eq_true]
    intro y hy
    obtain ⟨z, _, rfl⟩ := List.mem_map.mp hy
    cases z <;> rfl
  have h2 : ∀ {l : List Col}, l.Nodup → noTwo (l.map rowD) = true := by
    intro l
    induction l with
    | nil => exact fun _ => rfl
    | cons c l ih =>
      intro nd
      obtain ⟨n1, n2⟩ := List.nodup_cons.mp nd
      simp only [List.map_cons, noTwo, Bool.and_eq_true]
      refine ⟨?_, ih n2⟩
      rw [List.all_eq_true]
      intro x hx
      obtain ⟨r, hr, rfl⟩ := List.mem_map.mp hx
      rw [eqv_row]
      simp
      rintro rfl
      exact n1 hr
  simp only [lenSet, hn, h1, h2 known_nd, Bool.and_self, Bool.true_and, List.length_map]
  rw [if_pos (by rw [decide_eq_true_iff]; omega)]
  rfl
end Dl
/-! K06b: the law k06 over data. -/
namespace Dl
open PySem (Str)
def N_law : List Str := ["_law_script", "_law_row", "_law_turn", "_law_machine_here", "_law_columns", "_law_classes", "_law_small", "_law_word", "_law_some", "_law_twins", "_law_number", "_law_letter", "_law_line"]
def B_law_1 : E := (.idx (.nm 5 (.nm 11 .nil)))
def B_law_2 : E := .comp B_law_1 (.nm 11) (.seqN 7) .nil [("_law_letter", 11)]
def B_law_3 : E := (.mr .index 5 (.nm 10 .nil))
def B_law_4 : E := .comp B_law_3 (.nm 10) (.seqN 8) .nil [("_law_number", 10)]
def B_law_5 : List S := [.asg 7 (.fn "_law_word_of" (.nm 1 (.nm 3 (.cons (.c (.int 40)) .nil)))), .asg 8 B_law_2, .asg 9 B_law_4, .ite (.or (.cmp .ne (.cons (.fn "run" (.nm 3 (.nm 7 .nil))) (.cons (.fn "run" (.nm 6 (.nm 8 .nil))) .nil))) (.cmp .ne (.cons (.fn "run" (.nm 3 (.nm 9 .nil))) (.cons (.fn "run" (.nm 6 (.nm 8 .nil))) .nil)))) [.ret (.c (.bl false))] []]
def B_law_6 : S := .for_ (.nm 2) (.rng1 (.c (.int 4))) B_law_5
def B_law_7 : E := (.idx (.nm 12 (.nm 10 .nil)))
def B_law_8 : E := .comp B_law_7 (.nm 12) (.seq (.idx (.nm 6 (.cons (.c (.int 1)) .nil)))) .nil [("_law_line", 12)]
def B_law_9 : E := (.bf .tuple (.cons B_law_8 .nil))
def B_law_10 : E := .comp B_law_9 (.nm 10) (.rng1 (.idx (.nm 6 (.cons (.c (.int 0)) .nil)))) .nil [("_law_number", 10)]
def B_law_11 : List S := [.asg 3 (.fn "_law_machine" (.nm 1 (.cons (.c (.int 12)) (.cons (.c (.int 10)) .nil)))), .unp [5, 6] (.fn "classed" (.nm 3 .nil)), B_law_6, .ite (.or (.cmp .ne (.cons (.fn "classed" (.nm 6 .nil)) (.cons (.tup (.cons (.lrng true false (.pl (.nm 6 (.cons (.c (.int 0)) .nil)) .nil)) (.cons (.v 6) .nil))) .nil))) (.cmp .ne (.cons (.lenS (.nm 5 .nil)) (.pl (.nm 6 (.cons (.c (.int 0)) .nil)) .nil)))) [.ret (.c (.bl false))] [], .asg 4 B_law_10, .ite (.or (.cmp .lt (.cons (.lenS (.nm 4 .nil)) (.cons (.bf .len (.nm 4 .nil)) .nil))) (.cmp .ne (.pl (.nm 6 (.cons (.c (.int 2)) .nil)) (.pl (.nm 3 (.cons (.c (.int 2)) .nil)) .nil)))) [.ret (.c (.bl false))] []]
def B_law_12 : S := .for_ (.nm 2) (.rng1 (.c (.int 3))) B_law_11
def B_law : List S := [.asg 1 (.lst (.cons (.v 0) (.cons (.c (.int 0)) (.cons (.c (.int 0)) (.cons (.c (.int 0)) .nil))))), B_law_12, .ret (.c (.bl true))]
abbrev s06 (s0 : Option D) (dd : D) (a2 : Option D) (m : Mach) (a4 a7 a8 a9 : Option D) : DS := [s0, some dd, a2, some (machD m), a4, some (.tup ((cls m.t m.w).map D.int)), some (machD (smM m)), a7, a8, a9, none, none, none]
abbrev r06 : DS := [none, none, none, none, none, none, none, none, none, none, none, none, none]
theorem run_plain {s : Int → Int → Option Int} {fs ws : List Int} : (runD s fs ws).plain = true := by
  unfold runD roomsD sD D.plain
  simp only [plainN, plainAllN, Bool.and_true]
  rw [plainAll_iff]
  intro x hx
  obtain ⟨y, _, rfl⟩ := List.mem_map.mp hx
  simp [plainN]
theorem run_ne {s : Int → Int → Option Int} {fs ws : List Int} : cmpop .ne (runD s fs ws) (runD s fs ws) = some false := by
  rw [c_neP run_plain run_plain, eqv_refl 60 _ run_plain]; rfl
theorem l06_2 {Φ : Phi} {s0 : Option D} {dd : D} {m : Mach} {a2 a4 a8 a9 : Option D} {ws : List Int} {Q : D → DS → Prop} (hw : ∀ x ∈ ws, 0 ≤ x ∧ x < (m.w : Int)) (hl : ws.length ≤ 200)
  (q : Q (wordD (ws.map (clz m))) (s06 s0 dd a2 m a4 (some (wordD ws)) a8 a9)) : wE Φ B_law_2 r06 (s06 s0 dd a2 m a4 (some (wordD ws)) a8 a9) Q := by
  have hcl : ∀ x ∈ ws, atZ ((cls m.t m.w).map D.int) x = some (.int (clz m x)) := fun x hx => by
    obtain ⟨h0, h1⟩ := hw x hx
    refine atZ_of (k := x.toNat) (by omega) ?_
    rw [List.getElem?_map, cls_get (by omega)]; rfl
  have hll : ws.length ≤ lim := by unfold lim; omega
  have hci := immut_ints (ns := cls m.t m.w)
  unfold B_law_2 wordD at *
  simp [wE, wE2, wAs, wVs, wT, wIt, wS, wSs.eq_1, startR, startS, endOf, outs, List.zip_cons_cons, hide_nil, hide_cons, restore_nil, restore_cons, lock, setAll, hll]
  refine wComp_ty D.int (fun _ => true) (fun x => .int (clz m x)) rfl (fun x hx Q kk => ?_) ?_
  · rw [setTg]
    refine kk _ ⟨fun Q q => q, fun _ Q q => ?_⟩
    simp [wE, wE2, wAs, wVs, wT, wIt, wS, wSs.eq_1, startR, startS, endOf, outs, List.zip_cons_cons, hide_nil, hide_cons, restore_nil, restore_cons, lock, setAll, B_law_1, hcl x hx]
    exact q
  · rw [List.nil_append, List.filter_eq_self.mpr fun _ _ => rfl]
    rw [List.map_map] at q
    simp [wE, wE2, wAs, wVs, wT, wIt, wS, wSs.eq_1, startR, startS, endOf, outs, List.zip_cons_cons, hide_nil, hide_cons, restore_nil, restore_cons, lock, setAll]
    exact q
theorem l06_4 {Φ : Phi} {s0 : Option D} {dd : D} {m : Mach} {a2 a4 a7 a9 : Option D} {ws : List Int} {Q : D → DS → Prop} (hw : ∀ x ∈ ws, 0 ≤ x ∧ x < (m.w : Int)) (hl : ws.length ≤ 200)
  (q : Q (wordD (ws.map (tw6 m))) (s06 s0 dd a2 m a4 a7 (some (wordD (ws.map (clz m)))) a9)) : wE Φ B_law_4 r06 (s06 s0 dd a2 m a4 a7 (some (wordD (ws.map (clz m)))) a9) Q := by
  have hix : ∀ x ∈ ws, mread .index (.tup ((cls m.t m.w).map D.int)) [.int (clz m x)] = some (.int (tw6 m x)) := fun x hx => by
    obtain ⟨h0, h1⟩ := hw x hx
    obtain ⟨c0, c1⟩ := clz_ok h0 h1
    have hm : clz m x ∈ cls m.t m.w := List.mem_map.mpr ⟨x.toNat, List.mem_range.mpr (by omega), rfl⟩
    rw [(mr_int hm).1]
    unfold tw6 fst6
    rw [show (((clz m x).toNat : Nat) : Int) = clz m x by omega]
  have hll : ws.length ≤ lim := by unfold lim; omega
  have hci := immut_ints (ns := cls m.t m.w)
  unfold B_law_4 wordD at *
  rw [List.map_map] at *
  simp [wE, wE2, wAs, wVs, wT, wIt, wS, wSs.eq_1, startR, startS, endOf, outs, List.zip_cons_cons, hide_nil, hide_cons, restore_nil, restore_cons, lock, setAll, hll]
  refine wComp_ty (fun x => D.int (clz m x)) (fun _ => true) (fun x => .int (tw6 m x)) rfl (fun x hx Q kk => ?_) ?_
  · rw [setTg]
    refine kk _ ⟨fun Q q => q, fun _ Q q => ?_⟩
    have := hix x hx
    generalize (cls m.t m.w).map D.int = CS at *
    simp [wE, wE2, wAs, wVs, wT, wIt, wS, wSs.eq_1, startR, startS, endOf, outs, List.zip_cons_cons, hide_nil, hide_cons, restore_nil, restore_cons, lock, setAll, B_law_3, mrOk, this]
    exact q
  · rw [List.nil_append, List.filter_eq_self.mpr fun _ _ => rfl]
    rw [List.map_map] at q
    simp [wE, wE2, wAs, wVs, wT, wIt, wS, wSs.eq_1, startR, startS, endOf, outs, List.zip_cons_cons, hide_nil, hide_cons, restore_nil, restore_cons, lock, setAll]
    exact q
theorem l06_5 {Φ : Phi} (h1 : Φ "_law_word_of" = some spWordOf) (h2 : Φ "run" = some spRun) {s0 : Option D} {dd : D} {m : Mach} {a2 a4 a7 a8 a9 : Option D} {N : Ends} (hd : rowOk dd) (hm : MOk m)
  (go : ∀ dd a7 a8 a9, rowOk dd → N.nx (s06 s0 dd a2 m a4 a7 a8 a9)) : wSs Φ B_law_5 r06 N (s06 s0 dd a2 m a4 a7 a8 a9) := by
  unfold B_law_5
  (try dsimp only); rw [wSs.eq_2]
  simp [wE, wE2, wAs, wVs, wT, wIt, wS, wSs.eq_1, startR, startS, endOf, outs, List.zip_cons_cons, hide_nil, hide_cons, restore_nil, restore_cons, lock, setAll, h1, spWordOf, ioSlots, putIO, isRw]
  refine ⟨dd, m, 40, ⟨rfl, rfl, rfl⟩, hd, hm, by omega, by omega, fun d1 ws hd1 hl hw => ?_⟩
  have hl2 : ws.length ≤ 200 := by omega
  (try dsimp only); rw [wSs.eq_2]
  rw [wS]
  refine l06_2 hw hl2 ?_
  (try dsimp only); rw [wSs.eq_2]
  rw [wS]
  refine l06_4 hw hl2 ?_
  (try dsimp only); rw [wSs.eq_2]
  have hs := sm_ok hm
  have w1 : WOk m.w ws := ⟨hl2, hw⟩
  have w2 : WOk (smM m).w (ws.map (clz m)) := ⟨by simpa using hl2, fun x hx => by
    obtain ⟨y, hy, rfl⟩ := List.mem_map.mp hx
    exact clz_ok (hw y hy).1 (hw y hy).2⟩
  have w3 : WOk m.w (ws.map (tw6 m)) := ⟨by simpa using hl2, fun x hx => by
    obtain ⟨y, hy, rfl⟩ := List.mem_map.mp hx
    have := tw6_ok (hw y hy).1 (hw y hy).2
    exact ⟨this.1, this.2.1⟩⟩
  have e1 := run_sm hm hw
  have e2 := run_tw hm hw
  have e3 := run_ne (s := nxT m.t) (fs := m.fs) (ws := ws)
  have mi := machD_imm (m := m)
  have smi := machD_imm (m := smM m)
  generalize hW : wordD ws = W at *
  generalize hW2 : wordD (ws.map (clz m)) = W2 at *
  generalize hW3 : wordD (ws.map (tw6 m)) = W3 at *
  have i1 : W.immut = false := by rw [← hW]; rfl
  have i2 : W2.immut = false := by rw [← hW2]; rfl
  have i3 : W3.immut = false := by rw [← hW3]; rfl
  simp [wE, wE2, wAs, wVs, wT, wIt, wS, wSs.eq_1, startR, startS, endOf, outs, List.zip_cons_cons, hide_nil, hide_cons, restore_nil, restore_cons, lock, setAll, h2, spRun]
  refine ⟨m, ws, ⟨rfl, hW.symm⟩, hm, w1, ?_⟩
  refine ⟨smM m, ws.map (clz m), ⟨rfl, hW2.symm⟩, hs, w2, ?_⟩
  rw [e1, e3]
  simp
  refine ⟨m, ws.map (tw6 m), ⟨rfl, hW3.symm⟩, hm, w3, ?_⟩
  refine ⟨smM m, ws.map (clz m), ⟨rfl, hW2.symm⟩, hs, w2, ?_⟩
  rw [e1, e2, e3]
  simp
  exact go _ _ _ _ hd1
theorem l06_6 {Φ : Phi} (h1 : Φ "_law_word_of" = some spWordOf) (h2 : Φ "run" = some spRun) {s0 : Option D} {dd : D} {m : Mach} {a2 a4 a7 a8 a9 : Option D} {N : Ends} (hd : rowOk dd) (hm : MOk m)
  (go : ∀ dd a2 a7 a8 a9, rowOk dd → N.nx (s06 s0 dd a2 m a4 a7 a8 a9)) : wS Φ B_law_6 r06 N (s06 s0 dd a2 m a4 a7 a8 a9) := by
  unfold B_law_6
  refine wS_rng 0 4 (fun j st => ∃ dd a2 a7 a8 a9, rowOk dd ∧ st = s06 s0 dd a2 m a4 a7 a8 a9) (fun Q q => ?_) (by omega) ⟨dd, a2, a7, a8, a9, hd, rfl⟩ ?_ ?_
  · simp [wE, wE2, wAs, wVs, wT, wIt, wS, wSs.eq_1, startR, startS, endOf, outs, List.zip_cons_cons, hide_nil, hide_cons, restore_nil, restore_cons, lock, setAll]; exact ⟨small_of (by omega) (by omega), q⟩
  · rintro j st hj ⟨dd, a2, a7, a8, a9, hd, rfl⟩ Kn ih
    exact l06_5 h1 h2 hd hm fun dd a7 a8 a9 hd' => ih _ ⟨dd, _, a7, a8, a9, hd', rfl⟩
  · rintro j st ⟨dd, a2, a7, a8, a9, hd, rfl⟩ hj
    exact go _ _ _ _ _ hd
/-- the columns -/
theorem l06_10 {Φ : Phi} {s0 : Option D} {dd : D} {m : Mach} {a2 a4 a7 a8 a9 : Option D} {Q : D → DS → Prop} (hm : MOk m)
  (q : Q (.lst ((List.range (smM m).w).map fun c => rowD (col (smM m).t c))) (s06 s0 dd a2 m a4 a7 a8 a9)) : wE Φ B_law_10 r06 (s06 s0 dd a2 m a4 a7 a8 a9) Q := by
  have hs := sm_ok hm
  have hw2 := hs.w2
  have ht2 := hs.t2
  have smi := machD_imm (m := smM m)
  have i0 : index (machD (smM m)) (.int 0) = some (.int ((smM m).w : Int)) := rfl
  have i1 : index (machD (smM m)) (.int 1) = some (tblD (smM m).t) := rfl
  have htb := tblD_imm (t := (smM m).t)
  have hwk : walk? (tblD (smM m).t) = some ((smM m).t.map rowD) := rfl
  unfold B_law_10
  simp [wE, wE2, wAs, wVs, wT, wIt, wS, wSs.eq_1, startR, startS, endOf, outs, List.zip_cons_cons, hide_nil, hide_cons, restore_nil, restore_cons, lock, setAll, i0]
  refine ⟨small_of (by omega) (by omega), by rw [range_len]; unfold lim; omega, ?_⟩
  rw [range0]
  refine wComp_ty (fun (c : Nat) => D.int (c : Int)) (fun _ => true) (fun c => rowD (col (smM m).t c)) rfl (fun c hc Q kk => ?_) ?_
  · have hc := List.mem_range.mp hc
    rw [setTg]
    refine kk _ ⟨fun Q q => q, fun _ Q q => ?_⟩
    simp [wE, wE2, wAs, wVs, wT, wIt, wS, wSs.eq_1, startR, startS, endOf, outs, List.zip_cons_cons, hide_nil, hide_cons, restore_nil, restore_cons, lock, setAll, B_law_9, B_law_8, i1, hwk]
    refine ⟨by unfold lim; omega, ?_⟩
    refine wComp_ty rowD (fun _ => true) (fun r => encO (cell r c)) rfl (fun r hr Q kk => ?_) ?_
    · rw [setTg]
      refine kk _ ⟨fun Q q => q, fun _ Q q => ?_⟩
      have hcell : index (rowD r) (.int (c : Int)) = some (encO (cell r c)) := row_at (by rw [(hs.rows r hr).1]; exact hc)
      simp [wE, wE2, wAs, wVs, wT, wIt, wS, wSs.eq_1, startR, startS, endOf, outs, List.zip_cons_cons, hide_nil, hide_cons, restore_nil, restore_cons, lock, setAll, B_law_7, hcell]
      exact q
    · rw [List.nil_append, List.filter_eq_self.mpr fun _ _ => rfl]
      have e : ((smM m).t.map fun r => encO (cell r c)) = (col (smM m).t c).map encO := by unfold col; rw [List.map_map]; rfl
      rw [e]
      have him := enc_imm (r := col (smM m).t c)
      simp [wE, wE2, wAs, wVs, wT, wIt, wS, wSs.eq_1, startR, startS, endOf, outs, List.zip_cons_cons, hide_nil, hide_cons, restore_nil, restore_cons, lock, setAll, him]
      exact q
  · rw [List.nil_append, List.filter_eq_self.mpr fun _ _ => rfl]
    simpa [wE, wE2, wAs, wVs, wT, wIt, wS, wSs.eq_1, startR, startS, endOf, outs, List.zip_cons_cons, hide_nil, hide_cons, restore_nil, restore_cons, lock, setAll] using q
abbrev s06a (s0 : Option D) (dd : D) (a2 a3 a4 a5 a6 a7 a8 a9 : Option D) : DS := [s0, some dd, a2, a3, a4, a5, a6, a7, a8, a9, none, none, none]
theorem mach_ne {m : Mach} : cmpop .ne (.tup [.tup (rangeD 0 ((smM m).w : Int)), machD (smM m)]) (.tup [.tup (rangeD 0 ((smM m).w : Int)), machD (smM m)]) = some false := by
  have hp : (D.tup [.tup (rangeD 0 ((smM m).w : Int)), machD (smM m)]).plain = true := by
    unfold D.plain machD tblD
    simp only [plainN, plainAllN, Bool.and_true, Bool.true_and, Bool.and_eq_true]
    refine ⟨?_, plain_rows, ?_⟩
    · rw [plainAll_iff, range0]
      intro x hx
      obtain ⟨y, _, rfl⟩ := List.mem_map.mp hx
      simp [plainN]
    · rw [plainAll_iff]
      intro x hx
      obtain ⟨y, _, rfl⟩ := List.mem_map.mp hx
      simp [plainN]
  rw [c_neP hp hp, eqv_refl 60 _ hp]; rfl
theorem ints_ne {fs : List Int} : cmpop .ne (.tup (fs.map D.int)) (.tup (fs.map D.int)) = some false := by
  have hp : (D.tup (fs.map D.int)).plain = true := by
    unfold D.plain
    simp only [plainN]
    rw [plainAll_iff]
    intro x hx
    obtain ⟨y, _, rfl⟩ := List.mem_map.mp hx
    simp [plainN]
  rw [c_neP hp hp, eqv_refl 60 _ hp]; rfl
theorem l06_11 {Φ : Phi} (h1 : Φ "_law_word_of" = some spWordOf) (h2 : Φ "run" = some spRun) (h3 : Φ "classed" = some spClassed) (h4 : Φ "_law_machine" = some spMach) {s0 : Option D} {dd : D} {a2 a3 a4 a5 a6 a7 a8 a9 : Option D} {N : Ends} (hd : rowOk dd)
  (go : ∀ dd a2 a3 a4 a5 a6 a7 a8 a9, rowOk dd → N.nx (s06a s0 dd a2 a3 a4 a5 a6 a7 a8 a9)) : wSs Φ B_law_11 r06 N (s06a s0 dd a2 a3 a4 a5 a6 a7 a8 a9) := by
  unfold B_law_11
  (try dsimp only); rw [wSs.eq_2]
  simp [wE, wE2, wAs, wVs, wT, wIt, wS, wSs.eq_1, startR, startS, endOf, outs, List.zip_cons_cons, hide_nil, hide_cons, restore_nil, restore_cons, lock, setAll, h4, spMach, ioSlots, putIO, isRw]
  refine ⟨hd, fun d1 m hd1 hm _ _ => ?_⟩
  have hs := sm_ok hm
  have mi := machD_imm (m := m)
  have smi := machD_imm (m := smM m)
  have hci := immut_ints (ns := cls m.t m.w)
  have hw2 := hs.w2
  (try dsimp only); rw [wSs.eq_2]
  simp [wE, wE2, wAs, wVs, wT, wIt, wS, wSs.eq_1, startR, startS, endOf, outs, List.zip_cons_cons, hide_nil, hide_cons, restore_nil, restore_cons, lock, setAll, h3, spClassed]
  refine ⟨m, rfl, hm, ?_⟩
  rw [classedD_sm]
  simp [wE, wE2, wAs, wVs, wT, wIt, wS, wSs.eq_1, startR, startS, endOf, outs, List.zip_cons_cons, hide_nil, hide_cons, restore_nil, restore_cons, lock, setAll]
  (try dsimp only); rw [wSs.eq_2]
  refine l06_6 h1 h2 hd1 hm fun d2 b2 b7 b8 b9 hd2 => ?_
  have i0 : index (machD (smM m)) (.int 0) = some (.int ((smM m).w : Int)) := rfl
  have i2 : index (machD (smM m)) (.int 2) = some (.tup (m.fs.map D.int)) := rfl
  have j2 : index (machD m) (.int 2) = some (.tup (m.fs.map D.int)) := rfl
  have hne := mach_ne (m := m)
  have hcl := len_cls hm
  have hco := len_cols hm
  have hfi := ints_ne (fs := m.fs)
  have hsm : smallI ((smM m).w : Int) = true := small_of (by omega) (by omega)
  have hl2 : 2 ≤ lim := by decide
  have hne2 : cmpop .ne (.int ((smM m).w : Int)) (.int ((smM m).w : Int)) = some false := by simp [cmpop, eqv]
  (try dsimp only); rw [wSs.eq_2]
  simp [wE, wE2, wAs, wVs, wT, wIt, wS, wSs.eq_1, startR, startS, endOf, outs, List.zip_cons_cons, hide_nil, hide_cons, restore_nil, restore_cons, lock, setAll, h3, spClassed]
  refine ⟨smM m, rfl, hs, ?_⟩
  rw [classed_sm hm]
  simp [wE, wE2, wAs, wVs, wT, wIt, wS, wSs.eq_1, startR, startS, endOf, outs, List.zip_cons_cons, hide_nil, hide_cons, restore_nil, restore_cons, lock, setAll, i0, hsm, hl2, hne, hcl, hne2, lrngOf]
  (try dsimp only); rw [wSs.eq_2]
  rw [wS]
  refine l06_10 hm ?_
  (try dsimp only); rw [wSs.eq_2]
  have hlen : ((List.range (smM m).w).map fun c => rowD (col (smM m).t c)).length = (smM m).w := by simp
  generalize ((List.range (smM m).w).map fun c => rowD (col (smM m).t c)) = CO at *
  have hff := immut_ints (ns := m.fs)
  simp [wE, wE2, wAs, wVs, wT, wIt, wS, wSs.eq_1, startR, startS, endOf, outs, List.zip_cons_cons, hide_nil, hide_cons, restore_nil, restore_cons, lock, setAll, hco, hlen, i2, j2, hfi, hff]
  exact go _ _ _ _ _ _ _ _ _ hd2
theorem k_law06 {Φ : Phi} (h1 : Φ "_law_word_of" = some spWordOf) (h2 : Φ "run" = some spRun) (h3 : Φ "classed" = some spClassed) (h4 : Φ "_law_machine" = some spMach) : Keeps Φ 13 [] B_law (lawSp 63) := by
  intro ds Q h
  obtain ⟨ns, rfl, hl, h⟩ := h
  refine ⟨rfl, by simp, ?_⟩
  unfold B_law
  (try dsimp only); rw [wSs.eq_2]
  simp [wE, wE2, wAs, wVs, wT, wIt, wS, wSs.eq_1, startR, startS, endOf, outs, List.zip_cons_cons, hide_nil, hide_cons, restore_nil, restore_cons, lock, setAll, lawSp]
  refine ⟨by decide, ?_⟩
  (try dsimp only); rw [wSs.eq_2]
  unfold B_law_12
  refine wS_rng 0 3 (fun j st => ∃ dd a2 a3 a4 a5 a6 a7 a8 a9, rowOk dd ∧ st = s06a (some (.ro ns)) dd a2 a3 a4 a5 a6 a7 a8 a9) (fun Q q => ?_) (by omega) ⟨_, none, none, none, none, none, none, none, none, ⟨ns, 0, 0, 0, rfl, by omega, by omega, by omega, by omega⟩, rfl⟩ ?_ ?_
  · simp [wE, wE2, wAs, wVs, wT, wIt, wS, wSs.eq_1, startR, startS, endOf, outs, List.zip_cons_cons, hide_nil, hide_cons, restore_nil, restore_cons, lock, setAll]; exact ⟨small_of (by omega) (by omega), q⟩
  · rintro j st hj ⟨dd, a2, a3, a4, a5, a6, a7, a8, a9, hd, rfl⟩ Kn ih
    exact l06_11 h1 h2 h3 h4 hd fun dd a2 a3 a4 a5 a6 a7 a8 a9 hd' => ih _ ⟨dd, a2, a3, a4, a5, a6, a7, a8, a9, hd', rfl⟩
  · rintro j st ⟨dd, a2, a3, a4, a5, a6, a7, a8, a9, hd, rfl⟩ hj
    (try dsimp only); rw [wSs.eq_2]
    simp [wE, wE2, wAs, wVs, wT, wIt, wS, wSs.eq_1, startR, startS, endOf, outs, List.zip_cons_cons, hide_nil, hide_cons, restore_nil, restore_cons, lock, setAll]
    exact h
end Dl
/-! ### the text of law k06, its head -/
namespace Dl
open PySem PySem.Spec PyProof.Rows L2
def topS (i : Nat) : Stmt := PySem.Challenge.pw_pressedtables_k06_whole_classed_the_same.main.body.getD i (.Pass ⟨0, 0, 0, 0⟩)
def csL : List (String × K0) := [("MOST_LETTERS", .int 30), ("MOST_ROOMS", .int 40), ("MOST_WORD", .int 200), ("GOOD", .str "good"), ("BAD", .str "bad"), ("BROKEN", .str "broken")]
abbrev t_is_number : Stmt := topS 8
def NN_is_number : List Str := ["part", "low", "high"]
theorem sc_is_number : FnScope NN_is_number ["part", "low", "high"] (defScope t_is_number) := ⟨rfl, rfl, rfl, by decide +kernel, rfl, by decide +kernel, by decide +kernel⟩
theorem ch_is_number : chkSs NN_is_number csL (defScope t_is_number) (fun y => !(y == lamM) && !(y == actM)) (fxOf 3 []) B_is_number (defBody t_is_number) = true := by decide +kernel
abbrev t_are_rising : Stmt := topS 9
def NN_are_rising : List Str := ["part", "high", "one", "k"]
theorem sc_are_rising : FnScope NN_are_rising ["part", "high"] (defScope t_are_rising) := ⟨rfl, rfl, rfl, by decide +kernel, rfl, by decide +kernel, by decide +kernel⟩
theorem ch_are_rising : chkSs NN_are_rising csL (defScope t_are_rising) (fun y => !(y == lamM) && !(y == actM)) (fxOf 2 []) B_are_rising (defBody t_are_rising) = true := by decide +kernel
abbrev t_is_next : Stmt := topS 10
def NN_is_next : List Str := ["part", "rooms"]
theorem sc_is_next : FnScope NN_is_next ["part", "rooms"] (defScope t_is_next) := ⟨rfl, rfl, rfl, by decide +kernel, rfl, by decide +kernel, by decide +kernel⟩
theorem ch_is_next : chkSs NN_is_next csL (defScope t_is_next) (fun y => !(y == lamM) && !(y == actM)) (fxOf 2 []) B_is_next (defBody t_is_next) = true := by decide +kernel
abbrev t_is_row : Stmt := topS 11
def NN_is_row : List Str := ["part", "letters", "rooms", "one"]
theorem sc_is_row : FnScope NN_is_row ["part", "letters", "rooms"] (defScope t_is_row) := ⟨rfl, rfl, rfl, by decide +kernel, rfl, by decide +kernel, by decide +kernel⟩
theorem ch_is_row : chkSs NN_is_row csL (defScope t_is_row) (fun y => !(y == lamM) && !(y == actM)) (fxOf 3 []) B_is_row (defBody t_is_row) = true := by decide +kernel
abbrev t_need_machine : Stmt := topS 12
def NN_need_machine : List Str := ["machine", "letters", "table", "finals", "number", "row"]
theorem sc_need_machine : FnScope NN_need_machine ["machine"] (defScope t_need_machine) := ⟨rfl, rfl, rfl, by decide +kernel, rfl, by decide +kernel, by decide +kernel⟩
theorem ch_need_machine : chkSs NN_need_machine csL (defScope t_need_machine) (fun y => !(y == lamM) && !(y == actM)) (fxOf 1 []) B_need_machine (defBody t_need_machine) = true := by decide +kernel
abbrev t_need_word : Stmt := topS 13
def NN_need_word : List Str := ["letters", "word", "place", "letter"]
theorem sc_need_word : FnScope NN_need_word ["letters", "word"] (defScope t_need_word) := ⟨rfl, rfl, rfl, by decide +kernel, rfl, by decide +kernel, by decide +kernel⟩
theorem ch_need_word : chkSs NN_need_word csL (defScope t_need_word) (fun y => !(y == lamM) && !(y == actM)) (fxOf 2 []) B_need_word (defBody t_need_word) = true := by decide +kernel
abbrev t_run_by : Stmt := topS 22
def NN_run_by : List Str := ["step", "finals", "word", "rooms", "letter", "room"]
theorem sc_run_by : FnScope NN_run_by ["step", "finals", "word"] (defScope t_run_by) := ⟨rfl, rfl, rfl, by decide +kernel, rfl, by decide +kernel, by decide +kernel⟩
theorem ch_run_by : chkSs NN_run_by csL (defScope t_run_by) (fun y => !(y == lamM) && !(y == mkM)) (fxOf 3 []) B_run_by (defBody t_run_by) = true := by decide +kernel
abbrev t_run : Stmt := topS 23
def NN_run : List Str := ["machine", "word", "letters", "table", "finals", "room", "letter"]
theorem sc_run : FnScope NN_run ["machine", "word"] (defScope t_run) := ⟨rfl, rfl, rfl, by decide +kernel, rfl, by decide +kernel, by decide +kernel⟩
theorem ch_run : chkSs NN_run csL (defScope t_run) (fun y => !(y == actM)) (fxOf 2 []) B_run (defBody t_run) = true := by decide +kernel
abbrev t_classes_of : Stmt := topS 15
def NN_classes_of : List Str := ["letters", "table", "known", "found", "letter", "column", "row"]
theorem sc_classes_of : FnScope NN_classes_of ["letters", "table"] (defScope t_classes_of) := ⟨rfl, rfl, rfl, by decide +kernel, rfl, by decide +kernel, by decide +kernel⟩
theorem ch_classes_of : chkSs NN_classes_of csL (defScope t_classes_of) (fun y => !(y == lamM) && !(y == actM)) (fxOf 2 []) B_classes_of (defBody t_classes_of) = true := by decide +kernel
abbrev t_by_classes : Stmt := topS 16
def NN_by_classes : List Str := ["table", "classes", "firsts", "number", "row", "letter"]
theorem sc_by_classes : FnScope NN_by_classes ["table", "classes"] (defScope t_by_classes) := ⟨rfl, rfl, rfl, by decide +kernel, rfl, by decide +kernel, by decide +kernel⟩
theorem ch_by_classes : chkSs NN_by_classes csL (defScope t_by_classes) (fun y => !(y == lamM) && !(y == actM)) (fxOf 2 []) B_by_classes (defBody t_by_classes) = true := by decide +kernel
abbrev t_classed : Stmt := topS 17
def NN_classed : List Str := ["machine", "letters", "table", "finals", "classes", "small"]
theorem sc_classed : FnScope NN_classed ["machine"] (defScope t_classed) := ⟨rfl, rfl, rfl, by decide +kernel, rfl, by decide +kernel, by decide +kernel⟩
theorem ch_classed : chkSs NN_classed csL (defScope t_classed) (fun y => !(y == lamM) && !(y == actM)) (fxOf 1 []) B_classed (defBody t_classed) = true := by decide +kernel
abbrev t__law_taken : Stmt := topS 25
def NN__law_taken : List Str := ["_law_row", "_law_many", "_law_found", "_law_cell"]
theorem sc__law_taken : FnScope NN__law_taken ["_law_row", "_law_many"] (defScope t__law_taken) := ⟨rfl, rfl, rfl, by decide +kernel, rfl, by decide +kernel, by decide +kernel⟩
theorem ch__law_taken : chkSs NN__law_taken csL (defScope t__law_taken) (fun y => !(y == lamM) && !(y == actM)) (fxOf 2 []) B__law_taken (defBody t__law_taken) = true := by decide +kernel
abbrev t__law_machine : Stmt := topS 26
def NN__law_machine : List Str := ["_law_row", "_law_rooms", "_law_letters", "_law_alike", "_law_twins", "_law_holes", "_law_many", "_law_wide", "_law_table", "_law_room", "_law_line", "_law_letter", "_law_twin", "_law_goal", "_law_finals"]
theorem sc__law_machine : FnScope NN__law_machine ["_law_row", "_law_rooms", "_law_letters"] (defScope t__law_machine) := ⟨rfl, rfl, rfl, by decide +kernel, rfl, by decide +kernel, by decide +kernel⟩
theorem ch__law_machine : chkSs NN__law_machine csL (defScope t__law_machine) (fun y => !(y == lamM) && !(y == actM)) (fxOf 3 []) B__law_machine (defBody t__law_machine) = true := by decide +kernel
abbrev t__law_word_of : Stmt := topS 27
def NN__law_word_of : List Str := ["_law_row", "_law_machine_here", "_law_most", "_law_letters", "_law_table", "_law_finals", "_law_found", "_law_room", "_law_k", "_law_letter", "_law_some", "_law_one"]
theorem sc__law_word_of : FnScope NN__law_word_of ["_law_row", "_law_machine_here", "_law_most"] (defScope t__law_word_of) := ⟨rfl, rfl, rfl, by decide +kernel, rfl, by decide +kernel, by decide +kernel⟩
theorem ch__law_word_of : chkSs NN__law_word_of csL (defScope t__law_word_of) (fun y => !(y == lamM) && !(y == actM)) (fxOf 3 []) B__law_word_of (defBody t__law_word_of) = true := by decide +kernel
abbrev t_law : Stmt := topS 28
def NN_law : List Str := ["_law_script", "_law_row", "_law_turn", "_law_machine_here", "_law_columns", "_law_classes", "_law_small", "_law_word", "_law_some", "_law_twins", "_law_number", "_law_letter", "_law_line"]
theorem sc_law : FnScope NN_law ["_law_script"] (defScope t_law) := ⟨rfl, rfl, rfl, by decide +kernel, rfl, by decide +kernel, by decide +kernel⟩
theorem ch_law : chkSs NN_law csL (defScope t_law) (fun y => !(y == lamM) && !(y == actM)) (fxOf 1 []) B_law (defBody t_law) = true := by decide +kernel
section
variable {P : Program} {w : World} {K : PySem.W.Frag} {mg : Str → Option Value} {base : Heap}
theorem FunD.fun_ {x q : Str} {st : Stmt} {f : Addr} {fd : FuncData} (F : FunD K x q (defArgs st) (defBody st) (defScope st) [] [] f fd) : Fun K x q st f fd := by
  obtain ⟨⟨oc, od, dV, kV, doc, pm, an, cdv, ct, osl, h1, h2, h3, h4, h5⟩, h6⟩ := F
  rcases h4 with ⟨_, rfl⟩ | ⟨e, _⟩
  · exact ⟨⟨oc, od, kV, doc, pm, an, cdv, ct, osl, h1, h2, h3⟩, h6⟩
  · exact absurd rfl e
end
abbrev Ph0 : Phi := fun _ => none
abbrev Ph1 : Phi := Ph0.add "is_number" spNum
abbrev Ph2 : Phi := Ph1.add "are_rising" spRising
abbrev Ph3 : Phi := Ph2.add "is_next" spNext
abbrev Ph4 : Phi := Ph3.add "is_row" spRow
abbrev Ph5 : Phi := Ph4.add "need_machine" spNeed
abbrev Ph6 : Phi := Ph5.add "need_word" spWord
abbrev Ph7 : Phi := Ph6.add "run_by" spRunBy
abbrev Ph8 : Phi := Ph7.add "run" spRun
abbrev Ph9 : Phi := Ph8.add "classes_of" spClasses
abbrev Ph10 : Phi := Ph9.add "by_classes" spBy
abbrev Ph11 : Phi := Ph10.add "classed" spClassed
abbrev Ph12 : Phi := Ph11.add "_law_taken" spTaken
abbrev Ph13 : Phi := Ph12.add "_law_machine" spMach
abbrev Ph14 : Phi := Ph13.add "_law_word_of" spWordOf
theorem ke_0 : Keeps Ph0 NN_is_number.length [] B_is_number spNum := k_is_number 
theorem ke_1 : Keeps Ph1 NN_are_rising.length [] B_are_rising spRising := k_are_rising (by simp [Phi.add])
theorem ke_2 : Keeps Ph2 NN_is_next.length [] B_is_next spNext := k_is_next (by simp [Phi.add])
theorem ke_3 : Keeps Ph3 NN_is_row.length [] B_is_row spRow := k_is_row (by simp [Phi.add])
theorem ke_4 : Keeps Ph4 NN_need_machine.length [] B_need_machine spNeed := k_need_machine (by simp [Phi.add]) (by simp [Phi.add]) (by simp [Phi.add])
theorem ke_5 : Keeps Ph5 NN_need_word.length [] B_need_word spWord := k_need_word (by simp [Phi.add])
theorem ke_7 : Keeps Ph7 NN_run.length [] B_run spRun := k_run (by simp [Phi.add]) (by simp [Phi.add]) (by simp [Phi.add])
theorem ke_8 : Keeps Ph8 NN_classes_of.length [] B_classes_of spClasses := k_classes_of 
theorem ke_9 : Keeps Ph9 NN_by_classes.length [] B_by_classes spBy := k_by_classes 
theorem ke_10 : Keeps Ph10 NN_classed.length [] B_classed spClassed := k_classed (by simp [Phi.add]) (by simp [Phi.add]) (by simp [Phi.add])
theorem ke_11 : Keeps Ph11 NN__law_taken.length [] B__law_taken spTaken := k_taken 
theorem ke_12 : Keeps Ph12 NN__law_machine.length [] B__law_machine spMach := k_machine (by simp [Phi.add])
theorem ke_13 : Keeps Ph13 NN__law_word_of.length [] B__law_word_of spWordOf := k_word_of (by simp [Phi.add])
theorem ke_14 : Keeps Ph14 NN_law.length [] B_law (lawSp 63) := k_law06 (by simp [Phi.add]) (by simp [Phi.add]) (by simp [Phi.add]) (by simp [Phi.add])
def d_is_number : He.DefD := ⟨("is_number", none), "is_number", "is_number", defArgs t_is_number, defBody t_is_number, defScope t_is_number, [], []⟩
def d_are_rising : He.DefD := ⟨("are_rising", none), "are_rising", "are_rising", defArgs t_are_rising, defBody t_are_rising, defScope t_are_rising, [], []⟩
def d_is_next : He.DefD := ⟨("is_next", none), "is_next", "is_next", defArgs t_is_next, defBody t_is_next, defScope t_is_next, [], []⟩
def d_is_row : He.DefD := ⟨("is_row", none), "is_row", "is_row", defArgs t_is_row, defBody t_is_row, defScope t_is_row, [], []⟩
def d_need_machine : He.DefD := ⟨("need_machine", none), "need_machine", "need_machine", defArgs t_need_machine, defBody t_need_machine, defScope t_need_machine, [], []⟩
def d_need_word : He.DefD := ⟨("need_word", none), "need_word", "need_word", defArgs t_need_word, defBody t_need_word, defScope t_need_word, [], []⟩
def d_run_by : He.DefD := ⟨("run_by", none), "run_by", "run_by", defArgs t_run_by, defBody t_run_by, defScope t_run_by, [], []⟩
def d_run : He.DefD := ⟨("run", none), "run", "run", defArgs t_run, defBody t_run, defScope t_run, [], []⟩
def d_classes_of : He.DefD := ⟨("classes_of", none), "classes_of", "classes_of", defArgs t_classes_of, defBody t_classes_of, defScope t_classes_of, [], []⟩
def d_by_classes : He.DefD := ⟨("by_classes", none), "by_classes", "by_classes", defArgs t_by_classes, defBody t_by_classes, defScope t_by_classes, [], []⟩
def d_classed : He.DefD := ⟨("classed", none), "classed", "classed", defArgs t_classed, defBody t_classed, defScope t_classed, [], []⟩
def d__law_taken : He.DefD := ⟨("_law_taken", none), "_law_taken", "_law_taken", defArgs t__law_taken, defBody t__law_taken, defScope t__law_taken, [], []⟩
def d__law_machine : He.DefD := ⟨("_law_machine", none), "_law_machine", "_law_machine", defArgs t__law_machine, defBody t__law_machine, defScope t__law_machine, [], []⟩
def d__law_word_of : He.DefD := ⟨("_law_word_of", none), "_law_word_of", "_law_word_of", defArgs t__law_word_of, defBody t__law_word_of, defScope t__law_word_of, [], []⟩
def d_law : He.DefD := ⟨("law", none), "law", "law", defArgs t_law, defBody t_law, defScope t_law, [], []⟩
def fnL : List He.DefD := [d_is_number, d_are_rising, d_is_next, d_is_row, d_need_machine, d_need_word, d_run_by, d_run, d_classes_of, d_by_classes, d_classed, d__law_taken, d__law_machine, d__law_word_of, d_law]
def faL : List He.Fa := [.glo "is_number", .glo "are_rising", .glo "is_next", .glo "is_row", .glo "need_machine", .glo "need_word", .glo "run_by", .glo "run", .glo "classes_of", .glo "by_classes", .glo "classed", .glo "_law_taken", .glo "_law_machine", .glo "_law_word_of", .glo "law", .free "len", .free "tuple", .free "list", .free "max", .free "min", .free "isinstance", .free "range", .free "enumerate", .free "int", .free "bool", .free "str", .free "dict", .free "sum", .free "sorted", .free "set", .free "reversed", .free "zip", .int "MOST_LETTERS" 30, .int "MOST_ROOMS" 40, .int "MOST_WORD" 200, .str "GOOD" "good", .str "BAD" "bad", .str "BROKEN" "broken"]
def looseL0 : List Str := ["PressError", "BadMachine", "BadWord", "MOST_LETTERS", "MOST_ROOMS", "MOST_WORD", "is_number", "are_rising", "is_next", "is_row", "need_machine", "need_word", "classes_of", "by_classes", "classed", "GOOD", "BAD", "BROKEN", "run_by", "run", "_law_taken", "_law_machine", "_law_word_of"]
abbrev looseL : List Str := looseL0
abbrev R : PySem.W.OpenRow := PySem.W.OpenLaw.row PySem.Challenge.rw_pressedtables_k06_whole_classed_the_same
def tfL : List He.Defn := [("run", none)]
def exL : PySem.W.Frag → Bool := fun K => true
def tabT (K : PySem.W.Frag) : List (Addr × Str) := [((He.cT K ("run", none)).2, ("run" : Str) ++ ".<locals>." ++ "<lambda>")]
@[reducible] def tabL (K : PySem.W.Frag) : Tab := ⟨tabT K, fun _ => none⟩
abbrev hkL : PySem.W.Hook := He.hookX 4 faL fnL [] tfL exL
def obL (s : PySem.W.SharedT) : He.AlX := He.obsX 4 faL fnL [] tfL exL (HandSHeadRun.getT s)
theorem ob_eq (s : PySem.W.SharedT) : obL s = hkL.obs s.abs := He.obsX_eq (HandSHeadRun.getT_eq s)
theorem runL (w : World) : HandSHeadRun.RunEq R (PySem.W.view R.prog [28]) hkL obL 6000 looseL w := by
  intro os
  kernel_rfl
set_option maxHeartbeats 0 in
theorem factsL {P : Program} {w : World} {K : PySem.W.Frag} {h : Heap} {mg : Str → Option Value} {f : Addr} (X : K.In h) (G : h.Ns mainGlobals mg) (hfa : mg ("law" : Str) = some (.ref f)) (cx : He.SaysX faL fnL [] tfL exL w h K) :
    ∃ fd : FuncData, (∀ (s : Shared) (v : Value), BindsTo s fd ⟨[v], []⟩ [("_law_script", v)]) ∧ ∀ base : Heap, K.In base → base.Ns mainGlobals mg → (∀ p ∈ tfL.map (He.cT K), LamX.TabB base mg p.1 p.2) → FnOk P w K mg base CX0 35 f fd ["_law_script"] (@spD (tabL K) w K (lawSp 63)) := by
  letI : Tab := tabL K
  have c : He.SaysD faL fnL K := cx.t.d
  obtain ⟨fd0, F0⟩ := c.def_ 0 (d := d_is_number) rfl
  have g0 := He.glo_ok X G (c.fact 0 (f := .glo "is_number") rfl)
  obtain ⟨fd1, F1⟩ := c.def_ 1 (d := d_are_rising) rfl
  have g1 := He.glo_ok X G (c.fact 1 (f := .glo "are_rising") rfl)
  obtain ⟨fd2, F2⟩ := c.def_ 2 (d := d_is_next) rfl
  have g2 := He.glo_ok X G (c.fact 2 (f := .glo "is_next") rfl)
  obtain ⟨fd3, F3⟩ := c.def_ 3 (d := d_is_row) rfl
  have g3 := He.glo_ok X G (c.fact 3 (f := .glo "is_row") rfl)
  obtain ⟨fd4, F4⟩ := c.def_ 4 (d := d_need_machine) rfl
  have g4 := He.glo_ok X G (c.fact 4 (f := .glo "need_machine") rfl)
  obtain ⟨fd5, F5⟩ := c.def_ 5 (d := d_need_word) rfl
  have g5 := He.glo_ok X G (c.fact 5 (f := .glo "need_word") rfl)
  obtain ⟨fd6, F6⟩ := c.def_ 6 (d := d_run_by) rfl
  have g6 := He.glo_ok X G (c.fact 6 (f := .glo "run_by") rfl)
  obtain ⟨fd7, F7⟩ := c.def_ 7 (d := d_run) rfl
  have g7 := He.glo_ok X G (c.fact 7 (f := .glo "run") rfl)
  obtain ⟨fd8, F8⟩ := c.def_ 8 (d := d_classes_of) rfl
  have g8 := He.glo_ok X G (c.fact 8 (f := .glo "classes_of") rfl)
  obtain ⟨fd9, F9⟩ := c.def_ 9 (d := d_by_classes) rfl
  have g9 := He.glo_ok X G (c.fact 9 (f := .glo "by_classes") rfl)
  obtain ⟨fd10, F10⟩ := c.def_ 10 (d := d_classed) rfl
  have g10 := He.glo_ok X G (c.fact 10 (f := .glo "classed") rfl)
  obtain ⟨fd11, F11⟩ := c.def_ 11 (d := d__law_taken) rfl
  have g11 := He.glo_ok X G (c.fact 11 (f := .glo "_law_taken") rfl)
  obtain ⟨fd12, F12⟩ := c.def_ 12 (d := d__law_machine) rfl
  have g12 := He.glo_ok X G (c.fact 12 (f := .glo "_law_machine") rfl)
  obtain ⟨fd13, F13⟩ := c.def_ 13 (d := d__law_word_of) rfl
  have g13 := He.glo_ok X G (c.fact 13 (f := .glo "_law_word_of") rfl)
  obtain ⟨fd14, F14⟩ := c.def_ 14 (d := d_law) rfl
  have g14 := He.glo_ok X G (c.fact 14 (f := .glo "law") rfl)
  have blt : ∀ x ∈ bnames, mg (s_ x) = none := by
    intro x hx
    simp only [bnames, List.mem_cons, List.not_mem_nil, or_false] at hx
    rcases hx with rfl | rfl | rfl | rfl | rfl | rfl | rfl | rfl | rfl | rfl | rfl | rfl | rfl | rfl | rfl | rfl | rfl
    · exact He.free_ok X G (c.fact 15 (f := .free "len") rfl)
    · exact He.free_ok X G (c.fact 16 (f := .free "tuple") rfl)
    · exact He.free_ok X G (c.fact 17 (f := .free "list") rfl)
    · exact He.free_ok X G (c.fact 18 (f := .free "max") rfl)
    · exact He.free_ok X G (c.fact 19 (f := .free "min") rfl)
    · exact He.free_ok X G (c.fact 20 (f := .free "isinstance") rfl)
    · exact He.free_ok X G (c.fact 21 (f := .free "range") rfl)
    · exact He.free_ok X G (c.fact 22 (f := .free "enumerate") rfl)
    · exact He.free_ok X G (c.fact 23 (f := .free "int") rfl)
    · exact He.free_ok X G (c.fact 24 (f := .free "bool") rfl)
    · exact He.free_ok X G (c.fact 25 (f := .free "str") rfl)
    · exact He.free_ok X G (c.fact 26 (f := .free "dict") rfl)
    · exact He.free_ok X G (c.fact 27 (f := .free "sum") rfl)
    · exact He.free_ok X G (c.fact 28 (f := .free "sorted") rfl)
    · exact He.free_ok X G (c.fact 29 (f := .free "set") rfl)
    · exact He.free_ok X G (c.fact 30 (f := .free "reversed") rfl)
    · exact He.free_ok X G (c.fact 31 (f := .free "zip") rfl)
  have cst : ∀ p ∈ csL, ∃ u, mg (s_ p.1) = some u ∧ RelV p.2.v u := by
    intro p hp
    simp only [csL, List.mem_cons, List.not_mem_nil, or_false] at hp
    rcases hp with rfl | rfl | rfl | rfl | rfl | rfl
    · obtain ⟨t, ht⟩ := He.int_ok X G (c.fact 32 (f := .int "MOST_LETTERS" 30) rfl); exact ⟨_, ht, ⟨t, rfl⟩⟩
    · obtain ⟨t, ht⟩ := He.int_ok X G (c.fact 33 (f := .int "MOST_ROOMS" 40) rfl); exact ⟨_, ht, ⟨t, rfl⟩⟩
    · obtain ⟨t, ht⟩ := He.int_ok X G (c.fact 34 (f := .int "MOST_WORD" 200) rfl); exact ⟨_, ht, ⟨t, rfl⟩⟩
    · obtain ⟨t, ht⟩ := He.str_ok X G (c.fact 35 (f := .str "GOOD" "good") rfl); exact ⟨_, ht, ⟨t, rfl⟩⟩
    · obtain ⟨t, ht⟩ := He.str_ok X G (c.fact 36 (f := .str "BAD" "bad") rfl); exact ⟨_, ht, ⟨t, rfl⟩⟩
    · obtain ⟨t, ht⟩ := He.str_ok X G (c.fact 37 (f := .str "BROKEN" "broken") rfl); exact ⟨_, ht, ⟨t, rfl⟩⟩
  have e := hfa.symm.trans g14
  cases e
  have b0 : Binds K fd0 ["part", "low", "high"] [] := FunD.bindsN F0 fun _ _ _ _ _ _ us hl => match us, hl with | [_, _, _], _ => rfl
  have b1 : Binds K fd1 ["part", "high"] [] := FunD.bindsN F1 fun _ _ _ _ _ _ us hl => match us, hl with | [_, _], _ => rfl
  have b2 : Binds K fd2 ["part", "rooms"] [] := FunD.bindsN F2 fun _ _ _ _ _ _ us hl => match us, hl with | [_, _], _ => rfl
  have b3 : Binds K fd3 ["part", "letters", "rooms"] [] := FunD.bindsN F3 fun _ _ _ _ _ _ us hl => match us, hl with | [_, _, _], _ => rfl
  have b4 : Binds K fd4 ["machine"] [] := FunD.bindsN F4 fun _ _ _ _ _ _ us hl => match us, hl with | [_], _ => rfl
  have b5 : Binds K fd5 ["letters", "word"] [] := FunD.bindsN F5 fun _ _ _ _ _ _ us hl => match us, hl with | [_, _], _ => rfl
  have b6 : Binds K fd6 ["step", "finals", "word"] [] := FunD.bindsN F6 fun _ _ _ _ _ _ us hl => match us, hl with | [_, _, _], _ => rfl
  have b7 : Binds K fd7 ["machine", "word"] [] := FunD.bindsN F7 fun _ _ _ _ _ _ us hl => match us, hl with | [_, _], _ => rfl
  have b8 : Binds K fd8 ["letters", "table"] [] := FunD.bindsN F8 fun _ _ _ _ _ _ us hl => match us, hl with | [_, _], _ => rfl
  have b9 : Binds K fd9 ["table", "classes"] [] := FunD.bindsN F9 fun _ _ _ _ _ _ us hl => match us, hl with | [_, _], _ => rfl
  have b10 : Binds K fd10 ["machine"] [] := FunD.bindsN F10 fun _ _ _ _ _ _ us hl => match us, hl with | [_], _ => rfl
  have b11 : Binds K fd11 ["_law_row", "_law_many"] [] := FunD.bindsN F11 fun _ _ _ _ _ _ us hl => match us, hl with | [_, _], _ => rfl
  have b12 : Binds K fd12 ["_law_row", "_law_rooms", "_law_letters"] [] := FunD.bindsN F12 fun _ _ _ _ _ _ us hl => match us, hl with | [_, _, _], _ => rfl
  have b13 : Binds K fd13 ["_law_row", "_law_machine_here", "_law_most"] [] := FunD.bindsN F13 fun _ _ _ _ _ _ us hl => match us, hl with | [_, _, _], _ => rfl
  have b14 : Binds K fd14 ["_law_script"] [] := FunD.bindsN F14 fun _ _ _ _ _ _ us hl => match us, hl with | [_], _ => rfl
  have bl := FunD.bindsA (ps := ["_law_script"]) F14 fun _ _ _ _ _ _ us hl => match us, hl with | [_], _ => rfl
  refine ⟨fd14, fun s v => bl s [v] rfl, fun base _ _ TB => ?_⟩
  have D0 : Defs P w K mg base Ph0 0 := Defs.nil
  have L7 : LamD mg base "run" fd7 := by
    refine ⟨(He.cT K ("run", none)).1, (He.cT K ("run", none)).2, TB _ (by simp [tfL]), code_of (p := ("run", none)) F7, (by show _ ∈ tabT K; simp [tabT]), fun p hp e => ?_⟩
    have hp : p ∈ tabT K := hp
    simp only [tabT, List.mem_cons, List.not_mem_nil, or_false] at hp
    rw [hp]
  have o0 : FnOk P w K mg base CX0 2 _ fd0 _ (spD w K spNum) := ok_of (FunD.fun_ F0) sc_is_number (by decide) rfl ke_0 (by decide) ch_is_number blt cst D0
  have D1 : Defs P w K mg base Ph1 2 := (D0.mono (by omega)).add o0 g0 F0.kp b0
  have o1 : FnOk P w K mg base CX0 4 _ fd1 _ (spD w K spRising) := ok_of (FunD.fun_ F1) sc_are_rising (by decide) rfl ke_1 (by decide) ch_are_rising blt cst D1
  have D2 : Defs P w K mg base Ph2 4 := (D1.mono (by omega)).add o1 g1 F1.kp b1
  have o2 : FnOk P w K mg base CX0 6 _ fd2 _ (spD w K spNext) := ok_of (FunD.fun_ F2) sc_is_next (by decide) rfl ke_2 (by decide) ch_is_next blt cst D2
  have D3 : Defs P w K mg base Ph3 6 := (D2.mono (by omega)).add o2 g2 F2.kp b2
  have o3 : FnOk P w K mg base CX0 8 _ fd3 _ (spD w K spRow) := ok_of (FunD.fun_ F3) sc_is_row (by decide) rfl ke_3 (by decide) ch_is_row blt cst D3
  have D4 : Defs P w K mg base Ph4 8 := (D3.mono (by omega)).add o3 g3 F3.kp b3
  have o4 : FnOk P w K mg base CX0 10 _ fd4 _ (spD w K spNeed) := ok_of (FunD.fun_ F4) sc_need_machine (by decide) rfl ke_4 (by decide) ch_need_machine blt cst D4
  have D5 : Defs P w K mg base Ph5 10 := (D4.mono (by omega)).add o4 g4 F4.kp b4
  have o5 : FnOk P w K mg base CX0 12 _ fd5 _ (spD w K spWord) := ok_of (FunD.fun_ F5) sc_need_word (by decide) rfl ke_5 (by decide) ch_need_word blt cst D5
  have D6 : Defs P w K mg base Ph6 12 := (D5.mono (by omega)).add o5 g5 F5.kp b5
  have o6 : FnOk P w K mg base CX0 14 (He.fAd K d_run_by.at_) fd6 ["step", "finals", "word"] (spD w K spRunBy) := fn_never fun _ _ z => z
  have D7 : Defs P w K mg base Ph7 14 := (D6.mono (by omega)).add o6 g6 F6.kp b6 (by intro h; cases h) (by intro n h z; cases z; exact ho_of (FunD.fun_ F6) b6 sc_run_by (by decide) rfl rfl k_run_by ch_run_by blt cst)
  have o7 : FnOk P w K mg base CX0 21 _ fd7 _ (spD w K spRun) := ok_ofG (ex := 6) (FunD.fun_ F7) sc_run (by decide) rfl ke_7 (by decide) ch_run (by simp) (fun _ => ⟨L7, by omega⟩) (fun _ => by omega) blt cst D7
  have D8 : Defs P w K mg base Ph8 21 := (D7.mono (by omega)).add o7 g7 F7.kp b7
  have o8 : FnOk P w K mg base CX0 23 _ fd8 _ (spD w K spClasses) := ok_of (FunD.fun_ F8) sc_classes_of (by decide) rfl ke_8 (by decide) ch_classes_of blt cst D8
  have D9 : Defs P w K mg base Ph9 23 := (D8.mono (by omega)).add o8 g8 F8.kp b8
  have o9 : FnOk P w K mg base CX0 25 _ fd9 _ (spD w K spBy) := ok_of (FunD.fun_ F9) sc_by_classes (by decide) rfl ke_9 (by decide) ch_by_classes blt cst D9
  have D10 : Defs P w K mg base Ph10 25 := (D9.mono (by omega)).add o9 g9 F9.kp b9
  have o10 : FnOk P w K mg base CX0 27 _ fd10 _ (spD w K spClassed) := ok_of (FunD.fun_ F10) sc_classed (by decide) rfl ke_10 (by decide) ch_classed blt cst D10
  have D11 : Defs P w K mg base Ph11 27 := (D10.mono (by omega)).add o10 g10 F10.kp b10
  have o11 : FnOk P w K mg base CX0 29 _ fd11 _ (spD w K spTaken) := ok_of (FunD.fun_ F11) sc__law_taken (by decide) rfl ke_11 (by decide) ch__law_taken blt cst D11
  have D12 : Defs P w K mg base Ph12 29 := (D11.mono (by omega)).add o11 g11 F11.kp b11
  have o12 : FnOk P w K mg base CX0 31 _ fd12 _ (spD w K spMach) := ok_of (FunD.fun_ F12) sc__law_machine (by decide) rfl ke_12 (by decide) ch__law_machine blt cst D12
  have D13 : Defs P w K mg base Ph13 31 := (D12.mono (by omega)).add o12 g12 F12.kp b12
  have o13 : FnOk P w K mg base CX0 33 _ fd13 _ (spD w K spWordOf) := ok_of (FunD.fun_ F13) sc__law_word_of (by decide) rfl ke_13 (by decide) ch__law_word_of blt cst D13
  have D14 : Defs P w K mg base Ph14 33 := (D13.mono (by omega)).add o13 g13 F13.kp b13
  have o14 : FnOk P w K mg base CX0 35 _ fd14 _ (spD w K (lawSp 63)) := ok_of (FunD.fun_ F14) sc_law (by decide) rfl ke_14 (by decide) ch_law blt cst D14
  exact o14
end Dl
open PySem PySem.W PySem.Calls PyProof.Rows
set_option maxHeartbeats 0 in
theorem PySem.Challenge.cw_pressedtables_k06_whole_classed_the_same_holds : PySem.Challenge.rw_pressedtables_k06_whole_classed_the_same.Holds := by
  w_on; o_law
  refine HandSHeadRun.head_any (r := OpenLaw.row PySem.Challenge.rw_pressedtables_k06_whole_classed_the_same) (q := view (OpenLaw.row PySem.Challenge.rw_pressedtables_k06_whole_classed_the_same).prog [28]) (H := Dl.hkL) (ob := Dl.obL) (M := 6000) (loose := Dl.looseL) (d := HandSHeadRun.topDef (OpenLaw.row PySem.Challenge.rw_pressedtables_k06_whole_classed_the_same).prog 28) (kwd := []) Dl.ob_eq
    (by kernel_rfl) (fun s => by kernel_rfl) Dl.runL (by kernel_rfl) (by kernel_rfl) (by kernel_rfl) (by rfl) (by first | assumption | decide +kernel) (by decide +kernel) ⟨rfl, rfl, rfl, rfl, rfl, by decide +kernel⟩ ?hw ?hc
  case hw => w_witness2
  case hc =>
    refine LamX.walk_ofTsE (l := PySem.Challenge.rw_pressedtables_k06_whole_classed_the_same) (n := 63) (k := 35) (x := "_law_script") (CX := fun _ => L2.CX0) rfl (by decide) (by kernel_rfl) ⟨rfl, by decide, by decide⟩ ?F (fun _ _ _ _ _ z => z)
    intro w mg fa h Y G hmg0
    obtain ⟨K, KX, c⟩ := Y
    have hmg : mg ("law" : PySem.Str) = some (.ref fa) := by
      have e : (HandSHeadRun.topDef (OpenLaw.row PySem.Challenge.rw_pressedtables_k06_whole_classed_the_same).prog 28).name = ("law" : PySem.Str) := by kernel_rfl
      rw [← e]
      exact hmg0
    obtain ⟨fd, hb, hF⟩ := Dl.factsL (P := (PySem.Challenge.rw_pressedtables_k06_whole_classed_the_same).prog) (w := w) KX G hmg c
    have tm : ∀ p ∈ Dl.tfL.map (He.cT K), ∃ q ∈ Dl.tfL, p = He.cT K q := fun p hp => by obtain ⟨q, hq, rfl⟩ := List.mem_map.mp hp; exact ⟨q, hq, rfl⟩
    refine ⟨K, KX, fd, Dl.tfL.map (He.cT K), Dl.orLock (@Dl.spD (Dl.tabL K) w K (Dl.lawSp 63)), fun p hp => ?_, fun p hp => ?_, fun p hp => ?_, hb, fun H a ns hl _ hT hS => ?_, fun base X2 G2 TB => Dl.FnOk.lockL (hF base X2 G2 TB)⟩
    · obtain ⟨q, hq, rfl⟩ := tm p hp; exact c.empty q hq
    · obtain ⟨q, hq, rfl⟩ := tm p hp; exact c.out q hq
    · obtain ⟨q, hq, rfl⟩ := tm p hp; exact codeHd_of_K KX (c.hd q hq)
    · refine @Dl.law_startT (Dl.tabL K) w K 63 H a ns hl (fun p hp => ?_) hS
      have hp : p ∈ Dl.tabT K := hp
      simp only [Dl.tabT, List.mem_cons, List.not_mem_nil, or_false] at hp
      rcases hp with rfl
      · exact hT (He.cT K ("run", none)) (List.mem_map.mpr ⟨_, by simp [Dl.tfL], rfl⟩)
