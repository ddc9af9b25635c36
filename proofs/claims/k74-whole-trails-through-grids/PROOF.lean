import PyProof.Rows.All
import PySem.Str
import HandS.ForMost
import HandS.Exc
import HandS.ExcOwn
import HandS.TryOnly
import HandS.WordsExc
import KE.KDictKeyed
import HandS.TupAny
import HandS.Style
import HandS.TupLe
import HandS.Deep
import PyProof.NeData
import HandS.Flow
import HandS.Star
import HandS.ExcCtx
import HandS.IsInst
import KE.SortData
import KE.KRevIter
import KE.KDictSum
import HandS.Rev
import PyProof.ListRange
import HandS.Iter
import KE.KDictWalk
import HandS.DictComp
import HandS.AnyAll
import HandS.GenOver
import HandS.GenList
import PyProof.GenCompD
import HandS.HotCalls
import HandS.ExcIs
import KE.KDictDisplayH
import HandS.EndTab
import PySem.Builtin.Int.Common
import PySem.Challenge.RW_setright_k74_whole_trails_through_grids
section
set_option linter.all false
/-! PySemD: values, memory, core terms, their evaluator. Plain Lean. -/
namespace Py
open PySem (Str)

inductive D where
  | non | bl (b : Bool) | int (i : Int) | str (s : Str)
  | tup (ds : List D) | lst (ds : List D) | dct (kvs : List (D × D))
  | ref (l : Nat) | exc (c : Nat) | lck (d : D)
  | dtp (kvs : List (D × D))
  deriving Inhabited
abbrev Mem := List D
abbrev Env := List (Option D)

inductive R (α : Type) where
  | ok (a : α) (m : Mem) | ex (c : Nat) (m : Mem) | no
def R.bind {α β : Type} : R α → (α → Mem → R β) → R β
  | .ok a m, f => f a m
  | .ex c m, _ => .ex c m
  | .no, _ => .no
@[simp] theorem R.bind_ok {α β : Type} (a : α) (m : Mem) (f : α → Mem → R β) : (R.ok a m).bind f = f a m := rfl
@[simp] theorem R.bind_ex {α β : Type} (c : Nat) (m : Mem) (f : α → Mem → R β) : (R.ex c m).bind f = .ex c m := rfl
@[simp] theorem R.bind_no {α β : Type} (f : α → Mem → R β) : (R.no : R α).bind f = .no := rfl
theorem R.bind_assoc {α β γ : Type} (r : R α) (f : α → Mem → R β) (g : β → Mem → R γ) : (r.bind f).bind g = r.bind fun a m => (f a m).bind g := by cases r <;> rfl
def R.of {α : Type} : Option (α × Mem) → R α
  | some (a, m) => .ok a m
  | none => .no
@[simp] theorem R.of_some {α : Type} (a : α) (m : Mem) : R.of (some (a, m)) = .ok a m := rfl
@[simp] theorem R.of_none {α : Type} : R.of (none : Option (α × Mem)) = .no := rfl

/-! ### reading -/
def der (m : Mem) : D → Option D
  | .ref l => match m[l]? with
    | some (.lst xs) => some (.lst xs)
    | _ => none
  | .lck d => some d
  | .dtp _ => none
  | d => some d
/-- what may be joined to others: no locked list -/
def derX (m : Mem) : D → Option D
  | .ref l => match m[l]? with
    | some (.lst xs) => some (.lst xs)
    | _ => none
  | .lck _ => none
  | .dct _ => none
  | .dtp _ => none
  | .exc _ => none
  | d => some d
/-- a mutable object is moved into a structure: it becomes plain data, its cell dies -/
def settle (d : D) (m : Mem) : Option (D × Mem) := match d with
  | .ref l => match m[l]? with
    | some (.lst xs) => some (.lst xs, m.set l .non)
    | some (.dct kvs) => some (.dct kvs, m.set l .non)
    | _ => none
  | .lck _ => none
  | .dtp _ => none
  | d => some (d, m)
def settles : List D → Mem → Option (List D × Mem)
  | [], m => some ([], m)
  | d :: ds, m => (settle d m).bind fun p => (settles ds p.2).map fun q => (p.1 :: q.1, q.2)

def truth (m : Mem) (d : D) : Option Bool := match der m d with
  | some .non => some false
  | some (.bl b) => some b
  | some (.int i) => some (i != 0)
  | some (.str s) => some (s.length != 0)
  | some (.lst xs) => some (!xs.isEmpty)
  | some (.tup xs) => some (!xs.isEmpty)
  | some (.dct xs) => some (!xs.isEmpty)
  | _ => none

/-! ### equality and order -/
def b2i (b : Bool) : Int := if b then 1 else 0
mutual
/-- a == b of plain data -/
def eqB : D → D → Bool
  | .non, .non => true
  | .bl a, .bl b => a == b
  | .bl a, .int i => b2i a == i
  | .int i, .bl b => i == b2i b
  | .int i, .int j => i == j
  | .str s, .str t => s == t
  | .tup xs, .tup ys => eqBs xs ys
  | .lst xs, .lst ys => eqBs xs ys
  | _, _ => false
def eqBs : List D → List D → Bool
  | [], [] => true
  | x :: xs, y :: ys => eqB x y && eqBs xs ys
  | _, _ => false
end
mutual
def dep : D → Nat
  | .tup xs => deps xs + 1
  | .lst xs => deps xs + 1
  | _ => 0
def deps : List D → Nat
  | [] => 0
  | x :: xs => max (dep x) (deps xs)
end
/-- how deep == may go -/
abbrev dq : Nat := 60
def plainK : D → Bool
  | .dct _ => false
  | .dtp _ => false
  | .exc _ => false
  | .lck _ => false
  | .ref _ => false
  | _ => true
/-! ### dicts whose keys are tuples -/
mutual
def keyd : D → Bool
  | .non => true
  | .bl _ => true
  | .int _ => true
  | .str _ => true
  | .tup ds => keyds ds
  | _ => false
def keyds : List D → Bool
  | [] => true
  | d :: ds => keyd d && keyds ds
end
def isTupD : D → Bool
  | .tup _ => true
  | _ => false
def keyOk (d : D) : Bool := isTupD d && keyd d && decide (dep d ≤ 6)
def dctOf (m : Mem) : D → Option (List (D × D))
  | .ref l => match m[l]? with
    | some (.dtp kvs) => some kvs
    | some (.lck (.dtp kvs)) => some kvs
    | _ => none
  | _ => none
def dGet (kvs : List (D × D)) (k : D) : Option D := (kvs.find? fun p => eqB p.1 k).map (·.2)
def dPut (kvs : List (D × D)) (k v : D) : List (D × D) := if (dGet kvs k).isSome then kvs.map (fun p => if eqB p.1 k then (p.1, v) else p) else kvs ++ [(k, v)]
def eqC (x y : D) : Option Bool := if min (dep x) (dep y) ≤ dq ∧ plainK x = true ∧ plainK y = true then some (eqB x y) else none
def eqD (m : Mem) (a b : D) : Option Bool := (der m a).bind fun x => (der m b).bind fun y => eqC x y

/-- flat tuples of ints -/
def ints? : List D → Option (List Int)
  | [] => some []
  | .int i :: r => (ints? r).map (i :: ·)
  | _ => none
def strLt (s t : Str) : Bool := decide (s.cps.toList < t.cps.toList)
mutual
/-- a < b may be asked -/
def ordOk : D → D → Bool
  | .int _, .int _ => true
  | .str _, .str _ => true
  | .tup xs, .tup ys => ordOks xs ys
  | _, _ => false
def ordOks : List D → List D → Bool
  | x :: xs, y :: ys => ordOk x y && ordOks xs ys
  | _, _ => true
end
mutual
def ltB : D → D → Bool
  | .int i, .int j => decide (i < j)
  | .str s, .str t => strLt s t
  | .tup xs, .tup ys => ltBs xs ys
  | _, _ => false
def ltBs : List D → List D → Bool
  | x :: xs, y :: ys => if eqB x y then ltBs xs ys else ltB x y
  | [], _ :: _ => true
  | _, _ => false
end
def ltC (x y : D) : Option Bool := if min (dep x) (dep y) ≤ dq ∧ ordOk x y = true then some (ltB x y) else none
def inS (m : Mem) (x c : D) : Option Bool := (der m c).bind fun c => match c with
  | .lst xs => if min (deps xs) (dep x) ≤ dq ∧ plainK x = true then some (xs.any fun y => eqB y x) else none
  | .tup xs => if min (deps xs) (dep x) ≤ dq ∧ plainK x = true then some (xs.any fun y => eqB y x) else none
  | _ => none
def inD (m : Mem) (d c : D) : Option Bool := (der m d).bind fun x => match dctOf m c with
  | some kvs => if keyOk x = true then some (dGet kvs x).isSome else none
  | none => inS m x c

/-! ### sorting -/
def leD (a b : D) : Bool := !ltB b a
def tupNe : D → Bool
  | .tup (_ :: _) => true
  | _ => false
def tupNon : D → Bool
  | .tup _ => true
  | .non => true
  | _ => false
def sortOk (xs : List D) : Bool := (xs.all fun x => xs.all fun y => ordOk x y) && (xs.all tupNe || xs.all fun x => !tupNon x) && decide (deps xs ≤ dq)
def sortD (xs : List D) : Option (List D) := if sortOk xs then some (xs.mergeSort leD) else none

/-! ### places and slices -/
def at? {α : Type} (xs : List α) (i : Int) : Option α := if 0 ≤ i then xs[i.toNat]? else if 0 ≤ i + xs.length then xs[(i + xs.length).toNat]? else none
def clampI (n : Nat) (i : Int) : Nat := if i < 0 then (if i + n < 0 then 0 else (i + n).toNat) else if (n : Int) < i then n else i.toNat
def sliceL {α : Type} (xs : List α) (lo hi : Option Int) : List α :=
  let n := xs.length
  let a := match lo with | some i => clampI n i | none => 0
  let b := match hi with | some i => clampI n i | none => n
  (xs.drop a).take (b - a)
/-- xs[:hi:-1] -/
def sliceR {α : Type} (xs : List α) (hi : Option Int) : List α := match hi with
  | none => xs.reverse
  | some i => xs.reverse.take ((xs.length : Int) - 1 - (if i < 0 then max (i + xs.length) (-1) else min i ((xs.length : Int) - 1))).toNat

/-! ### operators -/
inductive Bop where
  | add | sub | mul | fdiv | mod | pow | band | bxor | shl | shr | eq | ne | lt | le | gt | ge | is_ | isnot | in_ | notin
  deriving DecidableEq, Repr
def small64 (i : Int) : Bool := decide (i.natAbs < 2 ^ 64)
def sizeMost : Nat := 10000000
def fits (n : Nat) : Bool := decide (n ≤ sizeMost)
def addD : D → D → Option D
  | .int i, .int j => some (.int (i + j))
  | .str s, .str t => if fits (s.length + t.length) then some (.str (s ++ t)) else none
  | .tup xs, .tup ys => if fits (xs.length + ys.length) then some (.tup (xs ++ ys)) else none
  | .lst xs, .lst ys => if fits (xs.length + ys.length) then some (.lst (xs ++ ys)) else none
  | _, _ => none
def repL {α : Type} (n : Nat) (xs : List α) : List α := match n with
  | 0 => []
  | k + 1 => xs ++ repL k xs
def mulD : D → D → Option D
  | .int i, .int j => if small64 i || small64 j then some (.int (i * j)) else none
  | .lst xs, .int k => if fits (xs.length * k.toNat) && decide (k.natAbs < 2 ^ 63) then some (.lst (repL k.toNat xs)) else none
  | _, _ => none
def isId : D → D → Option Bool
  | .non, .non => some true
  | .bl a, .bl b => some (a == b)
  | d, .non => if plainK d then some false else none
  | _, _ => none
def op2 (o : Bop) (a b : D) (m : Mem) : Option D := match o with
  | .add => (derX m a).bind fun x => (derX m b).bind fun y => addD x y
  | .sub => match a, b with | .int i, .int j => some (.int (i - j)) | _, _ => none
  | .mul => (derX m a).bind fun x => (derX m b).bind fun y => mulD x y
  | .fdiv => match a, b with | .int i, .int j => if j ≠ 0 ∧ j.natAbs < 1073741824 then some (.int (i.fdiv j)) else none | _, _ => none
  | .mod => match a, b with | .int i, .int j => if j ≠ 0 then some (.int (i.fmod j)) else none | _, _ => none
  | .pow => match a, b with | .int i, .int j => if 0 ≤ j ∧ j.natAbs ≤ 1000000 ∧ i.natAbs < 2 ^ 64 then some (.int (i ^ j.toNat)) else none | _, _ => none
  | .eq => (eqD m a b).map D.bl
  | .ne => (eqD m a b).map fun c => .bl !c
  | .lt => (ltC a b).map D.bl
  | .gt => (ltC b a).map D.bl
  | .le => match a, b with | .int i, .int j => some (.bl (decide (i ≤ j))) | .str s, .str t => some (.bl !(strLt t s)) | _, _ => none
  | .ge => match a, b with | .int i, .int j => some (.bl (decide (j ≤ i))) | .str s, .str t => some (.bl !(strLt s t)) | _, _ => none
  | .is_ => (der m a).bind fun x => (isId x b).map D.bl
  | .isnot => (der m a).bind fun x => (isId x b).map fun c => .bl !c
  | .in_ => (inD m a b).map D.bl
  | .notin => (inD m a b).map fun c => .bl !c
  | _ => none

/-! ### built-in functions and methods -/
inductive Prim where
  | len | abs | int | tuple | list | sorted | listrev | min2 | max2 | isI | isB | isT | isL | isS | isE (c : Nat)
  | append | extend | pop | index
  | min1 | max1
  deriving DecidableEq, Repr
def minL : List Int → Option Int
  | [] => none
  | x :: xs => some (xs.foldl (fun a b => if b < a then b else a) x)
def maxL : List Int → Option Int
  | [] => none
  | x :: xs => some (xs.foldl (fun a b => if a < b then b else a) x)
def seqOf (m : Mem) (d : D) : Option (List D) := match der m d with
  | some (.lst xs) => some xs
  | some (.tup xs) => some xs
  | _ => none
def lenD (m : Mem) (d : D) : Option Nat := match der m d with
  | some (.lst xs) => some xs.length
  | some (.tup xs) => some xs.length
  | some (.str s) => some s.length
  | some (.dct kvs) => some kvs.length
  | _ => none
/-- the list at l -/
def cellL (m : Mem) (l : Nat) : Option (List D) := match m[l]? with
  | some (.lst xs) => some xs
  | _ => none
def unL : D → Option (List D)
  | .lst xs => some xs
  | _ => none
def kindIs (p : Prim) (d : D) : Bool := match p, d with
  | .isI, .int _ => true
  | .isI, .bl _ => true
  | .isB, .bl _ => true
  | .isT, .tup _ => true
  | .isL, .lst _ => true
  | .isS, .str _ => true
  | _, _ => false
/-- what sorted may take -/
def sortSrc (m : Mem) (d : D) : Option (List D) := match dctOf m d with
  | some kvs => some (kvs.map (·.1))
  | none => seqOf m d
def pr (sub : Nat → Nat → Bool) (p : Prim) (as : List D) (m : Mem) : Option (D × Mem) := match p, as with
  | .len, [a] => (lenD m a).map fun (n : Nat) => (D.int (n : Int), m)
  | .abs, [.int i] => some (.int (if i < 0 then -i else i), m)
  | .int, [.int i] => some (.int i, m)
  | .int, [.bl b] => some (.int (b2i b), m)
  | .tuple, [a] => (seqOf m a).map fun xs => (.tup xs, m)
  | .list, [a] => (seqOf m a).map fun xs => (.lst xs, m)
  | .sorted, [a] => (sortSrc m a).bind fun xs => (sortD xs).map fun ys => (.lst ys, m)
  | .listrev, [a] => (der m a).bind fun d => (unL d).map fun xs => (.lst xs.reverse, m)
  | .min2, [.int a, .int b] => some (.int (if b < a then b else a), m)
  | .max2, [.int a, .int b] => some (.int (if b > a then b else a), m)
  | .min1, [a] => (seqOf m a).bind fun xs => (ints? xs).bind fun ns => (minL ns).map fun i => (.int i, m)
  | .max1, [a] => (seqOf m a).bind fun xs => (ints? xs).bind fun ns => (maxL ns).map fun i => (.int i, m)
  | .isI, [a] => (der m a).bind fun d => if plainK d then some (.bl (kindIs .isI d), m) else none
  | .isB, [a] => (der m a).bind fun d => if plainK d then some (.bl (kindIs .isB d), m) else none
  | .isT, [a] => (der m a).bind fun d => if plainK d then some (.bl (kindIs .isT d), m) else none
  | .isL, [a] => (der m a).bind fun d => if plainK d then some (.bl (kindIs .isL d), m) else none
  | .isS, [a] => (der m a).bind fun d => if plainK d then some (.bl (kindIs .isS d), m) else none
  | .isE c, [.exc d] => some (.bl (sub d c), m)
  | .append, [.ref l, a] => (settle a m).bind fun p => (cellL p.2 l).bind fun xs => if fits xs.length then some (.non, p.2.set l (.lst (xs ++ [p.1]))) else none
  | .extend, [.ref l, a] => (derX m a).bind fun d => (unL d).bind fun ys => (cellL m l).bind fun xs => if fits (xs.length + ys.length) then some (.non, m.set l (.lst (xs ++ ys))) else none
  | .pop, [.ref l] => (cellL m l).bind fun xs => xs.getLast?.map fun d => (d, m.set l (.lst xs.dropLast))
  | .index, [a, d] => (der m d).bind fun x => (der m a).bind fun c => match c with
    | .lst xs => if min (deps xs) (dep x) ≤ dq ∧ plainK x = true then (xs.findIdx? fun y => eqB y x).map fun (k : Nat) => (D.int (k : Int), m) else none
    | _ => none
  | _, _ => none

/-! ### core terms -/
inductive Tg where
  | nm (i : Nat) | tp (ts : List Tg)
inductive IK where
  | seq | lseq | rng1 | rng2 | rng3 | enum | zip
  deriving DecidableEq, Repr
inductive C where
  | var (i : Nat) | lit (d : D)
  | op (o : Bop) (a b : C) | neg (a : C) | not (a : C) | and (a b : C) | or (a b : C) | ite (t a b : C)
  | chn (o1 o2 : Bop) (a b c : C)
  | tup (as : List C) | lst (as : List C) | star (a : C)
  | mut (a : C)
  | dnew | dnew1 (k v : C)
  | dkeys (a : C)
  | deq (a b d g : C)
  | frz (is : List Nat) (a : C)
  | call (f : Nat) (as : List C)
  | prim (p : Prim) (as : List C)
  | meth (p : Prim) (o : C) (as : List C)
  | idx (a i : C)
  | sl (a : C) (lo hi : Option C)
  | slr (a : C) (hi : Option C)
  | comp (own : List Nat) (t : Tg) (k : IK) (its : List C) (ifs : List C) (e : C)
  | comp2 (own own1 : List Nat) (t : Tg) (k : IK) (its : List C) (ifs : List C) (t2 : Tg) (k2 : IK) (its2 : List C) (ifs2 : List C) (e : C)
  | all (own : List Nat) (t : Tg) (k : IK) (its : List C) (e : C)
  | any (own : List Nat) (t : Tg) (k : IK) (its : List C) (e : C)
  | never
inductive S where
  | asg (t : Tg) (e : C)
  | par (is : List Nat) (as : List C)
  | setix (o i e : C)
  | aug (i : Nat) (o : Bop) (e : C)
  | expr (e : C)
  | ret (e : C)
  | iff (t : C) (a b : List S)
  | whl (t : C) (b : List S)
  | for_ (t : Tg) (k : IK) (its : List C) (b : List S)
  | brk | cnt | pass
  | raise (c : Nat)
  | tryRet (body : List S) (c : Nat)     -- try: body / except c as e: return the word of e
  | never

structure Cfg where
  G : Nat → List D → Mem → R D
  sub : Nat → Nat → Bool
  W : Nat
  word : Nat → Option D

/-! ### targets -/
mutual
def bindT : Tg → D → Env → Option Env
  | .nm i, d, e => if i < e.length then some (e.set i (some d)) else none
  | .tp ts, .tup ds, e => bindTs ts ds e
  | .tp ts, .lst ds, e => bindTs ts ds e
  | .tp _, _, _ => none
def bindTs : List Tg → List D → Env → Option Env
  | [], [], e => some e
  | t :: ts, d :: ds, e => (bindT t d e).bind fun e' => bindTs ts ds e'
  | _, _, _ => none
end
def wipeE (e : Env) : List Nat → Env
  | [] => e
  | v :: vs => (wipeE e vs).set v none

def rng (a : Int) (n : Nat) : List D := (List.range n).map fun (k : Nat) => D.int (a + (k : Int))
def rngDown (a : Int) (n : Nat) : List D := (List.range n).map fun (k : Nat) => D.int (a - (k : Int))
def okB (i : Int) : Bool := decide (i.natAbs < 2 ^ 62)
def enumFrom (k : Int) : List D → List D
  | [] => []
  | x :: xs => .tup [.int k, x] :: enumFrom (k + 1) xs
def itemsOf (k : IK) (as : List D) (m : Mem) : Option (List D) := match k, as with
  | .seq, [.lst xs] => some xs
  | .seq, [.tup xs] => some xs
  | .seq, [.lck (.lst xs)] => some xs
  | .seq, [.lck (.dtp kvs)] => some (kvs.map (·.1))
  | .lseq, [.lst xs] => some xs
  | .rng1, [.int n] => if okB n then some (rng 0 n.toNat) else none
  | .rng2, [.int a, .int b] => if okB a && okB b then some (rng a (b - a).toNat) else none
  | .rng3, [.int a, .int b, .int (-1)] => if okB a && okB b then some (rngDown a (a - b).toNat) else none
  | _, _ => none

/-! ### loops -/
def compL (f : D → List D → Mem → R (List D)) : List D → List D → Mem → R (List D)
  | [], acc, m => .ok acc m
  | x :: xs, acc, m => (f x acc m).bind fun acc' m' => compL f xs acc' m'
def allL (f : D → Mem → R Bool) : List D → Mem → R Bool
  | [], m => .ok true m
  | x :: xs, m => (f x m).bind fun b m' => if b then allL f xs m' else .ok false m'
def anyL (f : D → Mem → R Bool) : List D → Mem → R Bool
  | [], m => .ok false m
  | x :: xs, m => (f x m).bind fun b m' => if b then .ok true m' else anyL f xs m'
def testsL (fs : List (Mem → R Bool)) (m : Mem) : R Bool := match fs with
  | [] => .ok true m
  | f :: r => (f m).bind fun b m' => if b then testsL r m' else .ok false m'
/-- where no exception may be -/
def noEx {α : Type} : R α → R α
  | .ex _ _ => .no
  | r => r
@[simp] theorem noEx_ok {α : Type} (a : α) (m : Mem) : noEx (R.ok a m) = .ok a m := rfl
@[simp] theorem noEx_no {α : Type} : noEx (R.no : R α) = .no := rfl
@[simp] theorem noEx_ex {α : Type} (k : Nat) (m : Mem) : noEx (R.ex k m : R α) = .no := rfl
def asBool (r : R D) : R Bool := r.bind fun d m => match truth m d with
  | some b => .ok b m
  | none => .no

/-- a bool -/
def boolR (r : R D) : R Bool := r.bind fun d m => match d with
  | .bl b => .ok b m
  | _ => .no
/-- x[y] -/
def idxS (x y : D) (m2 : Mem) : R D := match der m2 x, y with
    | some (.lst xs), .int k => (match at? xs k with | some d => .ok d m2 | none => .no)
    | some (.tup xs), .int k => (match at? xs k with | some d => .ok d m2 | none => .no)
    | some (.str s), .int k => (match at? s.cps.toList k with | some d => .ok (.str ⟨#[d]⟩) m2 | none => .no)
    | _, _ => .no
def idxD (x y : D) (m2 : Mem) : R D := match dctOf m2 x with
  | some kvs => (match der m2 y with
    | some k => if keyOk k = true then (match dGet kvs k with | some d => .ok d m2 | none => .no) else .no
    | none => .no)
  | none => idxS x y m2
def isNew (m : Mem) (l : Nat) : Bool := match m[l]? with
  | some (.dtp []) => true
  | _ => false
def put1 (l : Nat) (x y : D) (m : Mem) : R D := match der m x with
  | some k => if keyOk k = true ∧ plainK y = true ∧ isNew m l = true then .ok (.ref l) (m.set l (.dtp [(k, y)])) else .no
  | none => .no
/-- a dict is settled as it is walked -/
def lockD (x : D) (m : Mem) : R D := match x with
  | .ref l => match m[l]? with
    | some (.dtp kvs) => .ok (.lck (.dtp kvs)) (m.set l .non)
    | _ => .no
  | _ => .no
/-- no cells: some are read as data, the others are not seen -/
def thawS (is : List Nat) (m : Mem) (j : Nat) (x : Option D) : Option D := match x with
  | some (.ref l) => if is.contains j then (cellL m l).map D.lst else none
  | x => x
def thawE (is : List Nat) (m : Mem) (e : Env) : Env := (List.range e.length).map fun j => thawS is m j (e.getD j none)
def frzR (m : Mem) : R D → R D
  | .ok (.bl b) _ => .ok (.bl b) m
  | _ => .no
/-- {x: 1, y: 1} == {z: 1, w: 1} -/
def deqB (i j : Int) (z w : D) (m : Mem) : R D := match z, w with
  | .int k, .int l => .ok (.bl (decide ((i = k ∧ j = l) ∨ (i = l ∧ j = k)))) m
  | _, _ => .no
def deqR (x y : D) (k : Int → Int → R D) : R D := match x, y with
  | .int i, .int j => k i j
  | _, _ => .no
theorem deqR_no (x y : D) (h : ∀ i j, x = .int i → y = .int j → False) (k : Int → Int → R D) : deqR x y k = .no := by
  cases x <;> cases y <;> first | rfl | exact (h _ _ rfl rfl).elim
theorem deqB_no (i j : Int) (x y : D) (m : Mem) (h : ∀ i j, x = .int i → y = .int j → False) : deqB i j x y m = .no := by
  cases x <;> cases y <;> first | rfl | exact (h _ _ rfl rfl).elim
mutual
def ev (c : Cfg) (e : Env) : C → Mem → R D
  | .var i, m => match e[i]? with
    | some (some d) => .ok d m
    | _ => .no
  | .lit d, m => .ok d m
  | .op o a b, m => (ev c e a m).bind fun x m1 => (ev c e b m1).bind fun y m2 => match op2 o x y m2 with
    | some d => .ok d m2
    | none => .no
  | .neg a, m => (ev c e a m).bind fun x m1 => match x with
    | .int i => .ok (.int (-i)) m1
    | _ => .no
  | .not a, m => (asBool (ev c e a m)).bind fun b m1 => .ok (.bl !b) m1
  | .and a b, m => (ev c e a m).bind fun x m1 => match truth m1 x with
    | some true => ev c e b m1
    | some false => .ok x m1
    | none => .no
  | .or a b, m => (ev c e a m).bind fun x m1 => match truth m1 x with
    | some true => .ok x m1
    | some false => ev c e b m1
    | none => .no
  | .ite t a b, m => (asBool (ev c e t m)).bind fun k m1 => if k then ev c e a m1 else ev c e b m1
  | .chn o1 o2 a b d, m => (ev c e a m).bind fun x m1 => (ev c e b m1).bind fun y m2 => match op2 o1 x y m2 with
    | some (.bl true) => (ev c e d m2).bind fun z m3 => match op2 o2 y z m3 with
      | some r => .ok r m3
      | none => .no
    | some (.bl false) => .ok (.bl false) m2
    | _ => .no
  | .tup as, m => (evD c e as m).bind fun ds m1 => match settles ds m1 with
    | some (xs, m2) => if fits xs.length then .ok (.tup xs) m2 else .no
    | none => .no
  | .lst as, m => (evD c e as m).bind fun ds m1 => match settles ds m1 with
    | some (xs, m2) => if fits xs.length then .ok (.lst xs) m2 else .no
    | none => .no
  | .star _, _ => .no
  | .mut a, m => (ev c e a m).bind fun x m1 => match x with
    | .lst xs => .ok (.ref m1.length) (m1 ++ [.lst xs])
    | .dct xs => .ok (.ref m1.length) (m1 ++ [.dct xs])
    | _ => .no
  | .frz is a, m => frzR m (ev c (thawE is m e) a [])
  | .dnew, m => .ok (.ref m.length) (m ++ [.dtp []])
  | .deq a b d g, m => (ev c e a m).bind fun x m1 => (ev c e b m1).bind fun y m2 => deqR x y fun i j => (ev c e d m2).bind fun z m3 => (ev c e g m3).bind fun w m4 => deqB i j z w m4
  | .dkeys a, m => (ev c e a m).bind fun x m1 => lockD x m1
  | .dnew1 k v, m => (ev c e k (m ++ [.dtp []])).bind fun x m1 => (ev c e v m1).bind fun y m2 => put1 m.length x y m2
  | .call f as, m => (evs c e as m).bind fun ds m1 => c.G f ds m1
  | .prim p as, m => (evs c e as m).bind fun ds m1 => R.of (pr c.sub p ds m1)
  | .meth p o as, m => (ev c e o m).bind fun x m1 => match der m1 x with
    | some (.lst _) => (evs c e as m1).bind fun ds m2 => R.of (pr c.sub p (x :: ds) m2)
    | _ => .no
  | .idx a i, m => (ev c e a m).bind fun x m1 => (ev c e i m1).bind fun y m2 => idxD x y m2
  | .sl a lo hi, m => (ev c e a m).bind fun x m1 => (evO c e lo m1).bind fun i m2 => (evO c e hi m2).bind fun j m3 => match der m3 x with
    | some (.lst xs) => .ok (.lst (sliceL xs i j)) m3
    | some (.tup xs) => .ok (.tup (sliceL xs i j)) m3
    | some (.str s) => .ok (.str ⟨(sliceL s.cps.toList i j).toArray⟩) m3
    | _ => .no
  | .slr a hi, m => (ev c e a m).bind fun x m1 => (evO c e hi m1).bind fun j m2 => match der m2 x with
    | some (.lst xs) => .ok (.lst (sliceR xs j)) m2
    | some (.tup xs) => .ok (.tup (sliceR xs j)) m2
    | _ => .no
  | .comp own t k its ifs el, m => (evs c e its m).bind fun ds m1 => match itemsOf k ds m1 with
    | none => .no
    | some xs => (noEx (compL (fun x acc m => match bindT t x (wipeE e own) with
        | none => .no
        | some e' => (tests c e' ifs m).bind fun b m2 => if b then (ev c e' el m2).bind fun y m3 => (match settle y m3 with
            | some (z, m4) => if fits acc.length then .ok (acc ++ [z]) m4 else .no
            | none => .no)
          else .ok acc m2) xs [] m1)).bind fun acc m2 => .ok (.lst acc) m2
  | .comp2 own own1 t k its ifs t2 k2 its2 ifs2 el, m => (evs c e its m).bind fun ds m1 => match itemsOf k ds m1 with
    | none => .no
    | some xs => (noEx (compL (fun x acc m => match bindT t x (wipeE e own) with
        | none => .no
        | some e' => (tests c e' ifs m).bind fun b m2 => if b then (evs c e' its2 m2).bind fun ds2 m3 => (match itemsOf k2 ds2 m3 with
            | none => .no
            | some ys => compL (fun y acc m => match bindT t2 y (wipeE e' own1) with
              | none => .no
              | some e2 => (tests c e2 ifs2 m).bind fun b m2 => if b then (ev c e2 el m2).bind fun y m3 => (match settle y m3 with
                  | some (z, m4) => if fits acc.length then .ok (acc ++ [z]) m4 else .no
                  | none => .no)
                else .ok acc m2) ys acc m3)
          else .ok acc m2) xs [] m1)).bind fun acc m2 => .ok (.lst acc) m2
  | .all own t k its el, m => (evs c e its m).bind fun ds m1 => match itemsOf k ds m1 with
    | none => .no
    | some xs => (noEx (allL (fun x m => match bindT t x (wipeE e own) with
        | none => .no
        | some e' => boolR (ev c e' el m)) xs m1)).bind fun b m2 => .ok (.bl b) m2
  | .any own t k its el, m => (evs c e its m).bind fun ds m1 => match itemsOf k ds m1 with
    | none => .no
    | some xs => (noEx (anyL (fun x m => match bindT t x (wipeE e own) with
        | none => .no
        | some e' => boolR (ev c e' el m)) xs m1)).bind fun b m2 => .ok (.bl b) m2
  | .never, _ => .no
def evs (c : Cfg) (e : Env) : List C → Mem → R (List D)
  | [], m => .ok [] m
  | a :: r, m => (ev c e a m).bind fun x m1 => (evs c e r m1).bind fun xs m2 => .ok (x :: xs) m2
/-- a display's items, stars spliced -/
def evD (c : Cfg) (e : Env) : List C → Mem → R (List D)
  | [], m => .ok [] m
  | .star a :: r, m => (ev c e a m).bind fun x m1 => match seqOf m1 x with
    | some xs => (evD c e r m1).bind fun ys m2 => .ok (xs ++ ys) m2
    | none => .no
  | a :: r, m => (ev c e a m).bind fun x m1 => (evD c e r m1).bind fun xs m2 => .ok (x :: xs) m2
def evO (c : Cfg) (e : Env) : Option C → Mem → R (Option Int)
  | none, m => .ok none m
  | some a, m => (ev c e a m).bind fun x m1 => match x with
    | .int i => if small64 i then .ok (some i) m1 else .no
    | _ => .no
def tests (c : Cfg) (e : Env) : List C → Mem → R Bool
  | [], m => .ok true m
  | a :: r, m => (asBool (ev c e a m)).bind fun b m1 => if b then tests c e r m1 else .ok false m1
end

/-! ### statements -/
inductive Out where
  | nx (e : Env) (m : Mem) | rt (d : D) (m : Mem) | bk (e : Env) (m : Mem) | ct (e : Env) (m : Mem) | ex (k : Nat) (e : Env) (m : Mem) | no
def R.out {α : Type} (e : Env) (r : R α) (f : α → Mem → Out) : Out := match r with
  | .ok a m => f a m
  | .ex k m => .ex k e m
  | .no => .no
@[simp] theorem R.out_ok {α : Type} (e : Env) (a : α) (m : Mem) (f : α → Mem → Out) : (R.ok a m).out e f = f a m := rfl
@[simp] theorem R.out_ex {α : Type} (e : Env) (k : Nat) (m : Mem) (f : α → Mem → Out) : (R.ex k m).out e f = .ex k e m := rfl
@[simp] theorem R.out_no {α : Type} (e : Env) (f : α → Mem → Out) : (R.no : R α).out e f = .no := rfl
def Out.seq (o : Out) (f : Env → Mem → Out) : Out := match o with
  | .nx e m => f e m
  | o => o
@[simp] theorem Out.seq_nx (e : Env) (m : Mem) (f : Env → Mem → Out) : (Out.nx e m).seq f = f e m := rfl
@[simp] theorem Out.seq_rt (d : D) (m : Mem) (f : Env → Mem → Out) : (Out.rt d m).seq f = .rt d m := rfl
@[simp] theorem Out.seq_bk (e : Env) (m : Mem) (f : Env → Mem → Out) : (Out.bk e m).seq f = .bk e m := rfl
@[simp] theorem Out.seq_ct (e : Env) (m : Mem) (f : Env → Mem → Out) : (Out.ct e m).seq f = .ct e m := rfl
@[simp] theorem Out.seq_ex (k : Nat) (e : Env) (m : Mem) (f : Env → Mem → Out) : (Out.ex k e m).seq f = .ex k e m := rfl
@[simp] theorem Out.seq_no (f : Env → Mem → Out) : (Out.no).seq f = .no := rfl
def Out.turn (o : Out) (f : Env → Mem → Out) : Out := match o with
  | .nx e m => f e m
  | .ct e m => f e m
  | .bk e m => .nx e m
  | o => o
@[simp] theorem Out.turn_nx (e : Env) (m : Mem) (f : Env → Mem → Out) : (Out.nx e m).turn f = f e m := rfl
@[simp] theorem Out.turn_ct (e : Env) (m : Mem) (f : Env → Mem → Out) : (Out.ct e m).turn f = f e m := rfl
@[simp] theorem Out.turn_bk (e : Env) (m : Mem) (f : Env → Mem → Out) : (Out.bk e m).turn f = .nx e m := rfl
@[simp] theorem Out.turn_rt (d : D) (m : Mem) (f : Env → Mem → Out) : (Out.rt d m).turn f = .rt d m := rfl
@[simp] theorem Out.turn_ex (k : Nat) (e : Env) (m : Mem) (f : Env → Mem → Out) : (Out.ex k e m).turn f = .ex k e m := rfl
@[simp] theorem Out.turn_no (f : Env → Mem → Out) : (Out.no).turn f = .no := rfl
def forL (t : Tg) (body : Env → Mem → Out) : List D → Env → Mem → Out
  | [], e, m => .nx e m
  | x :: xs, e, m => match bindT t x e with
    | none => .no
    | some e' => (body e' m).turn fun e2 m2 => forL t body xs e2 m2
def whlL (test : Env → Mem → R Bool) (body : Env → Mem → Out) : Nat → Env → Mem → Out
  | 0, _, _ => .no
  | n + 1, e, m => (test e m).out e fun b m1 => if b then (body e m1).turn fun e2 m2 => whlL test body n e2 m2 else .nx e m1
/-- x op= y of ints -/
def augD (o : Bop) (x y : D) (m : Mem) : Option D := match x, y with
  | .int i, .int j => op2 o (.int i) (.int j) m
  | _, _ => none
/-- x[y] = v of a list -/
def setS (e : Env) (x y v : D) (m3 : Mem) : Out := match x, y, settle v m3 with
    | .ref l, .int k, some (v', m4) => (match cellL m4 l with
      | some xs => if 0 ≤ k then if k.toNat < xs.length then .nx e (m4.set l (.lst (xs.set k.toNat v'))) else .no else .no
      | none => .no)
    | _, _, _ => .no
/-- the dict at l, not locked -/
def dctAt (m : Mem) : D → Option (Nat × List (D × D))
  | .ref l => match m[l]? with
    | some (.dtp kvs) => some (l, kvs)
    | _ => none
  | _ => none
def setD (e : Env) (x y v : D) (m3 : Mem) : Out := match dctAt m3 x with
  | some (l, kvs) => (match der m3 y with
    | some k => if keyOk k = true ∧ plainK v = true ∧ fits kvs.length = true then .nx e (m3.set l (.dtp (dPut kvs k v))) else .no
    | none => .no)
  | none => setS e x y v m3
mutual
def exec (c : Cfg) : S → Env → Mem → Out
  | .asg t a, e, m => (ev c e a m).out e fun x m1 => match bindT t x e with
    | some e' => .nx e' m1
    | none => .no
  | .par is as, e, m => (evs c e as m).out e fun ds m1 => match bindTs (is.map Tg.nm) ds e with
    | some e' => .nx e' m1
    | none => .no
  | .setix o i a, e, m => (ev c e a m).out e fun v m1 => (ev c e o m1).out e fun x m2 => (ev c e i m2).out e fun y m3 => setD e x y v m3
  | .aug i o a, e, m => match e[i]? with
    | some (some x) => (ev c e a m).out e fun y m1 => (match augD o x y m1 with
      | some d => .nx (e.set i (some d)) m1
      | none => .no)
    | _ => .no
  | .expr a, e, m => (ev c e a m).out e fun _ m1 => .nx e m1
  | .ret a, e, m => (ev c e a m).out e fun x m1 => .rt x m1
  | .iff t a b, e, m => (asBool (ev c e t m)).out e fun k m1 => if k then execs c a e m1 else execs c b e m1
  | .whl t b, e, m => whlL (fun e m => asBool (ev c e t m)) (fun e m => execs c b e m) c.W e m
  | .for_ t k its b, e, m => (evs c e its m).out e fun ds m1 => match itemsOf k ds m1 with
    | none => .no
    | some xs => forL t (fun e m => execs c b e m) xs e m1
  | .brk, e, m => .bk e m
  | .cnt, e, m => .ct e m
  | .pass, e, m => .nx e m
  | .raise k, e, m => .ex k e m
  | .tryRet b k, e, m => match execs c b e m with
    | .ex q e' m1 => (match c.word q with
      | some d => if c.sub q k then .rt d m1 else .ex q e' m1
      | none => .no)
    | o => o
  | .never, _, _ => .no
def execs (c : Cfg) : List S → Env → Mem → Out
  | [], e, m => .nx e m
  | s :: r, e, m => (exec c s e m).seq fun e' m' => execs c r e' m'
end

/-! ### functions -/
structure Fn where
  params : Nat
  slots : Nat
  body : List S
  export_ : Bool := false
/-- what a call hands back: the cells made in it are dropped -/
def finish (ex : Bool) (n : Nat) : Out → R D
  | .nx _ m => .ok .non (m.take n)
  | .rt d m => match d with
    | .ref l => if l < n then .ok (.ref l) (m.take n) else (match m[l]? with
      | some (.lst xs) => if ex then .ok (.ref n) (m.take n ++ [.lst xs]) else .ok (.lst xs) (m.take n)
      | some (.dct xs) => if ex then .ok (.ref n) (m.take n ++ [.dct xs]) else .ok (.dct xs) (m.take n)
      | _ => .no)
    | d => .ok d (m.take n)
  | .ex k _ m => .ex k (m.take n)
  | _ => .no
def runFn (c : Cfg) (f : Fn) (as : List D) (m : Mem) : R D :=
  if as.length = f.params then finish f.export_ m.length (execs c f.body (as.map some ++ List.replicate (f.slots - f.params) none) m) else .no
def run (tbl : Nat → Option Fn) (sub : Nat → Nat → Bool) (W : Nat) (word : Nat → Option D) : Nat → Nat → List D → Mem → R D
  | 0, _, _, _ => .no
  | n + 1, f, as, m => match tbl f with
    | some g => runFn ⟨run tbl sub W word n, sub, W, word⟩ g as m
    | none => .no
end Py
end

section
set_option Elab.async false
set_option linter.all false
set_option maxRecDepth 100000
set_option maxHeartbeats 1000000
/-! PyRel: plain values and the values of the layer HandS; judgements. -/
namespace Py
open PySem L2
open PySem (Str)

/-- where the cells stand; hi: addresses that are ours for a while -/
structure Rho where
  lo : List (Option Addr)
  hi : List Addr
/-- the tables of code objects that may grow -/
class Tabs where
  tb : List Addr
  wd : World
variable [Tabs]
def Rho.hide (ρ : Rho) (a : Addr) : Rho := ⟨ρ.lo, a :: ρ.hi⟩
def Fz (ρ : Rho) (a : Addr) : Prop := (∀ l : Nat, ρ.lo[l]? ≠ some (some a)) ∧ a ∉ ρ.hi
def KL (K : PySem.W.Frag) (a : Addr) (xs : List V) : Prop :=
  ∃ (o : Obj) (its : Array Value) (n : Nat), K.lookup a = some o ∧ o.cls = .type "list" ∧ o.dict = none ∧ o.data = .seq its n ∧ its.size ≤ sizeLine ∧ Vals xs its.toList
def KT (K : PySem.W.Frag) (a : Addr) (xs : List V) : Prop :=
  ∃ (o : Obj) (its : Array Value) (n : Nat), K.lookup a = some o ∧ o.cls = .type "tuple" ∧ o.data = .seq its n ∧ its.size ≤ sizeLine ∧ Vals xs its.toList
def LstAt (K : PySem.W.Frag) (ρ : Rho) (H : Hp) (a : Addr) (xs : List V) : Prop := (Fz ρ a ∧ Rd H a (.lst xs)) ∨ KL K a xs
def TupAt (K : PySem.W.Frag) (ρ : Rho) (H : Hp) (a : Addr) (xs : List V) : Prop := (Fz ρ a ∧ Rd H a (.tup xs)) ∨ KT K a xs
def LstD (ρ : Rho) (H : Hp) (a : Addr) (xs : List V) : Prop := Fz ρ a ∧ H a = some (.lst xs)
section
variable {K : PySem.W.Frag} {ρ ρ' : Rho} {H H' : Hp} {a : Addr} {xs : List V}
theorem LstD.sq (h : LstD ρ H a xs) : SqL K H a xs := SqL.of h.2
theorem LstAt.sq (h : LstAt K ρ H a xs) : SqL K H a xs := h.imp (fun q => q.2) id
theorem TupAt.sq (h : TupAt K ρ H a xs) : SqT K H a xs := h.imp (fun q => q.2) id
end
/-- a text that can be -/
structure StrOk (x : Str) : Prop where
  len : x.length ≤ sizeLine
  cps : PySem.PyData.strOk x = true
mutual
/-- plain data -/
inductive RepP (K : PySem.W.Frag) (ρ : Rho) (H : Hp) : D → V → Prop
  | non : RepP K ρ H .non .non
  | bl (b : Bool) : RepP K ρ H (.bl b) (.bl b)
  | int (i : Int) : RepP K ρ H (.int i) (.int i)
  | str (x : Str) (ok : StrOk x) : RepP K ρ H (.str x) (.str x)
  | lst {a : Addr} {xs : List V} {ds : List D} : LstD ρ H a xs → RepPs K ρ H ds xs → RepP K ρ H (.lst ds) (.ref a)
  | tup {a : Addr} {xs : List V} {ds : List D} : TupAt K ρ H a xs → RepPs K ρ H ds xs → RepP K ρ H (.tup ds) (.ref a)
inductive RepPs (K : PySem.W.Frag) (ρ : Rho) (H : Hp) : List D → List V → Prop
  | nil : RepPs K ρ H [] []
  | cons {d : D} {v : V} {ds : List D} {vs : List V} : RepP K ρ H d v → RepPs K ρ H ds vs → RepPs K ρ H (d :: ds) (v :: vs)
end
/-- what is frozen stays, and stays frozen -/
def NoT (o : HO) : Prop := ∀ ps, o ≠ .tbl ps
theorem noT_lst {xs : List V} : NoT (.lst xs) := fun _ q => by cases q
theorem noT_tup {xs : List V} : NoT (.tup xs) := fun _ q => by cases q
theorem noT_frz {o : Obj} {u : HO} : NoT (.frz o u) := fun _ q => by cases q
def Mo (ρ ρ' : Rho) (H H' : Hp) : Prop := ∀ a o, Fz ρ a → H a = some o → NoT o → H' a = some o ∧ Fz ρ' a
theorem Mo.rd {ρ ρ' : Rho} {H H' : Hp} {a : Addr} {u : HO} (m : Mo ρ ρ' H H') (f : Fz ρ a) (h : Rd H a u) (n : NoT u) : Fz ρ' a ∧ Rd H' a u := by
  rcases h with h | ⟨o, h⟩
  · exact ⟨(m a _ f h n).2, .inl (m a _ f h n).1⟩
  · exact ⟨(m a _ f h noT_frz).2, .inr ⟨o, (m a _ f h noT_frz).1⟩⟩
mutual
theorem RepP.mono {K : PySem.W.Frag} {ρ ρ' : Rho} {H H' : Hp} (m : Mo ρ ρ' H H') : ∀ {d : D} {v : V}, RepP K ρ H d v → RepP K ρ' H' d v
  | _, _, .non => .non
  | _, _, .bl b => .bl b
  | _, _, .int i => .int i
  | _, _, .str x k => .str x k
  | _, _, .lst h hs => .lst ⟨(m _ _ h.1 h.2 noT_lst).2, (m _ _ h.1 h.2 noT_lst).1⟩ (RepPs.mono m hs)
  | _, _, .tup h hs => .tup (h.imp (fun q => m.rd q.1 q.2 noT_tup) id) (RepPs.mono m hs)
theorem RepPs.mono {K : PySem.W.Frag} {ρ ρ' : Rho} {H H' : Hp} (m : Mo ρ ρ' H H') : ∀ {ds : List D} {vs : List V}, RepPs K ρ H ds vs → RepPs K ρ' H' ds vs
  | _, _, .nil => .nil
  | _, _, .cons h hs => .cons (RepP.mono m h) (RepPs.mono m hs)
end
theorem RepPs.length {K : PySem.W.Frag} {ρ : Rho} {H : Hp} : ∀ {ds : List D} {vs : List V}, RepPs K ρ H ds vs → ds.length = vs.length
  | _, _, .nil => rfl
  | _, _, .cons _ hs => by simp [hs.length]
theorem RepPs.get {K : PySem.W.Frag} {ρ : Rho} {H : Hp} : ∀ {ds : List D} {vs : List V} {i : Nat} {d : D}, RepPs K ρ H ds vs → ds[i]? = some d → ∃ v, vs[i]? = some v ∧ RepP K ρ H d v
  | _, _, _, _, .nil, e => by simp at e
  | _, _, 0, _, .cons h _, e => by simp at e; subst e; exact ⟨_, rfl, h⟩
  | _, _, i + 1, _, .cons _ hs, e => by simpa using RepPs.get (i := i) hs (by simpa using e)
theorem RepPs.getV {K : PySem.W.Frag} {ρ : Rho} {H : Hp} : ∀ {ds : List D} {vs : List V} {i : Nat} {v : V}, RepPs K ρ H ds vs → vs[i]? = some v → ∃ d, ds[i]? = some d ∧ RepP K ρ H d v
  | _, _, _, _, .nil, e => by simp at e
  | _, _, 0, _, .cons h _, e => by simp at e; subst e; exact ⟨_, rfl, h⟩
  | _, _, i + 1, _, .cons _ hs, e => by simpa using RepPs.getV (i := i) hs (by simpa using e)
theorem RepPs.append {K : PySem.W.Frag} {ρ : Rho} {H : Hp} : ∀ {ds es : List D} {vs us : List V}, RepPs K ρ H ds vs → RepPs K ρ H es us → RepPs K ρ H (ds ++ es) (vs ++ us)
  | _, _, _, _, .nil, h => h
  | _, _, _, _, .cons h hs, k => .cons h (RepPs.append hs k)
theorem RepPs.drop {K : PySem.W.Frag} {ρ : Rho} {H : Hp} : ∀ {ds : List D} {vs : List V} (n : Nat), RepPs K ρ H ds vs → RepPs K ρ H (ds.drop n) (vs.drop n)
  | _, _, 0, h => h
  | _, _, _ + 1, .nil => .nil
  | _, _, n + 1, .cons _ hs => RepPs.drop n hs
theorem RepPs.take {K : PySem.W.Frag} {ρ : Rho} {H : Hp} : ∀ {ds : List D} {vs : List V} (n : Nat), RepPs K ρ H ds vs → RepPs K ρ H (ds.take n) (vs.take n)
  | _, _, 0, _ => .nil
  | _, _, _ + 1, .nil => .nil
  | _, _, n + 1, .cons h hs => .cons h (RepPs.take n hs)
theorem RepPs.rev {K : PySem.W.Frag} {ρ : Rho} {H : Hp} : ∀ {ds : List D} {vs : List V}, RepPs K ρ H ds vs → RepPs K ρ H ds.reverse vs.reverse
  | _, _, .nil => .nil
  | _, _, .cons h hs => by simpa using (RepPs.rev hs).append (.cons h .nil)
theorem RepPs.set {K : PySem.W.Frag} {ρ : Rho} {H : Hp} {d : D} {v : V} (r : RepP K ρ H d v) : ∀ {ds : List D} {vs : List V} (n : Nat), RepPs K ρ H ds vs → RepPs K ρ H (ds.set n d) (vs.set n v)
  | _, _, _, .nil => .nil
  | _, _, 0, .cons _ hs => .cons r hs
  | _, _, n + 1, .cons h hs => .cons h (RepPs.set r n hs)

/-! ### dicts whose keys are tuples -/
mutual
def nkey : D → NestedKey
  | .bl b => .num (b2i b)
  | .int i => .num i
  | .str x => .text x
  | .tup ds => .tup (nkeys ds)
  | _ => .none
def nkeys : List D → List NestedKey
  | [] => []
  | d :: ds => nkey d :: nkeys ds
end
mutual
theorem nkey_depth : ∀ d : D, keyd d = true → (nkey d).depth ≤ dep d
  | .non, _ => Nat.le_refl _
  | .bl _, _ => Nat.le_refl _
  | .int _, _ => Nat.le_refl _
  | .str _, _ => Nat.le_refl _
  | .tup ds, h => by
    have := nkeys_depth ds (by simpa [keyd] using h)
    simp only [nkey, NestedKey.depth, dep]; omega
  | .lst _, h => by simp [keyd] at h
  | .dct _, h => by simp [keyd] at h
  | .ref _, h => by simp [keyd] at h
  | .exc _, h => by simp [keyd] at h
  | .lck _, h => by simp [keyd] at h
  | .dtp _, h => by simp [keyd] at h
theorem nkeys_depth : ∀ ds : List D, keyds ds = true → NestedKey.depthAll (nkeys ds) ≤ deps ds
  | [], _ => Nat.le_refl _
  | d :: ds, h => by
    simp only [keyds, Bool.and_eq_true] at h
    have h1 := nkey_depth d h.1
    have h2 := nkeys_depth ds h.2
    simp only [nkeys, NestedKey.depthAll, deps]; omega
end
mutual
theorem nkey_eq : ∀ d e : D, keyd d = true → keyd e = true → eqB d e = decide (nkey d = nkey e)
  | .non, e, _, he => by cases e <;> simp_all [eqB, nkey, keyd]
  | .bl a, e, _, he => by
    cases e <;> simp_all [eqB, nkey, keyd]
    · rename_i b
      cases a <;> cases b <;> simp [b2i]
    · rfl
  | .int a, e, _, he => by cases e <;> simp_all [eqB, nkey, keyd] <;> rfl
  | .str a, e, _, he => by cases e <;> simp_all [eqB, nkey, keyd] <;> rfl
  | .tup ds, e, hd, he => by
    cases e with
    | tup es =>
      have := nkeys_eq ds es (by simpa [keyd] using hd) (by simpa [keyd] using he)
      simp only [eqB, nkey, NestedKey.tup.injEq]; exact this
    | _ => simp_all [eqB, nkey, keyd]
  | .lst _, _, h, _ => by simp [keyd] at h
  | .dct _, _, h, _ => by simp [keyd] at h
  | .ref _, _, h, _ => by simp [keyd] at h
  | .exc _, _, h, _ => by simp [keyd] at h
  | .lck _, _, h, _ => by simp [keyd] at h
  | .dtp _, _, h, _ => by simp [keyd] at h
theorem nkeys_eq : ∀ ds es : List D, keyds ds = true → keyds es = true → eqBs ds es = decide (nkeys ds = nkeys es)
  | [], [], _, _ => by simp [eqBs, nkeys]
  | [], _ :: _, _, _ => by simp [eqBs, nkeys]
  | _ :: _, [], _, _ => by simp [eqBs, nkeys]
  | d :: ds, e :: es, hd, he => by
    simp only [keyds, Bool.and_eq_true] at hd he
    simp only [eqBs, nkeys, List.cons.injEq, nkey_eq d e hd.1 he.1, nkeys_eq ds es hd.2 he.2, Bool.decide_and]
end
/-- a dict's object: its entries -/
def DPhi (a : Addr) (es : Array DictEntry) : HO := .ext fun h => ∃ ep, h.DictRaw a es ep
theorem noT_dphi {a : Addr} {es : Array DictEntry} : NoT (DPhi a es) := fun _ q => by cases q
structure EntR (K : PySem.W.Frag) (ρ : Rho) (H : Hp) (p : D × D) (e : DictEntry) : Prop where
  ok : keyOk p.1 = true
  hash : e.hash = (nkey p.1).hash Tabs.wd
  key : ∃ b, e.key = .ref b ∧ RepP K ρ H p.1 (.ref b)
  val : ∃ v, RepP K ρ H p.2 v ∧ RelV v e.val
theorem EntR.mono {K : PySem.W.Frag} {ρ ρ' : Rho} {H H' : Hp} (m : Mo ρ ρ' H H') {p : D × D} {e : DictEntry} (x : EntR K ρ H p e) : EntR K ρ' H' p e :=
  ⟨x.ok, x.hash, let ⟨b, h1, h2⟩ := x.key; ⟨b, h1, h2.mono m⟩, let ⟨v, h1, h2⟩ := x.val; ⟨v, h1.mono m, h2⟩⟩
inductive EntRs (K : PySem.W.Frag) (ρ : Rho) (H : Hp) : List (D × D) → List DictEntry → Prop
  | nil : EntRs K ρ H [] []
  | cons {p : D × D} {e : DictEntry} {ps : List (D × D)} {es : List DictEntry} : EntR K ρ H p e → EntRs K ρ H ps es → EntRs K ρ H (p :: ps) (e :: es)
theorem EntRs.mono {K : PySem.W.Frag} {ρ ρ' : Rho} {H H' : Hp} (m : Mo ρ ρ' H H') : ∀ {ps : List (D × D)} {es : List DictEntry}, EntRs K ρ H ps es → EntRs K ρ' H' ps es
  | _, _, .nil => .nil
  | _, _, .cons h hs => .cons (h.mono m) (EntRs.mono m hs)
/-- the entries es are the pairs kvs -/
structure Ents (K : PySem.W.Frag) (ρ : Rho) (H : Hp) (a : Addr) (kvs : List (D × D)) (es : Array DictEntry) : Prop where
  sys : (a == sysModules) = false
  len : es.size ≤ sizeLine
  ents : EntRs K ρ H kvs es.toList
  nodup : (kvs.map fun p => nkey p.1).Nodup
theorem Ents.mono {K : PySem.W.Frag} {ρ ρ' : Rho} {H H' : Hp} (m : Mo ρ ρ' H H') {a : Addr} {kvs : List (D × D)} {es : Array DictEntry} (x : Ents K ρ H a kvs es) : Ents K ρ' H' a kvs es := ⟨x.sys, x.len, x.ents.mono m, x.nodup⟩
/-- what a cell holds -/
def CellOk (K : PySem.W.Frag) (ρ : Rho) (H : Hp) (l : Nat) (d : D) : Prop := match d with
    | .lst xs => ∃ a vs, ρ.lo[l]? = some (some a) ∧ H a = some (.lst vs) ∧ RepPs K ρ H xs vs
    | .dtp kvs => ∃ a es, ρ.lo[l]? = some (some a) ∧ H a = some (DPhi a es) ∧ Ents K ρ H a kvs es
    | .dct _ => False
    | .lck (.dtp kvs) => ∃ a es o, ρ.lo[l]? = some (some a) ∧ H a = some (.frz o (DPhi a es)) ∧ Ents K ρ H a kvs es
    | .lck _ => False
    | _ => True

/-- any value -/
def Rep (K : PySem.W.Frag) (ρ : Rho) (H : Hp) (d : D) (v : V) : Prop := match d with
  | .ref l => ∃ o, ρ.lo[l]? = some o ∧ ∀ a, o = some a → v = .ref a
  | .lck (.lst ds) => ∃ a vs, v = .ref a ∧ LstAt K ρ H a vs ∧ RepPs K ρ H ds vs
  | d => RepP K ρ H d v
theorem RepP.rep {K : PySem.W.Frag} {ρ : Rho} {H : Hp} {d : D} {v : V} (h : RepP K ρ H d v) : Rep K ρ H d v := by cases h <;> (first | exact .non | exact .bl _ | exact .int _ | exact .str _ ‹_› | (rename_i a b; exact .lst a b) | (rename_i a b; exact .tup a b))
inductive Reps (K : PySem.W.Frag) (ρ : Rho) (H : Hp) : List D → List V → Prop
  | nil : Reps K ρ H [] []
  | cons {d : D} {v : V} {ds : List D} {vs : List V} : Rep K ρ H d v → Reps K ρ H ds vs → Reps K ρ H (d :: ds) (v :: vs)
theorem Reps.length {K : PySem.W.Frag} {ρ : Rho} {H : Hp} : ∀ {ds : List D} {vs : List V}, Reps K ρ H ds vs → ds.length = vs.length
  | _, _, .nil => rfl
  | _, _, .cons _ hs => by simp [hs.length]
theorem Reps.get {K : PySem.W.Frag} {ρ : Rho} {H : Hp} : ∀ {ds : List D} {vs : List V} {i : Nat} {d : D}, Reps K ρ H ds vs → ds[i]? = some d → ∃ v, vs[i]? = some v ∧ Rep K ρ H d v
  | _, _, _, _, .nil, e => by simp at e
  | _, _, 0, _, .cons h _, e => by simp at e; subst e; exact ⟨_, rfl, h⟩
  | _, _, i + 1, _, .cons _ hs, e => by simpa using Reps.get (i := i) hs (by simpa using e)
theorem RepPs.reps {K : PySem.W.Frag} {ρ : Rho} {H : Hp} : ∀ {ds : List D} {vs : List V}, RepPs K ρ H ds vs → Reps K ρ H ds vs
  | _, _, .nil => .nil
  | _, _, .cons h hs => .cons h.rep hs.reps
theorem Reps.append {K : PySem.W.Frag} {ρ : Rho} {H : Hp} : ∀ {ds es : List D} {vs us : List V}, Reps K ρ H ds vs → Reps K ρ H es us → Reps K ρ H (ds ++ es) (vs ++ us)
  | _, _, _, _, .nil, h => h
  | _, _, _, _, .cons h hs, k => .cons h (Reps.append hs k)

/-- the memory -/
structure MemOk (K : PySem.W.Frag) (ρ : Rho) (H : Hp) (m : Mem) : Prop where
  len : ρ.lo.length = m.length
  one : ∀ (l l' : Nat) (a : Addr), ρ.lo[l]? = some (some a) → ρ.lo[l']? = some (some a) → l = l'
  apart : ∀ (l : Nat) (a : Addr), ρ.lo[l]? = some (some a) → a ∉ ρ.hi
  live : ∀ (l : Nat) (a : Addr), ρ.lo[l]? = some (some a) → ∃ o, H a = some o
  hid : ∀ a ∈ ρ.hi, ∃ o, H a = some o
  cell : ∀ (l : Nat) (d : D), m[l]? = some d → CellOk K ρ H l d
  tab : ∀ P ∈ Tabs.tb, ∃ ps : Array Value, H P = some (.tbl ps) ∧ TriplesOk ps.toList
/-- what a piece of the run may have done -/
structure Tr (ρ ρ' : Rho) (H H' : Hp) : Prop where
  len : ρ.lo.length ≤ ρ'.lo.length
  hi : ρ'.hi = ρ.hi
  old : ∀ (l : Nat) (a : Addr), ρ'.lo[l]? = some (some a) → l < ρ.lo.length → ρ.lo[l]? = some (some a)
  new : ∀ (l : Nat) (a : Addr), ρ'.lo[l]? = some (some a) → ρ.lo.length ≤ l → H a = none
  keep : ∀ (a : Addr) (o : HO), H a = some o → NoT o → (∀ l : Nat, ρ.lo[l]? ≠ some (some a)) → H' a = some o
  dom : ∀ (a : Addr), H' a = none → H a = none
section
variable {K : PySem.W.Frag} {ρ ρ1 ρ' : Rho} {H H1 H' : Hp}
theorem Tr.refl : Tr ρ ρ H H := ⟨Nat.le_refl _, rfl, fun _ _ e _ => e, fun l a e h => (by rw [List.getElem?_eq_none h] at e; cases e), fun _ _ e _ _ => e, fun _ e => e⟩
theorem Tr.none1 (t : Tr ρ ρ1 H H1) {a : Addr} {o : HO} (h : H a = some o) (f : ∀ l : Nat, ρ.lo[l]? ≠ some (some a)) : ∀ l : Nat, ρ1.lo[l]? ≠ some (some a) := fun l e => by
  by_cases q : l < ρ.lo.length
  · exact f l (t.old l a e q)
  · have z := t.new l a e (Nat.le_of_not_lt q)
    rw [h] at z
    cases z
theorem Tr.trans (t : Tr ρ ρ1 H H1) (u : Tr ρ1 ρ' H1 H') : Tr ρ ρ' H H' where
  len := Nat.le_trans t.len u.len
  hi := u.hi.trans t.hi
  old := fun l a e h => t.old l a (u.old l a e (Nat.lt_of_lt_of_le h t.len)) h
  new := fun l a e h => by
    by_cases q : l < ρ1.lo.length
    · exact t.new l a (u.old l a e q) h
    · exact t.dom a (u.new l a e (Nat.le_of_not_lt q))
  keep := fun a o e n f => u.keep a o (t.keep a o e n f) n (t.none1 e f)
  dom := fun a e => t.dom a (u.dom a e)
theorem Tr.mo (t : Tr ρ ρ1 H H1) : Mo ρ ρ1 H H1 := fun a o f h n => ⟨t.keep a o h n f.1, t.none1 h f.1, by rw [t.hi]; exact f.2⟩
theorem Rep.tr (t : Tr ρ ρ1 H H1) : ∀ {d : D} {v : V}, Rep K ρ H d v → Rep K ρ1 H1 d v := fun {d v} h => by
  cases d with
  | ref l =>
    obtain ⟨o, e, q⟩ := h
    have hl : l < ρ.lo.length := (List.getElem?_eq_some_iff.mp e).1
    have hl1 : l < ρ1.lo.length := Nat.lt_of_lt_of_le hl t.len
    refine ⟨ρ1.lo[l], List.getElem?_eq_getElem hl1, fun a ea => ?_⟩
    have z := t.old l a (by rw [List.getElem?_eq_getElem hl1, ea]) hl
    rw [e] at z
    exact q a (Option.some.inj z)
  | lck d =>
    cases d with
    | lst ds =>
      obtain ⟨a, vs, e, q, k⟩ := h
      exact ⟨a, vs, e, q.imp (fun q => t.mo.rd q.1 q.2 noT_lst) id, k.mono t.mo⟩
    | _ => exact RepP.mono t.mo h
  | _ => exact RepP.mono t.mo h
theorem Reps.tr (t : Tr ρ ρ1 H H1) : ∀ {ds : List D} {vs : List V}, Reps K ρ H ds vs → Reps K ρ1 H1 ds vs
  | _, _, .nil => .nil
  | _, _, .cons h hs => .cons (h.tr t) (hs.tr t)
/-- a new object, tracked -/
theorem Tr.new1 {a : Addr} {o : HO} (h : H a = none) : Tr ρ ρ H (upd H a o) where
  len := Nat.le_refl _
  hi := rfl
  old := fun _ _ e _ => e
  new := fun l a e h => by rw [List.getElem?_eq_none h] at e; cases e
  keep := fun b u e _ _ => by rw [upd_ne (ne_of_none e h)]; exact e
  dom := fun b e => by
    by_cases q : b = a
    · rw [q]; exact h
    · rw [upd_ne q] at e; exact e
theorem CellOk.mo {l : Nat} {d : D} (q : CellOk K ρ H l d) (hl : ∀ a, ρ.lo[l]? = some (some a) → ρ'.lo[l]? = some (some a)) (hd : ∀ a o, ρ.lo[l]? = some (some a) → H a = some o → NoT o → H' a = some o) (m : Mo ρ ρ' H H') : CellOk K ρ' H' l d := by
  cases d with
  | lst xs =>
    obtain ⟨a, vs, h1, h2, h3⟩ := q
    exact ⟨a, vs, hl a h1, hd _ _ h1 h2 noT_lst, h3.mono m⟩
  | dtp kvs =>
    obtain ⟨a, es, h1, h2, h3⟩ := q
    exact ⟨a, es, hl a h1, hd _ _ h1 h2 noT_dphi, h3.mono m⟩
  | lck d =>
    cases d with
    | dtp kvs =>
      obtain ⟨a, es, o, h1, h2, h3⟩ := q
      exact ⟨a, es, o, hl a h1, hd _ _ h1 h2 noT_frz, h3.mono m⟩
    | _ => exact q
  | _ => exact q
theorem CellOk.keep {l : Nat} {d : D} (q : CellOk K ρ H l d) (hd : ∀ a o, H a = some o → H' a = some o) : CellOk K ρ H' l d := q.mo (fun _ e => e) (fun a o _ e _ => hd a o e) fun a o f h _ => ⟨hd _ _ h, f⟩
/-- the memory, where nothing of it was touched -/
theorem MemOk.keep {m : Mem} (x : MemOk K ρ H m) (hd : ∀ a o, H a = some o → H' a = some o) : MemOk K ρ H' m where
  len := x.len
  one := x.one
  apart := x.apart
  live := fun l a e => let ⟨o, h⟩ := x.live l a e; ⟨o, hd _ _ h⟩
  hid := fun a e => let ⟨o, h⟩ := x.hid a e; ⟨o, hd _ _ h⟩
  cell := fun l d e => (x.cell l d e).keep hd
  tab := fun P hP => let ⟨ps, h, t⟩ := x.tab P hP; ⟨ps, hd _ _ h, t⟩
theorem MemOk.new1 {m : Mem} {a : Addr} {o : HO} (x : MemOk K ρ H m) (h : H a = none) : MemOk K ρ (upd H a o) m := x.keep fun b u e => by rw [upd_ne (ne_of_none e h)]; exact e
theorem MemOk.alive {m : Mem} (x : MemOk K ρ H m) {l : Nat} {xs : List D} (e : m[l]? = some (.lst xs)) : ∃ a vs, ρ.lo[l]? = some (some a) ∧ H a = some (.lst vs) ∧ RepPs K ρ H xs vs := x.cell l _ e
/-- a new address is nobody's -/
theorem MemOk.fz {m : Mem} (x : MemOk K ρ H m) {a : Addr} (h : H a = none) : Fz ρ a := by
  refine ⟨fun l e => ?_, fun e => ?_⟩
  · obtain ⟨o, q⟩ := x.live l a e
    rw [h] at q
    cases q
  · obtain ⟨o, q⟩ := x.hid a e
    rw [h] at q
    cases q
end

/-- the slots -/
structure EnvOk (K : PySem.W.Frag) (ρ : Rho) (H : Hp) (e : Env) (σ : L2.St) : Prop where
  len : e.length = σ.length
  at_ : ∀ (i : Nat) (d : D), e[i]? = some (some d) → ∃ v, σ[i]? = some (some v) ∧ Rep K ρ H d v
theorem EnvOk.tr {K : PySem.W.Frag} {ρ ρ1 : Rho} {H H1 : Hp} {e : Env} {σ : L2.St} (t : Tr ρ ρ1 H H1) (x : EnvOk K ρ H e σ) : EnvOk K ρ1 H1 e σ :=
  ⟨x.len, fun i d h => let ⟨v, a, b⟩ := x.at_ i d h; ⟨v, a, b.tr t⟩⟩
theorem EnvOk.set {K : PySem.W.Frag} {ρ : Rho} {H : Hp} {e : Env} {σ : L2.St} {d : D} {v : V} (x : EnvOk K ρ H e σ) (r : Rep K ρ H d v) (i : Nat) : EnvOk K ρ H (e.set i (some d)) (σ.set i (some v)) :=
  ⟨by simp [x.len], fun j d' h => by
    by_cases q : i = j
    · subst q
      by_cases hl : i < e.length
      · rw [List.getElem?_set_self hl] at h
        cases h
        exact ⟨v, List.getElem?_set_self (by rw [← x.len]; exact hl), r⟩
      · rw [List.getElem?_eq_none (by simpa using hl)] at h
        cases h
    · rw [List.getElem?_set_ne q] at h ⊢
      exact x.at_ j d' h⟩
theorem EnvOk.wipe {K : PySem.W.Frag} {ρ : Rho} {H : Hp} {e : Env} {σ : L2.St} (x : EnvOk K ρ H e σ) : ∀ vs : List Nat, EnvOk K ρ H (wipeE e vs) (L2.wipe σ vs)
  | [] => x
  | v :: vs => by
    have ih := EnvOk.wipe x vs
    refine ⟨by simp only [wipeE, L2.wipe, List.length_set]; exact ih.len, fun j d' h => ?_⟩
    simp only [wipeE, L2.wipe] at h ⊢
    by_cases q : v = j
    · subst q
      by_cases hl : v < (wipeE e vs).length
      · rw [List.getElem?_set_self hl] at h
        cases h
      · rw [List.getElem?_eq_none (by simpa using hl)] at h
        cases h
    · rw [List.getElem?_set_ne q] at h ⊢
      exact ih.at_ j d' h

/-! ### judgements -/
/-- a wish of exceptions by the class's number -/
def RG {α β : Type} (Rl : Rho → Hp → α → β → Prop) (K : PySem.W.Frag) (cl : Nat → Addr) (W : XK) (ρ : Rho) (H : Hp) (Q : β → Hp → Prop) : R α → Prop
  | .ok a m => ∀ v ρ' H', Tr ρ ρ' H H' → Rl ρ' H' a v → MemOk K ρ' H' m → Q v H'
  | .ex c m => ∀ ρ' H', Tr ρ ρ' H H' → MemOk K ρ' H' m → W (.ref (cl c)) none H'
  | .no => False
section
variable {K : PySem.W.Frag} {cl : Nat → Addr} {W : XK} {ρ ρ1 : Rho} {H H1 : Hp} {α β γ δ : Type} {Rl : Rho → Hp → α → β → Prop} {Rm : Rho → Hp → γ → δ → Prop} {Q : β → Hp → Prop}
theorem RG.tr {r : R α} (t : Tr ρ ρ1 H H1) (h : RG Rl K cl W ρ H Q r) : RG Rl K cl W ρ1 H1 Q r := by
  cases r with
  | ok a m => exact fun v ρ' H' t' => h v ρ' H' (t.trans t')
  | ex c m => exact fun ρ' H' t' => h ρ' H' (t.trans t')
  | no => exact h
/-- the first part of a run -/
theorem RG.seq {r : R γ} {f : γ → Mem → R α} (h : RG Rl K cl W ρ H Q (r.bind f)) :
    RG Rm K cl W ρ H (fun v H1 => ∃ ρ1 a m1, Tr ρ ρ1 H H1 ∧ Rm ρ1 H1 a v ∧ MemOk K ρ1 H1 m1 ∧ RG Rl K cl W ρ1 H1 Q (f a m1)) r := by
  cases r with
  | ok a m => exact fun v ρ' H' t r x => ⟨ρ', a, m, t, r, x, RG.tr t h⟩
  | ex c m => exact h
  | no => exact h
theorem RG.mono {Q' : β → Hp → Prop} {r : R α} (h : RG Rl K cl W ρ H Q r) (k : ∀ v H, Q v H → Q' v H) : RG Rl K cl W ρ H Q' r := by
  cases r with
  | ok a m => exact fun v ρ' H' t r x => k _ _ (h v ρ' H' t r x)
  | ex c m => exact h
  | no => exact h
end

section
variable (X : Cx) (cl : Nat → Addr) (W : WX)
/-- an expression's reading -/
def tE (m : Env → Mem → R D) : TE := fun σ H Q => ∃ ρ e μ, EnvOk X.K ρ H e σ ∧ MemOk X.K ρ H μ ∧ RG (Rep X.K) X.K cl (fun c d => W c d σ) ρ H Q (m e μ)
def tT (m : Env → Mem → R Bool) : TT := fun σ H Q => ∃ ρ e μ, EnvOk X.K ρ H e σ ∧ MemOk X.K ρ H μ ∧ RG (fun _ _ a b => a = b) X.K cl (fun c d => W c d σ) ρ H Q (m e μ)
def tA (m : Env → Mem → R (List D)) : TA := fun σ H Q => ∃ ρ e μ, EnvOk X.K ρ H e σ ∧ MemOk X.K ρ H μ ∧ RG (Reps X.K) X.K cl (fun c d => W c d σ) ρ H Q (m e μ)
def ME (e : Expr) (m : Env → Mem → R D) : Prop := PE X e (tE X cl W m)
def MT (e : Expr) (m : Env → Mem → R Bool) : Prop := PT X e (tT X cl W m)
def MA (es : List Expr) (m : Env → Mem → R (List D)) : Prop := PA X es (tA X cl W m)
end
section
variable {X : Cx} {cl : Nat → Addr} {W : WX} {e : Expr} {es : List Expr}
theorem PE.imp {t t' : TE} (h : PE X e t) (k : ∀ σ H Q, t' σ H Q → t σ H Q) : PE X e t' := ⟨fun pins s σ H Q I q => h.run pins s σ H Q I (k σ H Q q)⟩
theorem PT.imp {t t' : TT} (h : PT X e t) (k : ∀ σ H Q, t' σ H Q → t σ H Q) : PT X e t' := ⟨fun pins s σ H Q I q => h.run pins s σ H Q I (k σ H Q q)⟩
theorem PA.imp {t t' : TA} (h : PA X es t) (k : ∀ σ H Q, t' σ H Q → t σ H Q) : PA X es t' := ⟨fun pos pins s σ H Q I q => h.run pos pins s σ H Q I (k σ H Q q)⟩
/-- the first part of an expression is run, then what follows -/
theorem tE.first {m : Env → Mem → R D} {f : Env → D → Mem → R D} {σ : L2.St} {H : Hp} {Q : VK} (h : tE X cl W (fun e μ => (m e μ).bind (f e)) σ H Q) {k : VK}
    (hk : ∀ v H1 ρ1 e a m1, EnvOk X.K ρ1 H1 e σ → Rep X.K ρ1 H1 a v → MemOk X.K ρ1 H1 m1 → RG (Rep X.K) X.K cl (fun c d => W c d σ) ρ1 H1 Q (f e a m1) → k v H1) : tE X cl W m σ H k := by
  obtain ⟨ρ, e, μ, h1, h2, h3⟩ := h
  refine ⟨ρ, e, μ, h1, h2, (RG.seq (Rm := Rep X.K) h3).mono fun v H1 ⟨ρ1, a, m1, t, r, x, q⟩ => hk v H1 ρ1 e a m1 (h1.tr t) r x q⟩
end
end Py
end

section
set_option Elab.async false
set_option linter.all false
set_option maxRecDepth 100000
set_option maxHeartbeats 1000000
/-! PyOps: operators on plain values. -/
namespace Py
open PySem L2 PyProof.Rows
open PySem (Str)
variable [Tabs]

/-! ### what is read -/
def View (K : PySem.W.Frag) (ρ : Rho) (H : Hp) (d : D) (x : V) : Prop := match d with
  | .lst xs => ∃ a vs, x = .ref a ∧ SqL K H a vs ∧ RepPs K ρ H xs vs
  | .tup xs => ∃ a vs, x = .ref a ∧ SqT K H a vs ∧ RepPs K ρ H xs vs
  | .non => x = .non
  | .bl b => x = .bl b
  | .int i => x = .int i
  | .str s => x = .str s ∧ StrOk s
  | _ => False
section
variable {K : PySem.W.Frag} {ρ : Rho} {H : Hp} {m : Mem} {d e : D} {x : V}
theorem RepP.view (h : RepP K ρ H d x) : View K ρ H d x := by
  cases h with
  | non => exact rfl
  | bl b => exact rfl
  | int i => exact rfl
  | str s k => exact ⟨rfl, k⟩
  | lst h hs => exact ⟨_, _, rfl, h.sq, hs⟩
  | tup h hs => exact ⟨_, _, rfl, h.sq, hs⟩
theorem Rep.view (h : Rep K ρ H d x) (k : MemOk K ρ H m) (q : der m d = some e) : View K ρ H e x := by
  cases d with
  | ref l =>
    obtain ⟨o, h1, h2⟩ := h
    simp only [der] at q
    cases hm : m[l]? with
    | none => rw [hm] at q; simp at q
    | some c =>
      have kc := k.cell l c hm
      rw [hm] at q
      cases c with
      | lst xs =>
        simp at q
        subst q
        obtain ⟨a, vs, e1, e2, e3⟩ := kc
        rw [h1] at e1
        have := h2 a (Option.some.inj e1)
        exact ⟨a, vs, this, SqL.of e2, e3⟩
      | _ => simp at q
  | non => simp only [der, Option.some.injEq] at q; subst q; exact RepP.view h
  | bl b => simp only [der, Option.some.injEq] at q; subst q; exact RepP.view h
  | int i => simp only [der, Option.some.injEq] at q; subst q; exact RepP.view h
  | str s => simp only [der, Option.some.injEq] at q; subst q; exact RepP.view h
  | tup ds => simp only [der, Option.some.injEq] at q; subst q; exact RepP.view h
  | lst ds => simp only [der, Option.some.injEq] at q; subst q; exact RepP.view h
  | dct _ => exact nomatch h
  | dtp _ => exact nomatch h
  | exc _ => exact nomatch h
  | lck d =>
    simp only [der, Option.some.injEq] at q
    subst q
    cases d with
    | lst ds =>
      obtain ⟨a, vs, e, q, k⟩ := h
      exact ⟨a, vs, e, q.sq, k⟩
    | _ => exact nomatch h
/-- as View, a list stands by itself -/
def ViewX (K : PySem.W.Frag) (ρ : Rho) (H : Hp) (d : D) (x : V) : Prop := match d with
  | .lst xs => ∃ a vs, x = .ref a ∧ H a = some (.lst vs) ∧ RepPs K ρ H xs vs
  | d => View K ρ H d x
theorem Rep.viewX (h : Rep K ρ H d x) (k : MemOk K ρ H m) (q : derX m d = some e) : ViewX K ρ H e x := by
  cases d with
  | ref l =>
    obtain ⟨o, h1, h2⟩ := h
    simp only [derX] at q
    cases hm : m[l]? with
    | none => rw [hm] at q; simp at q
    | some c =>
      have kc := k.cell l c hm
      rw [hm] at q
      cases c with
      | lst xs =>
        simp at q
        subst q
        obtain ⟨a, vs, e1, e2, e3⟩ := kc
        rw [h1] at e1
        have := h2 a (Option.some.inj e1)
        exact ⟨a, vs, this, e2, e3⟩
      | _ => simp at q
  | non => simp only [derX, Option.some.injEq] at q; subst q; exact RepP.view h
  | bl b => simp only [derX, Option.some.injEq] at q; subst q; exact RepP.view h
  | int i => simp only [derX, Option.some.injEq] at q; subst q; exact RepP.view h
  | str s => simp only [derX, Option.some.injEq] at q; subst q; exact RepP.view h
  | tup ds => simp only [derX, Option.some.injEq] at q; subst q; exact RepP.view h
  | lst ds =>
    simp only [derX, Option.some.injEq] at q
    subst q
    have z : RepP K ρ H (.lst ds) x := h
    cases z with
    | lst a b => exact ⟨_, _, rfl, a.2, b⟩
  | dct _ => exact nomatch h
  | dtp _ => exact nomatch h
  | exc _ => exact nomatch h
  | lck d => simp [derX] at q
theorem derX_tup {ds : List D} (q : derX m d = some (.tup ds)) : d = .tup ds := by
  cases d with
  | ref l =>
    simp only [derX] at q
    split at q <;> simp at q
  | _ => simp [derX] at q <;> first | (rw [q]) | skip
theorem Rep.isI {i : Int} (h : Rep K ρ H (.int i) x) : x = .int i := RepP.view h
theorem Rep.isB {b : Bool} (h : Rep K ρ H (.bl b) x) : x = .bl b := RepP.view h
end

/-! ### as data -/
mutual
def toP : D → PyData
  | .non => .none
  | .bl b => .bool b
  | .int i => .int i
  | .str s => .str s
  | .tup ds => .tuple (toPs ds)
  | .lst ds => .list (toPs ds)
  | _ => .none
def toPs : List D → List PyData
  | [] => []
  | d :: ds => toP d :: toPs ds
end
mutual
theorem RepP.canLay {K : PySem.W.Frag} {ρ : Rho} {H : Hp} : ∀ {d : D} {v : V}, RepP K ρ H d v → (toP d).canLay0 = true
  | _, _, .non => rfl
  | _, _, .bl b => rfl
  | _, _, .int i => rfl
  | _, _, .str x k => by simp only [toP, PyData.canLay0]; exact k.cps
  | _, _, .lst _ hs => by simp only [toP, PyData.canLay0]; exact RepPs.canLay hs
  | _, _, .tup _ hs => by simp only [toP, PyData.canLay0]; exact RepPs.canLay hs
theorem RepPs.canLay {K : PySem.W.Frag} {ρ : Rho} {H : Hp} : ∀ {ds : List D} {vs : List V}, RepPs K ρ H ds vs → PyData.canLayAll0 (toPs ds) = true
  | _, _, .nil => by simp [toPs, PyData.canLayAll0]
  | _, _, .cons h hs => by simp only [toPs, PyData.canLayAll0, RepP.canLay h, RepPs.canLay hs, Bool.and_self]
end
mutual
theorem toP_depth : ∀ d : D, (toP d).depth = dep d
  | .non => rfl
  | .bl b => rfl
  | .int i => rfl
  | .str s => rfl
  | .tup ds => by simp only [toP, PyData.depth, dep, toPs_depth ds]
  | .lst ds => by simp only [toP, PyData.depth, dep, toPs_depth ds]
  | .dct _ => rfl
  | .dtp _ => rfl
  | .ref _ => rfl
  | .exc _ => rfl
  | .lck _ => rfl
theorem toPs_depth : ∀ ds : List D, PyData.depthAll (toPs ds) = deps ds
  | [] => by simp [toPs, PyData.depthAll, deps]
  | d :: ds => by simp only [toPs, PyData.depthAll, deps, toP_depth d, toPs_depth ds]
end
section
variable {X : Cx} {pins : List (Addr × Obj)} {σ : L2.St} {H : Hp} {s : Shared} {ρ : Rho}
mutual
theorem RepP.reads (I : Inv X pins σ H s) : ∀ {d : D} {v : V} {u : Value}, RepP X.K ρ H d v → RelV v u → ∃ as, Reads s.heap u (toP d) as
  | _, _, _, .non, r => by cases r; exact ⟨_, Reads.none⟩
  | _, _, _, .bl b, r => by cases r; exact ⟨_, Reads.bool b⟩
  | _, _, _, .int i, r => by obtain ⟨t, rfl⟩ := r; exact ⟨_, Reads.int i t⟩
  | _, _, _, .str x _, r => by obtain ⟨t, rfl⟩ := r; exact ⟨_, Reads.str x t⟩
  | _, _, _, .lst h hs, r => by
    cases r
    obtain ⟨its, rv, ⟨o, n, ho, hc, _, hd⟩, _⟩ := I.list h.sq
    obtain ⟨as, hr⟩ := RepPs.reads I hs rv
    exact ⟨_, by simp only [toP]; exact Reads.list ho hc hd hr⟩
  | _, _, _, .tup h hs, r => by
    cases r
    obtain ⟨its, rv, ⟨o, ho, hc, n, hd⟩, _⟩ := I.tuple h.sq
    obtain ⟨as, hr⟩ := RepPs.reads I hs rv
    exact ⟨_, by simp only [toP]; exact Reads.tuple ho hc hd hr⟩
theorem RepPs.reads (I : Inv X pins σ H s) : ∀ {ds : List D} {vs : List V} {us : List Value}, RepPs X.K ρ H ds vs → Vals vs us → ∃ as, ReadsAll s.heap us (toPs ds) as
  | _, _, _, .nil, r => by cases r; exact ⟨_, by simp only [toPs]; exact ReadsAll.nil⟩
  | _, _, _, .cons h hs, r => by
    cases r with
    | cons r1 r2 =>
      obtain ⟨as, q1⟩ := RepP.reads I h r1
      obtain ⟨bs, q2⟩ := RepPs.reads I hs r2
      exact ⟨_, by simp only [toPs]; exact ReadsAll.cons q1 q2⟩
end
theorem View.reads (I : Inv X pins σ H s) {d : D} {v : V} {u : Value} (h : View X.K ρ H d v) (r : RelV v u) : ∃ as, Reads s.heap u (toP d) as := by
  cases d with
  | non => cases h; cases r; exact ⟨_, Reads.none⟩
  | bl b => cases h; cases r; exact ⟨_, Reads.bool b⟩
  | int i => cases h; obtain ⟨t, rfl⟩ := r; exact ⟨_, Reads.int i t⟩
  | str x => obtain ⟨rfl, _⟩ := h; obtain ⟨t, rfl⟩ := r; exact ⟨_, Reads.str x t⟩
  | lst ds =>
    obtain ⟨a, vs, rfl, h, hs⟩ := h
    cases r
    obtain ⟨its, rv, ⟨o, n, ho, hc, _, hd⟩, _⟩ := I.list h
    obtain ⟨as, hr⟩ := RepPs.reads I hs rv
    exact ⟨_, by simp only [toP]; exact Reads.list ho hc hd hr⟩
  | tup ds =>
    obtain ⟨a, vs, rfl, h, hs⟩ := h
    cases r
    obtain ⟨its, rv, ⟨o, ho, hc, n, hd⟩, _⟩ := I.tuple h
    obtain ⟨as, hr⟩ := RepPs.reads I hs rv
    exact ⟨_, by simp only [toP]; exact Reads.tuple ho hc hd hr⟩
  | dct _ => exact h.elim
  | dtp _ => exact h.elim
  | ref _ => exact h.elim
  | exc _ => exact h.elim
  | lck _ => exact h.elim
end
theorem View.canLay {K : PySem.W.Frag} {ρ : Rho} {H : Hp} {d : D} {v : V} (h : View K ρ H d v) : (toP d).canLay0 = true := by
  cases d with
  | non => rfl
  | bl b => rfl
  | int i => rfl
  | str x => simp only [toP, PyData.canLay0]; exact h.2.cps
  | lst ds => obtain ⟨a, vs, rfl, h, hs⟩ := h; simp only [toP, PyData.canLay0]; exact RepPs.canLay hs
  | tup ds => obtain ⟨a, vs, rfl, h, hs⟩ := h; simp only [toP, PyData.canLay0]; exact RepPs.canLay hs
  | dct _ => exact h.elim
  | dtp _ => exact h.elim
  | ref _ => exact h.elim
  | exc _ => exact h.elim
  | lck _ => exact h.elim
mutual
theorem RepP.eqv {K : PySem.W.Frag} {ρ : Rho} {H : Hp} : ∀ {d e : D} {v w : V}, RepP K ρ H d v → RepP K ρ H e w → (toP d).eqv (toP e) = eqB d e
  | _, _, _, _, .non, h' => by cases h' <;> simp only [toP, PyData.eqv, eqB]
  | _, _, _, _, .bl b, h' => by cases h' <;> simp only [toP, PyData.eqv, eqB, Py.b2i]
  | _, _, _, _, .int i, h' => by cases h' <;> simp only [toP, PyData.eqv, eqB, Py.b2i]
  | _, _, _, _, .str x _, h' => by cases h' <;> simp only [toP, PyData.eqv, eqB]
  | _, _, _, _, .lst _ hs, h' => by
    cases h' with
    | lst _ hs' => simp only [toP, PyData.eqv, eqB]; exact RepPs.eqv hs hs'
    | _ => simp only [toP, PyData.eqv, eqB]
  | _, _, _, _, .tup _ hs, h' => by
    cases h' with
    | tup _ hs' => simp only [toP, PyData.eqv, eqB]; exact RepPs.eqv hs hs'
    | _ => simp only [toP, PyData.eqv, eqB]
theorem RepPs.eqv {K : PySem.W.Frag} {ρ : Rho} {H : Hp} : ∀ {ds es : List D} {vs ws : List V}, RepPs K ρ H ds vs → RepPs K ρ H es ws → PyData.eqvAll (toPs ds) (toPs es) = eqBs ds es
  | _, _, _, _, .nil, h' => by cases h' <;> simp only [toPs, PyData.eqvAll, eqBs]
  | _, _, _, _, .cons h hs, h' => by
    cases h' with
    | nil => simp only [toPs, PyData.eqvAll, eqBs]
    | cons k ks => simp only [toPs, PyData.eqvAll, eqBs, RepP.eqv h k, RepPs.eqv hs ks]
end
theorem View.eqv {K : PySem.W.Frag} {ρ : Rho} {H : Hp} {d e : D} {v w : V} (h : View K ρ H d v) (h' : View K ρ H e w) : (toP d).eqv (toP e) = eqB d e := by
  cases d with
  | dct _ => exact h.elim
  | dtp _ => exact h.elim
  | ref _ => exact h.elim
  | exc _ => exact h.elim
  | lck _ => exact h.elim
  | lst ds =>
    cases e with
    | lst es =>
      obtain ⟨_, _, _, _, hs⟩ := h
      obtain ⟨_, _, _, _, hs'⟩ := h'
      simp only [toP, PyData.eqv, eqB]
      exact RepPs.eqv hs hs'
    | dct _ => exact h'.elim
    | dtp _ => exact h'.elim
    | ref _ => exact h'.elim
    | exc _ => exact h'.elim
    | lck _ => exact h'.elim
    | _ => simp only [toP, PyData.eqv, eqB]
  | tup ds =>
    cases e with
    | tup es =>
      obtain ⟨_, _, _, _, hs⟩ := h
      obtain ⟨_, _, _, _, hs'⟩ := h'
      simp only [toP, PyData.eqv, eqB]
      exact RepPs.eqv hs hs'
    | dct _ => exact h'.elim
    | dtp _ => exact h'.elim
    | ref _ => exact h'.elim
    | exc _ => exact h'.elim
    | lck _ => exact h'.elim
    | _ => simp only [toP, PyData.eqv, eqB]
  | _ =>
    cases e with
    | dct _ => exact h'.elim
    | dtp _ => exact h'.elim
    | ref _ => exact h'.elim
    | exc _ => exact h'.elim
    | lck _ => exact h'.elim
    | _ => simp only [toP, PyData.eqv, eqB, Py.b2i]

/-! ### rules by values -/
/-- two values in, a value out, by the evaluator's word -/
def rS (K : PySem.W.Frag) (sem : D → D → Mem → Option D) : R2 := fun x y H Q => ∃ ρ μ dx dy d, MemOk K ρ H μ ∧ Rep K ρ H dx x ∧ Rep K ρ H dy y ∧ sem dx dy μ = some d ∧
  ∀ v H', Tr ρ ρ H H' → Rep K ρ H' d v → MemOk K ρ H' μ → Q v H'
def OpS (X : Cx) (f : Value → Value → Sem Value) (sem : D → D → Mem → Option D) : Prop := OpR X f (rS X.K sem)
section
variable {X : Cx}
theorem rS.here {K : PySem.W.Frag} {ρ : Rho} {H : Hp} {μ : Mem} {d : D} {Q : VK} (mo : MemOk K ρ H μ) (q : ∀ v H', Tr ρ ρ H H' → Rep K ρ H' d v → MemOk K ρ H' μ → Q v H') {v : V} (r : Rep K ρ H d v) : Q v H := q v H Tr.refl r mo
theorem eqC_some {x y d : D} {b : Bool} (h : eqC x y = some b) : min (dep x) (dep y) ≤ dq ∧ b = eqB x y := by
  unfold eqC at h
  split at h
  · rename_i z; exact ⟨z.1, (Option.some.inj h).symm⟩
  · cases h
theorem opEq (hu : X.A.units + 200 < cLine) : OpS X (compareOp .Eq) (op2 .eq) := by
  intro pins s σ H x y v u Q I rx ry h
  obtain ⟨ρ, μ, dx, dy, d, mo, h1, h2, h3, q⟩ := h
  simp only [op2, eqD] at h3
  obtain ⟨b, h4, e4⟩ := Option.map_eq_some_iff.mp h3
  obtain ⟨x', e1, h5⟩ := Option.bind_eq_some_iff.mp h4
  obtain ⟨y', e2, h6⟩ := Option.bind_eq_some_iff.mp h5
  obtain ⟨hd, eb⟩ := eqC_some (d := x') h6
  subst eb
  subst e4
  have v1 := h1.view mo e1
  have v2 := h2.view mo e2
  obtain ⟨as, r1⟩ := v1.reads I rx
  obtain ⟨bs, r2⟩ := v2.reads I ry
  refine SeqAt.compareEq_reads r1 r2 v1.canLay v2.canLay (by rw [toP_depth, toP_depth]; have : dq = 60 := rfl; omega) ?_
  exact ⟨.bl _, H, I, by rw [v1.eqv v2]; rfl, rS.here mo q (RepP.bl _)⟩
theorem opNe (hu : X.A.units + 200 < cLine) : OpS X (compareOp .NotEq) (op2 .ne) := by
  intro pins s σ H x y v u Q I rx ry h
  obtain ⟨ρ, μ, dx, dy, d, mo, h1, h2, h3, q⟩ := h
  simp only [op2, eqD] at h3
  obtain ⟨b, h4, e4⟩ := Option.map_eq_some_iff.mp h3
  obtain ⟨x', e1, h5⟩ := Option.bind_eq_some_iff.mp h4
  obtain ⟨y', e2, h6⟩ := Option.bind_eq_some_iff.mp h5
  obtain ⟨hd, eb⟩ := eqC_some (d := x') h6
  subst eb
  subst e4
  have v1 := h1.view mo e1
  have v2 := h2.view mo e2
  obtain ⟨as, r1⟩ := v1.reads I rx
  obtain ⟨bs, r2⟩ := v2.reads I ry
  refine SeqAt.compareNe_reads r1 r2 v1.canLay v2.canLay (by rw [toP_depth, toP_depth]; have : dq = 60 := rfl; omega) ?_
  exact ⟨.bl _, H, I, by rw [v1.eqv v2]; rfl, rS.here mo q (RepP.bl _)⟩
theorem any_eqv {K : PySem.W.Frag} {ρ : Rho} {H : Hp} {d : D} {v : V} (h : View K ρ H d v) : ∀ {ds : List D} {vs : List V}, RepPs K ρ H ds vs → ((toPs ds).any fun z => PyData.eqv z (toP d)) = ds.any fun y => eqB y d
  | _, _, .nil => by simp [toPs]
  | _, _, .cons k ks => by simp only [toPs, List.any_cons, any_eqv h ks, k.view.eqv h]
/-! ### dicts whose keys are tuples -/
section
variable {X : Cx} {pins : List (Addr × Obj)} {σ : L2.St} {H : Hp} {s : Shared} {ρ : Rho}
mutual
theorem RepP.nest (I : Inv X pins σ H s) : ∀ {d : D} {v : V} {u : Value}, RepP X.K ρ H d v → RelV v u → keyd d = true → NestedIs s.heap (nkey d) u
  | _, _, _, .non, r, _ => by cases r; exact .none
  | _, _, _, .bl b, r, _ => by cases r; exact .bool rfl
  | _, _, _, .int i, r, _ => by obtain ⟨t, rfl⟩ := r; exact .int i t
  | _, _, _, .str x _, r, _ => by obtain ⟨t, rfl⟩ := r; exact .text x t
  | _, _, _, .lst _ _, _, k => by simp [keyd] at k
  | _, _, _, .tup h hs, r, k => by
    cases r
    obtain ⟨its, rv, ⟨o, ho, hc, n, hd⟩, _⟩ := I.tuple h.sq
    have := RepPs.nest I hs rv (by simpa [keyd] using k)
    exact .tup ho hc hd (by simpa using this)
theorem RepPs.nest (I : Inv X pins σ H s) : ∀ {ds : List D} {vs : List V} {us : List Value}, RepPs X.K ρ H ds vs → Vals vs us → keyds ds = true → NestedAll s.heap (nkeys ds) us
  | _, _, _, .nil, r, _ => by cases r; exact .nil
  | _, _, _, .cons h hs, r, k => by
    simp only [keyds, Bool.and_eq_true] at k
    cases r with
    | cons r1 r2 => exact .cons (RepP.nest I h r1 k.1) (RepPs.nest I hs r2 k.2)
end
theorem keyOk_parts {d : D} (k : keyOk d = true) : (∃ ds, d = .tup ds) ∧ keyd d = true ∧ dep d ≤ 6 := by
  simp only [keyOk, Bool.and_eq_true, decide_eq_true_eq] at k
  refine ⟨?_, k.1.2, k.2⟩
  cases d <;> simp [isTupD] at k
  exact ⟨_, rfl⟩
theorem RepP.keyIs (I : Inv X pins σ H s) {d : D} {b : Addr} (r : RepP X.K ρ H d (.ref b)) (k : keyOk d = true) : (nestedKind X.prog X.w).is s.heap (nkey d) b := by
  obtain ⟨_, k1, k2⟩ := keyOk_parts k
  exact ⟨r.nest I rfl k1, Nat.le_trans (nkey_depth d k1) (by omega)⟩
/-- a key as it is read -/
theorem View.keyIs (I : Inv X pins σ H s) {d : D} {v : V} {u : Value} (h : View X.K ρ H d v) (r : RelV v u) (k : keyOk d = true) : ∃ b, v = .ref b ∧ u = .ref b ∧ (nestedKind X.prog X.w).is s.heap (nkey d) b := by
  obtain ⟨⟨ds, rfl⟩, k1, k2⟩ := keyOk_parts k
  obtain ⟨a, vs, rfl, h, hs⟩ := h
  cases r
  obtain ⟨its, rv, ⟨o, ho, hc, n, hd⟩, _⟩ := I.tuple h
  have := RepPs.nest I hs rv (by simpa [keyd] using k1)
  exact ⟨a, rfl, rfl, .tup ho hc hd (by simpa using this), Nat.le_trans (nkey_depth _ k1) (by omega)⟩
/-- pairs and entries -/
structure XR (K : PySem.W.Frag) (ρ : Rho) (H : Hp) (p : D × D) (x : NestedKey × Addr × Value) : Prop where
  ok : keyOk p.1 = true
  nk : x.1 = nkey p.1
  key : RepP K ρ H p.1 (.ref x.2.1)
  val : ∃ v, RepP K ρ H p.2 v ∧ RelV v x.2.2
abbrev entX (x : NestedKey × Addr × Value) : DictEntry := ⟨x.1.hash Tabs.wd, .ref x.2.1, x.2.2⟩
theorem EntRs.xs {K : PySem.W.Frag} : ∀ {ps : List (D × D)} {es : List DictEntry}, EntRs K ρ H ps es → ∃ xs, es = xs.map entX ∧ Paired (XR K ρ H) ps xs
  | _, _, .nil => ⟨[], rfl, .nil⟩
  | _, _, .cons (p := p) (e := e) h hs => by
    obtain ⟨xs, h1, h2⟩ := EntRs.xs hs
    obtain ⟨b, hb, rb⟩ := h.key
    refine ⟨(nkey p.1, b, e.val) :: xs, ?_, .cons ⟨h.ok, rfl, rb, h.val⟩ h2⟩
    rw [List.map_cons, ← h1]
    congr 1
    show e = ⟨(nkey p.1).hash Tabs.wd, .ref b, e.val⟩
    rw [← h.hash, ← hb]
theorem EntRs.of {K : PySem.W.Frag} : ∀ {ps : List (D × D)} {xs : List (NestedKey × Addr × Value)}, Paired (XR K ρ H) ps xs → EntRs K ρ H ps (xs.map entX)
  | _, _, .nil => .nil
  | _, _, .cons h hs => .cons ⟨h.ok, by rw [← h.nk], ⟨_, rfl, h.key⟩, h.val⟩ (EntRs.of hs)
theorem XR.keys {K : PySem.W.Frag} : ∀ {ps : List (D × D)} {xs : List (NestedKey × Addr × Value)}, Paired (XR K ρ H) ps xs → xs.map (·.1) = ps.map fun p => nkey p.1
  | _, _, .nil => rfl
  | _, _, .cons h hs => by rw [List.map_cons, List.map_cons, XR.keys hs, h.nk]
theorem XR.len {K : PySem.W.Frag} : ∀ {ps : List (D × D)} {xs : List (NestedKey × Addr × Value)}, Paired (XR K ρ H) ps xs → ps.length = xs.length
  | _, _, .nil => rfl
  | _, _, .cons _ hs => by rw [List.length_cons, List.length_cons, XR.len hs]
/-- what stands at a key -/
theorem XR.get {K : PySem.W.Frag} {k : D} (hk : keyOk k = true) : ∀ {ps : List (D × D)} {xs : List (NestedKey × Addr × Value)}, Paired (XR K ρ H) ps xs →
    (dGet ps k = none ∧ atKey xs (nkey k) = none) ∨ ∃ d b u v, dGet ps k = some d ∧ atKey xs (nkey k) = some (b, u) ∧ RepP K ρ H d v ∧ RelV v u
  | _, _, .nil => .inl ⟨rfl, rfl⟩
  | _, _, .cons (a := p) (b := x) (l₁ := ps) (l₂ := xs) h hs => by
    have e1 := nkey_eq p.1 k (keyOk_parts h.ok).2.1 (keyOk_parts hk).2.1
    by_cases q : nkey p.1 = nkey k
    · obtain ⟨v, h1, h2⟩ := h.val
      refine .inr ⟨p.2, x.2.1, x.2.2, v, ?_, ?_, h1, h2⟩
      · simp [dGet, List.find?_cons, e1, q]
      · simp [atKey, List.find?_cons, h.nk, q]
    · have a1 : dGet (p :: ps) k = dGet ps k := by simp only [dGet, List.find?_cons, e1, decide_eq_false q]
      have a2 : atKey (x :: xs) (nkey k) = atKey xs (nkey k) := by simp only [atKey, List.find?_cons, h.nk, decide_eq_false q]
      rw [a1, a2]
      exact XR.get hk hs
theorem XR.map {K : PySem.W.Frag} {k d : D} {v : V} {u : Value} (hk : keyOk k = true) (rd : RepP K ρ H d v) (ru : RelV v u) : ∀ {ps : List (D × D)} {xs : List (NestedKey × Addr × Value)}, Paired (XR K ρ H) ps xs →
    Paired (XR K ρ H) (ps.map fun p => if eqB p.1 k then (p.1, d) else p) (xs.map (putAt (nkey k) u))
  | _, _, .nil => .nil
  | _, _, .cons (a := p) (b := x) h hs => by
    rw [List.map_cons, List.map_cons]
    refine .cons ?_ (XR.map hk rd ru hs)
    have e1 := nkey_eq p.1 k (keyOk_parts h.ok).2.1 (keyOk_parts hk).2.1
    unfold putAt
    by_cases q : nkey p.1 = nkey k
    · rw [if_pos (by rw [e1]; exact decide_eq_true q), if_pos (h.nk.trans q)]
      exact ⟨h.ok, h.nk, h.key, v, rd, ru⟩
    · rw [if_neg (by rw [e1]; simpa using q), if_neg (fun z => q (h.nk.symm.trans z))]
      exact h
theorem XR.put {K : PySem.W.Frag} {k d : D} {b : Addr} {v : V} {u : Value} (hk : keyOk k = true) (rk : RepP K ρ H k (.ref b)) (rd : RepP K ρ H d v) (ru : RelV v u) {ps : List (D × D)} {xs : List (NestedKey × Addr × Value)} (h : Paired (XR K ρ H) ps xs) :
    Paired (XR K ρ H) (dPut ps k d) (storedH xs (nkey k) b u) := by
  rcases XR.get hk h with ⟨h1, h2⟩ | ⟨d', b', u', v', h1, h2, _, _⟩
  · rw [dPut, h1, storedH_new h2]
    exact Paired.snoc h ⟨hk, rfl, rk, v, rd, ru⟩
  · rw [dPut, h1, storedH_old h2]
    exact XR.map hk rd ru h
theorem XR.are (I : Inv X pins σ H s) : ∀ {ps : List (D × D)} {xs : List (NestedKey × Addr × Value)}, Paired (XR X.K ρ H) ps xs → ∀ y ∈ xs, (nestedKind X.prog X.w).is s.heap y.1 y.2.1
  | _, _, .nil => fun _ h => nomatch h
  | _, _, .cons h hs => fun y hy => by
    rcases List.mem_cons.mp hy with rfl | hy
    · rw [h.nk]; exact RepP.keyIs I h.key h.ok
    · exact XR.are I hs y hy
/-- the dict that stands there -/
theorem Ents.dict (I : Inv X pins σ H s) (hw : X.w = Tabs.wd) {a : Addr} {kvs : List (D × D)} {es : Array DictEntry} (x : Ents X.K ρ H a kvs es) (hd : ∃ ep, s.heap.DictRaw a es ep) :
    ∃ xs, es.toList = xs.map entX ∧ Paired (XR X.K ρ H) kvs xs ∧ s.heap.DictOfH (nestedKind X.prog X.w) a xs := by
  obtain ⟨xs, h1, h2⟩ := x.ents.xs
  obtain ⟨ep, o, ho, hx, hdat⟩ := hd
  refine ⟨xs, h1, h2, o, es, ep, ho, hx, hdat, ?_, ?_, ?_⟩
  · rw [h1]
    have : (entX : NestedKey × Addr × Value → DictEntry) = entryOfKey (nestedKind X.prog X.w) := by
      funext y
      show (⟨y.1.hash Tabs.wd, .ref y.2.1, y.2.2⟩ : DictEntry) = ⟨y.1.hash X.w, .ref y.2.1, y.2.2⟩
      rw [hw]
    rw [this]
  · exact XR.are I h2
  · rw [XR.keys h2]; exact x.nodup
theorem dphi_raw {a : Addr} {es : Array DictEntry} (I : Inv X pins σ H s) (h : Rd H a (DPhi a es)) : ∃ ep, s.heap.DictRaw a es ep := by
  rcases h with h | ⟨o, h⟩
  · exact (I.hok a _ h).1
  · exact (I.hok a _ h).2.1
/-- a dict in memory -/
theorem dct_at {K : PySem.W.Frag} {m : Mem} {d : D} {v : V} {kvs : List (D × D)} (r : Rep K ρ H d v) (x : MemOk K ρ H m) (h : dctOf m d = some kvs) : ∃ a es, v = .ref a ∧ Rd H a (DPhi a es) ∧ Ents K ρ H a kvs es := by
  cases d with
  | ref l =>
    obtain ⟨o, h1, h2⟩ := r
    simp only [dctOf] at h
    cases hm : m[l]? with
    | none => rw [hm] at h; simp at h
    | some c =>
      have kc := x.cell l c hm
      rw [hm] at h
      cases c with
      | dtp ks =>
        simp at h; subst h
        obtain ⟨a, es, e1, e2, e3⟩ := kc
        rw [h1] at e1
        exact ⟨a, es, h2 a (Option.some.inj e1), .inl e2, e3⟩
      | lck c =>
        cases c with
        | dtp ks =>
          simp at h; subst h
          obtain ⟨a, es, o', e1, e2, e3⟩ := kc
          rw [h1] at e1
          exact ⟨a, es, h2 a (Option.some.inj e1), .inr ⟨o', e2⟩, e3⟩
        | _ => simp at h
      | _ => simp at h
  | _ => simp [dctOf] at h
end
theorem opIn (hu : X.A.units + 200 < cLine) (hw : X.w = Tabs.wd) : OpS X (compareOp .In) (op2 .in_) := by
  intro pins s σ H x y v u Q I rx ry h
  obtain ⟨ρ, μ, dx, dy, d, mo, h1, h2, h3, q⟩ := h
  simp only [op2, inD] at h3
  obtain ⟨b, h4, e4⟩ := Option.map_eq_some_iff.mp h3
  obtain ⟨x', e1, h5⟩ := Option.bind_eq_some_iff.mp h4
  subst e4
  have v1 := h1.view mo e1
  obtain ⟨as, r1⟩ := v1.reads I rx
  cases hk : dctOf μ dy with
  | some kvs =>
    rw [hk] at h5
    simp only at h5
    split at h5
    · rename_i ko
      cases h5
      obtain ⟨a, es, rfl, rd, ents⟩ := dct_at h2 mo hk
      cases ry
      obtain ⟨kb, rfl, rfl, ki⟩ := v1.keyIs I rx ko
      obtain ⟨xs, x1, x2, x3⟩ := ents.dict I hw (dphi_raw I rd)
      refine wpAny_in_heap (show X.A.in1.units + 8 < cLine by show X.A.units + 1 + 8 < cLine; omega) ki ents.sys x3 ?_
      have e : (dGet kvs x').isSome = (atKey xs (nkey x')).isSome := by
        rcases XR.get ko x2 with ⟨z1, z2⟩ | ⟨_, _, _, _, z1, z2, _⟩ <;> rw [z1, z2] <;> rfl
      exact ⟨.bl _, H, I.tok _, by rw [← e]; rfl, rS.here mo q (RepP.bl _)⟩
    · cases h5
  | none =>
    rw [hk] at h5
    simp only [inS] at h5
    obtain ⟨y', e2, h6⟩ := Option.bind_eq_some_iff.mp h5
    have v2 := h2.view mo e2
    obtain ⟨bs, r2⟩ := v2.reads I ry
    have hdq : dq = 60 := rfl
    cases y' with
    | lst ds =>
      simp only at h6
      split at h6
      · rename_i hd
        cases h6
        have c2 := v2.canLay
        simp only [toP, PyData.canLay0] at c2 r2
        obtain ⟨_, _, _, _, hs⟩ := v2
        refine SeqAt.in_list_reads r2 r1 c2 v1.canLay (by rw [toP_depth, toPs_depth]; omega) ?_
        exact ⟨.bl _, H, I, by rw [any_eqv v1 hs]; rfl, rS.here mo q (RepP.bl _)⟩
      · cases h6
    | tup ds =>
      simp only at h6
      split at h6
      · rename_i hd
        cases h6
        have c2 := v2.canLay
        simp only [toP, PyData.canLay0] at c2 r2
        obtain ⟨_, _, _, _, hs⟩ := v2
        refine SeqAt.in_tuple_reads r2 r1 c2 v1.canLay (by rw [toP_depth, toPs_depth]; omega) ?_
        exact ⟨.bl _, H, I, by rw [any_eqv v1 hs]; rfl, rS.here mo q (RepP.bl _)⟩
      · cases h6
    | _ => cases h6
theorem opNotIn (hu : X.A.units + 200 < cLine) (hw : X.w = Tabs.wd) : OpS X (compareOp .NotIn) (op2 .notin) := by
  intro pins s σ H x y v u Q I rx ry h
  obtain ⟨ρ, μ, dx, dy, d, mo, h1, h2, h3, q⟩ := h
  simp only [op2, inD] at h3
  obtain ⟨b, h4, e4⟩ := Option.map_eq_some_iff.mp h3
  obtain ⟨x', e1, h5⟩ := Option.bind_eq_some_iff.mp h4
  subst e4
  have v1 := h1.view mo e1
  obtain ⟨as, r1⟩ := v1.reads I rx
  cases hk : dctOf μ dy with
  | some kvs =>
    rw [hk] at h5
    simp only at h5
    split at h5
    · rename_i ko
      cases h5
      obtain ⟨a, es, rfl, rd, ents⟩ := dct_at h2 mo hk
      cases ry
      obtain ⟨kb, rfl, rfl, ki⟩ := v1.keyIs I rx ko
      obtain ⟨xs, x1, x2, x3⟩ := ents.dict I hw (dphi_raw I rd)
      refine PyProof.Rows.wpAny_notIn_heap (show X.A.in1.units + 8 < cLine by show X.A.units + 1 + 8 < cLine; omega) ki ents.sys x3 ?_
      have e : (dGet kvs x').isSome = (atKey xs (nkey x')).isSome := by
        rcases XR.get ko x2 with ⟨z1, z2⟩ | ⟨_, _, _, _, z1, z2, _⟩ <;> rw [z1, z2] <;> rfl
      exact ⟨.bl _, H, I.tok _, by rw [← e]; rfl, rS.here mo q (RepP.bl _)⟩
    · cases h5
  | none =>
    rw [hk] at h5
    simp only [inS] at h5
    obtain ⟨y', e2, h6⟩ := Option.bind_eq_some_iff.mp h5
    have v2 := h2.view mo e2
    obtain ⟨bs, r2⟩ := v2.reads I ry
    have hdq : dq = 60 := rfl
    cases y' with
    | lst ds =>
      simp only at h6
      split at h6
      · rename_i hd
        cases h6
        have c2 := v2.canLay
        simp only [toP, PyData.canLay0] at c2 r2
        obtain ⟨_, _, _, _, hs⟩ := v2
        refine SeqAt.notIn_list_reads r2 r1 c2 v1.canLay (by rw [toP_depth, toPs_depth]; omega) ?_
        exact ⟨.bl _, H, I, by rw [any_eqv v1 hs]; rfl, rS.here mo q (RepP.bl _)⟩
      · cases h6
    | tup ds =>
      simp only at h6
      split at h6
      · rename_i hd
        cases h6
        have c2 := v2.canLay
        simp only [toP, PyData.canLay0] at c2 r2
        obtain ⟨_, _, _, _, hs⟩ := v2
        refine SeqAt.notIn_tuple_reads r2 r1 c2 v1.canLay (by rw [toP_depth, toPs_depth]; omega) ?_
        exact ⟨.bl _, H, I, by rw [any_eqv v1 hs]; rfl, rS.here mo q (RepP.bl _)⟩
      · cases h6
    | _ => cases h6
end
end Py
end

section
set_option Elab.async false
set_option linter.all false
set_option maxRecDepth 100000
set_option maxHeartbeats 1000000
/-! PyOps2: arithmetic, order, is. -/
namespace Py
open PySem L2 PyProof.Rows
open PySem (Str)
variable [Tabs]
section
variable {K : PySem.W.Frag} {ρ : Rho} {H : Hp} {μ : Mem} {ds : List D} {vs : List V} {Q : VK}
theorem rep_newT (mo : MemOk K ρ H μ) (hs : RepPs K ρ H ds vs) {p : Addr} (hp : H p = none) : Rep K ρ (upd H p (.tup vs)) (.tup ds) (.ref p) :=
  RepP.tup (.inl ⟨mo.fz hp, .inl upd_same⟩) (hs.mono (Tr.new1 hp).mo)
theorem rep_newL (mo : MemOk K ρ H μ) (hs : RepPs K ρ H ds vs) {p : Addr} (hp : H p = none) : Rep K ρ (upd H p (.lst vs)) (.lst ds) (.ref p) :=
  RepP.lst ⟨mo.fz hp, upd_same⟩ (hs.mono (Tr.new1 hp).mo)
theorem fin_tup (mo : MemOk K ρ H μ) (hs : RepPs K ρ H ds vs) (q : ∀ v H', Tr ρ ρ H H' → Rep K ρ H' (.tup ds) v → MemOk K ρ H' μ → Q v H') : ∀ p, H p = none → Q (.ref p) (upd H p (.tup vs)) :=
  fun p hp => q _ _ (Tr.new1 hp) (rep_newT mo hs hp) (mo.new1 hp)
theorem fin_lst (mo : MemOk K ρ H μ) (hs : RepPs K ρ H ds vs) (q : ∀ v H', Tr ρ ρ H H' → Rep K ρ H' (.lst ds) v → MemOk K ρ H' μ → Q v H') : ∀ p, H p = none → Q (.ref p) (upd H p (.lst vs)) :=
  fun p hp => q _ _ (Tr.new1 hp) (rep_newL mo hs hp) (mo.new1 hp)
theorem fits_line {n : Nat} (h : fits n = true) : n ≤ sizeLine := by
  have h' : n ≤ 10000000 := of_decide_eq_true h
  rw [sizeLine_eq]
  omega
theorem strOk_append {s t : Str} (a : StrOk s) (b : StrOk t) (h : fits (s.length + t.length) = true) : StrOk (s ++ t) := by
  have e : (s ++ t : Str) = ⟨s.cps ++ t.cps⟩ := rfl
  refine ⟨?_, ?_⟩
  · have z := fits_line h
    rw [e]
    show (s.cps ++ t.cps).size ≤ _
    rw [Array.size_append]
    exact z
  · rw [e]
    show (s.cps ++ t.cps).all _ = true
    rw [Array.all_append]
    have a2 : s.cps.all (fun x => decide (x < 0x110000)) = true := a.cps
    have b2 : t.cps.all (fun x => decide (x < 0x110000)) = true := b.cps
    rw [a2, b2]
    rfl
end
section
variable {X : Cx}
/-- two ints -/
theorem opInts {f : Value → Value → Sem Value} {o : Bop} {g : Int → Int → D} {C : Int → Int → Prop} {gv : Int → Int → V}
    (ho : OpR X f (rI C gv)) (hg : ∀ x y m d, op2 o x y m = some d → ∃ i j, x = .int i ∧ y = .int j ∧ C i j ∧ d = g i j)
    (hv : ∀ (ρ : Rho) (H : Hp) i j, Rep X.K ρ H (g i j) (gv i j)) : OpS X f (op2 o) := by
  intro pins s σ H x y v u Q I rx ry h
  obtain ⟨ρ, μ, dx, dy, d, mo, h1, h2, h3, q⟩ := h
  obtain ⟨i, j, rfl, rfl, hc, rfl⟩ := hg _ _ _ _ h3
  exact ho pins s σ H x y v u Q I rx ry ⟨i, j, h1.isI, h2.isI, hc, rS.here mo q (hv ρ H i j)⟩
theorem opSub : OpS X (binaryOp .Sub) (op2 .sub) := by
  refine opInts (C := fun _ _ => True) (g := fun i j => .int (i - j)) (gv := fun i j => .int (i - j)) (opI fun _ _ _ _ _ _ _ _ q => sub_int q) (fun x y m d h => ?_) (fun _ _ _ _ => RepP.int _)
  simp only [op2] at h
  split at h
  · cases h; exact ⟨_, _, rfl, rfl, trivial, rfl⟩
  · cases h
theorem opFdiv : OpS X (binaryOp .FloorDiv) (op2 .fdiv) := by
  refine opInts (g := fun i j => .int (i.fdiv j)) op_fdivN (fun x y m d h => ?_) (fun _ _ _ _ => RepP.int _)
  simp only [op2] at h
  split at h
  · split at h
    · rename_i z; cases h; exact ⟨_, _, rfl, rfl, z, rfl⟩
    · cases h
  · cases h
theorem opMod : OpS X (binaryOp .Mod) (op2 .mod) := by
  refine opInts (g := fun i j => .int (i.fmod j)) op_modN (fun x y m d h => ?_) (fun _ _ _ _ => RepP.int _)
  simp only [op2] at h
  split at h
  · split at h
    · rename_i z; cases h; exact ⟨_, _, rfl, rfl, z, rfl⟩
    · cases h
  · cases h
theorem opPow : OpS X (binaryOp .Pow) (op2 .pow) := by
  refine opInts (g := fun i j => .int (i ^ j.toNat)) op_pow (fun x y m d h => ?_) (fun _ _ _ _ => RepP.int _)
  simp only [op2] at h
  split at h
  · split at h
    · rename_i z; cases h; exact ⟨_, _, rfl, rfl, ⟨z.1, by have := z.2.1; omega, z.2.2⟩, rfl⟩
    · cases h
  · cases h
theorem opAdd : OpS X (binaryOp .Add) (op2 .add) := by
  intro pins s σ H x y v u Q I rx ry h
  obtain ⟨ρ, μ, dx, dy, d, mo, h1, h2, h3, q⟩ := h
  simp only [op2] at h3
  obtain ⟨x', e1, h5⟩ := Option.bind_eq_some_iff.mp h3
  obtain ⟨y', e2, h6⟩ := Option.bind_eq_some_iff.mp h5
  have v1 := h1.viewX mo e1
  have v2 := h2.viewX mo e2
  unfold addD at h6
  split at h6
  · cases h6
    exact op_add pins s σ H x y v u Q I rx ry ⟨_, _, v1, v2, rS.here mo q (RepP.int _)⟩
  · split at h6
    · rename_i z
      cases h6
      obtain ⟨rfl, k1⟩ := v1
      obtain ⟨rfl, k2⟩ := v2
      exact op_add_str pins s σ H _ _ v u Q I rx ry ⟨_, _, rfl, rfl, fits_line z, rS.here mo q (RepP.str _ (strOk_append k1 k2 z))⟩
    · cases h6
  · split at h6
    · rename_i z
      cases h6
      have d1 := derX_tup e1
      have d2 := derX_tup e2
      subst d1 d2
      obtain ⟨a, vs, rfl, q1, r1⟩ := v1
      obtain ⟨b, ws, rfl, q2, r2⟩ := v2
      have l1 := r1.length
      have l2 := r2.length
      refine op_catA pins s σ H _ _ v u Q I rx ry ⟨a, b, vs, ws, rfl, rfl, q1, q2, by have := fits_line z; omega, fun e => ?_, fun e e' => ?_, fun _ _ => fin_tup mo (r1.append r2) q⟩
      · subst e
        cases r1
        exact rS.here mo q h2
      · subst e'
        cases r2
        rw [List.append_nil] at q
        exact rS.here mo q h1
    · cases h6
  · split at h6
    · rename_i z
      cases h6
      obtain ⟨a, vs, rfl, q1, r1⟩ := v1
      obtain ⟨b, ws, rfl, q2, r2⟩ := v2
      have l1 := r1.length
      have l2 := r2.length
      exact op_cat pins s σ H _ _ v u Q I rx ry ⟨a, b, vs, ws, rfl, rfl, q1, q2, by have := fits_line z; omega, fin_lst mo (r1.append r2) q⟩
    · cases h6
  · cases h6
theorem small_of {i : Int} (h : small64 i = true) : -(2 ^ 64) < i ∧ i < 2 ^ 64 := by
  unfold small64 at h
  have := of_decide_eq_true h
  constructor <;> omega
theorem RepPs.rep {K : PySem.W.Frag} {ρ : Rho} {H : Hp} {ds : List D} {vs : List V} (h : RepPs K ρ H ds vs) : ∀ n : Nat, RepPs K ρ H (repL n ds) (List.replicate n vs).flatten
  | 0 => .nil
  | n + 1 => by
    rw [List.replicate_succ, List.flatten_cons]
    exact h.append (RepPs.rep h n)
theorem opMul : OpS X (binaryOp .Mult) (op2 .mul) := by
  intro pins s σ H x y v u Q I rx ry h
  obtain ⟨ρ, μ, dx, dy, d, mo, h1, h2, h3, q⟩ := h
  simp only [op2] at h3
  obtain ⟨x', e1, h5⟩ := Option.bind_eq_some_iff.mp h3
  obtain ⟨y', e2, h6⟩ := Option.bind_eq_some_iff.mp h5
  have v1 := h1.viewX mo e1
  have v2 := h2.viewX mo e2
  unfold mulD at h6
  split at h6
  · split at h6
    · rename_i z
      cases h6
      refine op_mul pins s σ H x y v u Q I rx ry ⟨_, _, v1, v2, ?_, rS.here mo q (RepP.int _)⟩
      rw [Bool.or_eq_true] at z
      exact z.imp small_of small_of
    · cases h6
  · split at h6
    · rename_i z
      cases h6
      rw [Bool.and_eq_true] at z
      obtain ⟨a, vs, rfl, q1, r1⟩ := v1
      have l1 := r1.length
      have z1 := fits_line z.1
      have z2 := of_decide_eq_true z.2
      refine op_rep pins s σ H _ _ v u Q I rx ry ⟨a, _, vs, rfl, v2, q1, by omega, by omega, by rw [← l1]; exact z1, fin_lst mo (r1.rep _) q⟩
    · cases h6
  · cases h6
/-! ### order -/
theorem lexAt_ltBs : ∀ (ds es : List D) (k : Nat), k = min ds.length es.length → ∀ i : Nat,
    Ob.lexAt (fun j => eqB (ds.getD (j - i) .non) (es.getD (j - i) .non)) (fun j => ltB (ds.getD (j - i) .non) (es.getD (j - i) .non)) (decide (ds.length < es.length)) i k = ltBs ds es
  | [], [], k, h, i => by subst h; rfl
  | [], _ :: _, k, h, i => by
    have e : k = 0 := by rw [h]; simp
    subst e
    simp [Ob.lexAt_zero, ltBs]
  | _ :: _, [], k, h, i => by
    have e : k = 0 := by rw [h]; simp
    subst e
    simp [Ob.lexAt_zero, ltBs]
  | d :: ds, e :: es, k, h, i => by
    have hk : k = min ds.length es.length + 1 := by rw [h]; simp only [List.length_cons]; omega
    subst hk
    rw [Ob.lexAt_succ]
    simp only [Nat.sub_self, List.getD_cons_zero, ltBs]
    have ih := lexAt_ltBs ds es _ rfl (i + 1)
    have z : Ob.lexAt (fun j => eqB ((d :: ds).getD (j - i) .non) ((e :: es).getD (j - i) .non)) (fun j => ltB ((d :: ds).getD (j - i) .non) ((e :: es).getD (j - i) .non)) (decide ((d :: ds).length < (e :: es).length)) (i + 1) (min ds.length es.length) = ltBs ds es := by
      rw [← ih]
      have go : ∀ (k j : Nat), i + 1 ≤ j → Ob.lexAt (fun j => eqB ((d :: ds).getD (j - i) .non) ((e :: es).getD (j - i) .non)) (fun j => ltB ((d :: ds).getD (j - i) .non) ((e :: es).getD (j - i) .non)) (decide ((d :: ds).length < (e :: es).length)) j k =
          Ob.lexAt (fun j => eqB (ds.getD (j - (i + 1)) .non) (es.getD (j - (i + 1)) .non)) (fun j => ltB (ds.getD (j - (i + 1)) .non) (es.getD (j - (i + 1)) .non)) (decide (ds.length < es.length)) j k := by
        intro k
        induction k with
        | zero => intro j _; simp [Ob.lexAt_zero]
        | succ k ihk =>
          intro j hj
          rw [Ob.lexAt_succ, Ob.lexAt_succ, ihk (j + 1) (by omega)]
          obtain ⟨t, ht⟩ : ∃ t, j - i = t + 1 := ⟨j - i - 1, by omega⟩
          have ht2 : j - (i + 1) = t := by omega
          simp only [ht, ht2, List.getD_cons_succ]
      exact go _ _ (Nat.le_refl _)
    rw [z]
theorem RepPs.getD {K : PySem.W.Frag} {ρ : Rho} {H : Hp} {ds : List D} {vs : List V} (h : RepPs K ρ H ds vs) {j : Nat} (hj : j < ds.length) : ∃ v, vs[j]? = some v ∧ RepP K ρ H (ds.getD j .non) v := by
  have e : ds[j]? = some (ds.getD j .non) := by rw [List.getD_eq_getElem?_getD, List.getElem?_eq_getElem hj]; rfl
  exact h.get e
theorem dep_getD : ∀ {ds : List D} {j : Nat}, j < ds.length → dep (ds.getD j .non) ≤ deps ds
  | [], j, h => by simp at h
  | d :: ds, 0, _ => by simp only [List.getD_cons_zero, deps]; omega
  | d :: ds, j + 1, h => by
    have := dep_getD (ds := ds) (j := j) (by simpa using h)
    simp only [List.getD_cons_succ, deps]
    omega
theorem ordOks_getD : ∀ {ds es : List D}, ordOks ds es = true → ∀ {j : Nat}, j < ds.length → j < es.length → ordOk (ds.getD j .non) (es.getD j .non) = true
  | [], _, _, j, h, _ => by simp at h
  | _ :: _, [], _, j, _, h => by simp at h
  | d :: ds, e :: es, q, 0, _, _ => by
    simp only [ordOks, Bool.and_eq_true] at q
    simpa using q.1
  | d :: ds, e :: es, q, j + 1, h, h' => by
    simp only [ordOks, Bool.and_eq_true] at q
    simpa using ordOks_getD q.2 (j := j) (by simpa using h) (by simpa using h')
theorem rcLt {pins : List (Addr × Obj)} {s : Shared} {σ : L2.St} {H : Hp} {ρ : Rho} (I : L2.Inv X pins σ H s) : ∀ (n : Nat) (A : Around) {d e : D} {v w : V} {u t : Value}, dep d ≤ n → RepP X.K ρ H d v → RepP X.K ρ H e w → RelV v u → RelV w t → ordOk d e = true →
    A.units + min (dep d) (dep e) < cLine → Ob.RcOp .Lt A s u t (ltB d e) := by
  intro n
  induction n with
  | zero =>
    intro A d e v w u t hn h1 h2 r1 r2 ho hu
    cases h1 with
    | int i =>
      cases h2 with
      | int j => obtain ⟨t1, rfl⟩ := r1; obtain ⟨t2, rfl⟩ := r2; simp only [ltB]; exact Ob.RcOp.lt_int _ _ _ _
      | _ => simp [ordOk] at ho
    | str x _ =>
      cases h2 with
      | str y _ => obtain ⟨t1, rfl⟩ := r1; obtain ⟨t2, rfl⟩ := r2; simp only [ltB, strLt]; exact fun _ _ _ _ q => PySem.P.lt_str q
      | _ => simp [ordOk] at ho
    | tup _ _ => simp [dep] at hn
    | _ => cases h2 <;> simp [ordOk] at ho
  | succ n ih =>
    intro A d e v w u t hn h1 h2 r1 r2 ho hu
    cases h1 with
    | int i =>
      cases h2 with
      | int j => obtain ⟨t1, rfl⟩ := r1; obtain ⟨t2, rfl⟩ := r2; simp only [ltB]; exact Ob.RcOp.lt_int _ _ _ _
      | _ => simp [ordOk] at ho
    | str x _ =>
      cases h2 with
      | str y _ => obtain ⟨t1, rfl⟩ := r1; obtain ⟨t2, rfl⟩ := r2; simp only [ltB, strLt]; exact fun _ _ _ _ q => PySem.P.lt_str q
      | _ => simp [ordOk] at ho
    | @tup a vs ds ha hs =>
      cases h2 with
      | @tup b ws es hb ks =>
        cases r1
        cases r2
        simp only [ordOk] at ho
        simp only [dep] at hn hu
        obtain ⟨its, rv, p1, _⟩ := I.tuple ha.sq
        obtain ⟨its2, rw', p2, _⟩ := I.tuple hb.sq
        have l1 := hs.length.trans rv.length
        have l2 := ks.length.trans rw'.length
        have e1 : its.toArray.size = ds.length := by rw [List.size_toArray]; exact l1.symm
        have e2 : its2.toArray.size = es.length := by rw [List.size_toArray]; exact l2.symm
        simp only [ltB]
        have R := Ob.RcOp.tuples_lt (A := A) (s := s) (e := fun j => eqB (ds.getD j .non) (es.getD j .non)) (r := fun j => ltB (ds.getD j .non) (es.getD j .non)) p1 p2 (by omega)
          (fun j j1 j2 => by
            have j1' : j < ds.length := by rw [← e1]; exact j1
            have j2' : j < es.length := by rw [← e2]; exact j2
            obtain ⟨v1, q1, k1⟩ := hs.getD j1'
            obtain ⟨v2, q2, k2⟩ := ks.getD j2'
            obtain ⟨u1, x1, y1⟩ := rv.get q1
            obtain ⟨u2, x2, y2⟩ := rw'.get q2
            have z1 : its.toArray[j] = u1 := by
              have := List.getElem?_eq_some_iff.mp x1
              obtain ⟨_, h⟩ := this
              simpa using h
            have z2 : its2.toArray[j] = u2 := by
              have := List.getElem?_eq_some_iff.mp x2
              obtain ⟨_, h⟩ := this
              simpa using h
            rw [z1, z2, ← k1.eqv k2]
            obtain ⟨as, g1⟩ := k1.reads I y1
            obtain ⟨bs, g2⟩ := k2.reads I y2
            refine SeqAt.eqAt_reads _ _ _ _ _ _ _ _ g1 g2 k1.canLay k2.canLay ?_
            rw [toP_depth, toP_depth]
            have d1 := dep_getD j1'
            have d2 := dep_getD j2'
            show A.units + 1 + _ < _
            omega)
          (fun j j1 j2 _ => by
            have j1' : j < ds.length := by rw [← e1]; exact j1
            have j2' : j < es.length := by rw [← e2]; exact j2
            obtain ⟨v1, q1, k1⟩ := hs.getD j1'
            obtain ⟨v2, q2, k2⟩ := ks.getD j2'
            obtain ⟨u1, x1, y1⟩ := rv.get q1
            obtain ⟨u2, x2, y2⟩ := rw'.get q2
            have z1 : its.toArray[j] = u1 := by
              have := List.getElem?_eq_some_iff.mp x1
              obtain ⟨_, h⟩ := this
              simpa using h
            have z2 : its2.toArray[j] = u2 := by
              have := List.getElem?_eq_some_iff.mp x2
              obtain ⟨_, h⟩ := this
              simpa using h
            rw [z1, z2]
            have d1 := dep_getD j1'
            have d2 := dep_getD j2'
            refine ih A.in1 (by omega) k1 k2 y1 y2 (ordOks_getD ho j1' j2') ?_
            show A.units + 1 + _ < _
            omega)
        have z := lexAt_ltBs ds es _ rfl 0
        simp only [Nat.sub_zero] at z
        rw [e1, e2, z] at R
        exact R
      | _ => simp [ordOk] at ho
    | _ => cases h2 <;> simp [ordOk] at ho
theorem ordOk_plain {d e : D} (h : ordOk d e = true) : (∀ l, d ≠ .ref l) ∧ (∀ l, e ≠ .ref l) ∧ (∀ l, d ≠ .lck l) ∧ ∀ l, e ≠ .lck l := by
  cases d <;> cases e <;> simp [ordOk] at h <;> simp
theorem Rep.pl {K : PySem.W.Frag} {ρ : Rho} {H : Hp} {d : D} {v : V} (h : Rep K ρ H d v) (h1 : ∀ l, d ≠ .ref l) (h2 : ∀ l, d ≠ .lck l) : RepP K ρ H d v := by
  cases d with
  | ref l => exact absurd rfl (h1 l)
  | lck l => exact absurd rfl (h2 l)
  | _ => exact h
theorem ltC_some {x y : D} {b : Bool} (h : ltC x y = some b) : min (dep x) (dep y) ≤ dq ∧ ordOk x y = true ∧ b = ltB x y := by
  unfold ltC at h
  split at h
  · rename_i z; exact ⟨z.1, z.2, (Option.some.inj h).symm⟩
  · cases h
theorem opLt (hu : X.A.units + 200 < cLine) : OpS X (compareOp .Lt) (op2 .lt) := by
  intro pins s σ H x y v u Q I rx ry h
  obtain ⟨ρ, μ, dx, dy, d, mo, h1, h2, h3, q⟩ := h
  simp only [op2] at h3
  obtain ⟨b, h4, e4⟩ := Option.map_eq_some_iff.mp h3
  obtain ⟨hd, ho, eb⟩ := ltC_some h4
  subst eb e4
  have hdq : dq = 60 := rfl
  have z := ordOk_plain ho
  exact rcLt I _ X.A (Nat.le_refl _) (h1.pl z.1 z.2.2.1) (h2.pl z.2.1 z.2.2.2) rx ry ho (by omega) X.prog X.w X.xe _ ⟨.bl _, H, I, rfl, rS.here mo q (RepP.bl _)⟩
end
end Py
end

section
set_option Elab.async false
set_option linter.all false
set_option maxRecDepth 100000
set_option maxHeartbeats 1000000
/-! PyOps3: greater, at most, at least, is. -/
namespace Py
open PySem L2 PyProof.Rows
open PySem (Str)
variable [Tabs]
theorem beq_comm' {α : Type} [BEq α] [LawfulBEq α] (a b : α) : (a == b) = (b == a) := by
  rw [Bool.eq_iff_iff, beq_iff_eq, beq_iff_eq]
  exact eq_comm
mutual
theorem eqB_comm : ∀ d e : D, eqB d e = eqB e d
  | .non, e => by cases e <;> simp only [eqB]
  | .bl a, e => by cases e <;> simp only [eqB] <;> exact beq_comm' _ _
  | .int a, e => by cases e <;> simp only [eqB] <;> exact beq_comm' _ _
  | .str a, e => by cases e <;> simp only [eqB] <;> exact beq_comm' _ _
  | .tup xs, e => by cases e <;> simp only [eqB]; exact eqBs_comm xs _
  | .lst xs, e => by cases e <;> simp only [eqB]; exact eqBs_comm xs _
  | .dct _, e => by cases e <;> simp only [eqB]
  | .dtp _, e => by cases e <;> simp only [eqB]
  | .ref _, e => by cases e <;> simp only [eqB]
  | .exc _, e => by cases e <;> simp only [eqB]
  | .lck _, e => by cases e <;> simp only [eqB]
theorem eqBs_comm : ∀ ds es : List D, eqBs ds es = eqBs es ds
  | [], [] => rfl
  | [], _ :: _ => by simp only [eqBs]
  | _ :: _, [] => by simp only [eqBs]
  | d :: ds, e :: es => by simp only [eqBs, eqB_comm d e, eqBs_comm ds es]
end
theorem eqBs_comm' (ds es : List D) : eqBs ds es = eqBs es ds := eqBs_comm ds es
section
variable {X : Cx}
theorem lexAt_gtBs : ∀ (ds es : List D) (k : Nat), k = min ds.length es.length → ∀ i : Nat,
    Ob.lexAt (fun j => eqB (ds.getD (j - i) .non) (es.getD (j - i) .non)) (fun j => ltB (es.getD (j - i) .non) (ds.getD (j - i) .non)) (decide (ds.length > es.length)) i k = ltBs es ds
  | [], [], k, h, i => by subst h; rfl
  | [], _ :: _, k, h, i => by
    have e : k = 0 := by rw [h]; simp
    subst e
    simp [Ob.lexAt_zero, ltBs]
  | _ :: _, [], k, h, i => by
    have e : k = 0 := by rw [h]; simp
    subst e
    simp [Ob.lexAt_zero, ltBs]
  | d :: ds, e :: es, k, h, i => by
    have hk : k = min ds.length es.length + 1 := by rw [h]; simp only [List.length_cons]; omega
    subst hk
    rw [Ob.lexAt_succ]
    simp only [Nat.sub_self, List.getD_cons_zero, ltBs]
    have ih := lexAt_gtBs ds es _ rfl (i + 1)
    have z : Ob.lexAt (fun j => eqB ((d :: ds).getD (j - i) .non) ((e :: es).getD (j - i) .non)) (fun j => ltB ((e :: es).getD (j - i) .non) ((d :: ds).getD (j - i) .non)) (decide ((d :: ds).length > (e :: es).length)) (i + 1) (min ds.length es.length) = ltBs es ds := by
      rw [← ih]
      have go : ∀ (k j : Nat), i + 1 ≤ j → Ob.lexAt (fun j => eqB ((d :: ds).getD (j - i) .non) ((e :: es).getD (j - i) .non)) (fun j => ltB ((e :: es).getD (j - i) .non) ((d :: ds).getD (j - i) .non)) (decide ((d :: ds).length > (e :: es).length)) j k =
          Ob.lexAt (fun j => eqB (ds.getD (j - (i + 1)) .non) (es.getD (j - (i + 1)) .non)) (fun j => ltB (es.getD (j - (i + 1)) .non) (ds.getD (j - (i + 1)) .non)) (decide (ds.length > es.length)) j k := by
        intro k
        induction k with
        | zero => intro j _; simp [Ob.lexAt_zero]
        | succ k ihk =>
          intro j hj
          rw [Ob.lexAt_succ, Ob.lexAt_succ, ihk (j + 1) (by omega)]
          obtain ⟨t, ht⟩ : ∃ t, j - i = t + 1 := ⟨j - i - 1, by omega⟩
          have ht2 : j - (i + 1) = t := by omega
          simp only [ht, ht2, List.getD_cons_succ]
      exact go _ _ (Nat.le_refl _)
    rw [z, eqB_comm d e]
theorem rcGt {pins : List (Addr × Obj)} {s : Shared} {σ : L2.St} {H : Hp} {ρ : Rho} (I : L2.Inv X pins σ H s) : ∀ (n : Nat) (A : Around) {d e : D} {v w : V} {u t : Value}, dep d ≤ n → RepP X.K ρ H d v → RepP X.K ρ H e w → RelV v u → RelV w t → ordOk e d = true →
    A.units + min (dep d) (dep e) < cLine → Ob.RcOp .Gt A s u t (ltB e d) := by
  intro n
  induction n with
  | zero =>
    intro A d e v w u t hn h1 h2 r1 r2 ho hu
    cases h1 with
    | int i =>
      cases h2 with
      | int j => obtain ⟨t1, rfl⟩ := r1; obtain ⟨t2, rfl⟩ := r2; simp only [ltB]; exact Ob.RcOp.gt_int _ _ _ _
      | _ => simp [ordOk] at ho
    | str x _ =>
      cases h2 with
      | str y _ => obtain ⟨t1, rfl⟩ := r1; obtain ⟨t2, rfl⟩ := r2; simp only [ltB, strLt]; exact fun _ _ _ _ q => PySem.P.gt_str q
      | _ => simp [ordOk] at ho
    | tup _ _ => simp [dep] at hn
    | _ => cases h2 <;> simp [ordOk] at ho
  | succ n ih =>
    intro A d e v w u t hn h1 h2 r1 r2 ho hu
    cases h1 with
    | int i =>
      cases h2 with
      | int j => obtain ⟨t1, rfl⟩ := r1; obtain ⟨t2, rfl⟩ := r2; simp only [ltB]; exact Ob.RcOp.gt_int _ _ _ _
      | _ => simp [ordOk] at ho
    | str x _ =>
      cases h2 with
      | str y _ => obtain ⟨t1, rfl⟩ := r1; obtain ⟨t2, rfl⟩ := r2; simp only [ltB, strLt]; exact fun _ _ _ _ q => PySem.P.gt_str q
      | _ => simp [ordOk] at ho
    | @tup a vs ds ha hs =>
      cases h2 with
      | @tup b ws es hb ks =>
        cases r1
        cases r2
        simp only [ordOk] at ho
        simp only [dep] at hn hu
        obtain ⟨its, rv, p1, _⟩ := I.tuple ha.sq
        obtain ⟨its2, rw', p2, _⟩ := I.tuple hb.sq
        have l1 := hs.length.trans rv.length
        have l2 := ks.length.trans rw'.length
        have e1 : its.toArray.size = ds.length := by rw [List.size_toArray]; exact l1.symm
        have e2 : its2.toArray.size = es.length := by rw [List.size_toArray]; exact l2.symm
        simp only [ltB]
        have R := Ob.RcOp.tuples_gt (A := A) (s := s) (e := fun j => eqB (ds.getD j .non) (es.getD j .non)) (r := fun j => ltB (es.getD j .non) (ds.getD j .non)) p1 p2 (by omega)
          (fun j j1 j2 => by
            have j1' : j < ds.length := by rw [← e1]; exact j1
            have j2' : j < es.length := by rw [← e2]; exact j2
            obtain ⟨v1, q1, k1⟩ := hs.getD j1'
            obtain ⟨v2, q2, k2⟩ := ks.getD j2'
            obtain ⟨u1, x1, y1⟩ := rv.get q1
            obtain ⟨u2, x2, y2⟩ := rw'.get q2
            have z1 : its.toArray[j] = u1 := by
              have := List.getElem?_eq_some_iff.mp x1
              obtain ⟨_, h⟩ := this
              simpa using h
            have z2 : its2.toArray[j] = u2 := by
              have := List.getElem?_eq_some_iff.mp x2
              obtain ⟨_, h⟩ := this
              simpa using h
            rw [z1, z2, ← k1.eqv k2]
            obtain ⟨as, g1⟩ := k1.reads I y1
            obtain ⟨bs, g2⟩ := k2.reads I y2
            refine SeqAt.eqAt_reads _ _ _ _ _ _ _ _ g1 g2 k1.canLay k2.canLay ?_
            rw [toP_depth, toP_depth]
            have d1 := dep_getD j1'
            have d2 := dep_getD j2'
            show A.units + 1 + _ < _
            omega)
          (fun j j1 j2 _ => by
            have j1' : j < ds.length := by rw [← e1]; exact j1
            have j2' : j < es.length := by rw [← e2]; exact j2
            obtain ⟨v1, q1, k1⟩ := hs.getD j1'
            obtain ⟨v2, q2, k2⟩ := ks.getD j2'
            obtain ⟨u1, x1, y1⟩ := rv.get q1
            obtain ⟨u2, x2, y2⟩ := rw'.get q2
            have z1 : its.toArray[j] = u1 := by
              have := List.getElem?_eq_some_iff.mp x1
              obtain ⟨_, h⟩ := this
              simpa using h
            have z2 : its2.toArray[j] = u2 := by
              have := List.getElem?_eq_some_iff.mp x2
              obtain ⟨_, h⟩ := this
              simpa using h
            rw [z1, z2]
            have d1 := dep_getD j1'
            have d2 := dep_getD j2'
            refine ih A.in1 (by omega) k1 k2 y1 y2 (ordOks_getD ho j2' j1') ?_
            show A.units + 1 + _ < _
            omega)
        have z := lexAt_gtBs ds es _ rfl 0
        simp only [Nat.sub_zero] at z
        rw [e1, e2, z] at R
        exact R
      | _ => simp [ordOk] at ho
    | _ => cases h2 <;> simp [ordOk] at ho
theorem opGt (hu : X.A.units + 200 < cLine) : OpS X (compareOp .Gt) (op2 .gt) := by
  intro pins s σ H x y v u Q I rx ry h
  obtain ⟨ρ, μ, dx, dy, d, mo, h1, h2, h3, q⟩ := h
  simp only [op2] at h3
  obtain ⟨b, h4, e4⟩ := Option.map_eq_some_iff.mp h3
  obtain ⟨hd, ho, eb⟩ := ltC_some h4
  subst eb e4
  have hdq : dq = 60 := rfl
  have z := ordOk_plain ho
  exact rcGt I _ X.A (Nat.le_refl _) (h1.pl z.2.1 z.2.2.2) (h2.pl z.1 z.2.2.1) rx ry ho (by omega) X.prog X.w X.xe _ ⟨.bl _, H, I, rfl, rS.here mo q (RepP.bl _)⟩
theorem opLe : OpS X (compareOp .LtE) (op2 .le) := by
  intro pins s σ H x y v u Q I rx ry h
  obtain ⟨ρ, μ, dx, dy, d, mo, h1, h2, h3, q⟩ := h
  simp only [op2] at h3
  split at h3
  · cases h3
    obtain rfl := h1.isI
    obtain rfl := h2.isI
    obtain ⟨t1, rfl⟩ := rx
    obtain ⟨t2, rfl⟩ := ry
    exact le_int ⟨.bl _, H, I, rfl, rS.here mo q (RepP.bl _)⟩
  · cases h3
    obtain ⟨rfl, _⟩ := RepP.view (d := .str _) h1
    obtain ⟨rfl, _⟩ := RepP.view (d := .str _) h2
    exact op_le_str pins s σ H _ _ v u Q I rx ry ⟨_, _, rfl, rfl, rS.here mo q (RepP.bl _)⟩
  · cases h3
theorem opGe : OpS X (compareOp .GtE) (op2 .ge) := by
  intro pins s σ H x y v u Q I rx ry h
  obtain ⟨ρ, μ, dx, dy, d, mo, h1, h2, h3, q⟩ := h
  simp only [op2] at h3
  split at h3
  · cases h3
    obtain rfl := h1.isI
    obtain rfl := h2.isI
    obtain ⟨t1, rfl⟩ := rx
    obtain ⟨t2, rfl⟩ := ry
    exact ge_int ⟨.bl _, H, I, rfl, rS.here mo q (RepP.bl _)⟩
  · cases h3
    obtain ⟨rfl, _⟩ := RepP.view (d := .str _) h1
    obtain ⟨rfl, _⟩ := RepP.view (d := .str _) h2
    exact op_ge_str pins s σ H _ _ v u Q I rx ry ⟨_, _, rfl, rfl, rS.here mo q (RepP.bl _)⟩
  · cases h3
theorem view_ne_non {K : PySem.W.Frag} {ρ : Rho} {H : Hp} {d : D} {v : V} (h : View K ρ H d v) (n : d ≠ .non) : v ≠ .non := by
  cases d with
  | non => exact absurd rfl n
  | bl b => cases h; simp
  | int b => cases h; simp
  | str b => obtain ⟨rfl, _⟩ := h; simp
  | lst b => obtain ⟨_, _, rfl, _⟩ := h; simp
  | tup b => obtain ⟨_, _, rfl, _⟩ := h; simp
  | _ => exact h.elim
theorem isId_some {d e : D} {b : Bool} (h : isId d e = some b) : (d = .non ∧ e = .non ∧ b = true) ∨ (∃ p q, d = .bl p ∧ e = .bl q ∧ b = (p == q)) ∨ (d ≠ .non ∧ e = .non ∧ b = false) := by
  unfold isId at h
  split at h
  · exact .inl ⟨rfl, rfl, (Option.some.inj h).symm⟩
  · exact .inr (.inl ⟨_, _, rfl, rfl, (Option.some.inj h).symm⟩)
  · split at h
    · refine .inr (.inr ⟨?_, rfl, (Option.some.inj h).symm⟩)
      rename_i z _ ; intro hh; subst hh; exact absurd rfl (by assumption)
    · cases h
  · cases h
theorem opIs : OpS X (compareOp .Is) (op2 .is_) := by
  intro pins s σ H x y v u Q I rx ry h
  obtain ⟨ρ, μ, dx, dy, d, mo, h1, h2, h3, q⟩ := h
  simp only [op2] at h3
  obtain ⟨x', e1, h5⟩ := Option.bind_eq_some_iff.mp h3
  obtain ⟨b, h4, e4⟩ := Option.map_eq_some_iff.mp h5
  subst e4
  have v1 := h1.view mo e1
  rcases isId_some h4 with ⟨rfl, rfl, rfl⟩ | ⟨p, q', rfl, rfl, rfl⟩ | ⟨n, rfl, rfl⟩
  · have v2 : y = .non := RepP.view (d := .non) h2
    exact op_isN pins s σ H x y v u Q I rx ry ⟨v2, by rw [show x = V.non from v1]; exact rS.here mo q (RepP.bl _)⟩
  · have v2 : y = .bl _ := RepP.view (d := .bl _) h2
    exact op_isBl pins s σ H x y v u Q I rx ry ⟨_, _, v1, v2, by rw [← Bool.beq_eq_decide_eq]; exact rS.here mo q (RepP.bl _)⟩
  · have v2 : y = .non := RepP.view (d := .non) h2
    have z := view_ne_non v1 n
    exact op_isN pins s σ H x y v u Q I rx ry ⟨v2, by rw [decide_eq_false z]; exact rS.here mo q (RepP.bl _)⟩
theorem opIsNot : OpS X (compareOp .IsNot) (op2 .isnot) := by
  intro pins s σ H x y v u Q I rx ry h
  obtain ⟨ρ, μ, dx, dy, d, mo, h1, h2, h3, q⟩ := h
  simp only [op2] at h3
  obtain ⟨x', e1, h5⟩ := Option.bind_eq_some_iff.mp h3
  obtain ⟨b, h4, e4⟩ := Option.map_eq_some_iff.mp h5
  subst e4
  have v1 := h1.view mo e1
  rcases isId_some h4 with ⟨rfl, rfl, rfl⟩ | ⟨p, q', rfl, rfl, rfl⟩ | ⟨n, rfl, rfl⟩
  · have v2 : y = .non := RepP.view (d := .non) h2
    exact op_notN pins s σ H x y v u Q I rx ry ⟨v2, by rw [show x = V.non from v1]; exact rS.here mo q (RepP.bl _)⟩
  · have v2 : y = .bl _ := RepP.view (d := .bl _) h2
    exact op_notBl pins s σ H x y v u Q I rx ry ⟨_, _, v1, v2, by rw [← Bool.beq_eq_decide_eq]; exact rS.here mo q (RepP.bl _)⟩
  · have v2 : y = .non := RepP.view (d := .non) h2
    have z := view_ne_non v1 n
    exact op_notN pins s σ H x y v u Q I rx ry ⟨v2, by rw [decide_eq_false z]; exact rS.here mo q (RepP.bl _)⟩
end
end Py
end

section
set_option Elab.async false
set_option linter.all false
set_option maxRecDepth 100000
set_option maxHeartbeats 400000
/-! PyExpr: expressions. -/
namespace Py
open PySem L2 PyProof.Rows
open PySem (Str)
variable [Tabs]
section
variable {X : Cx} {cl : Nat → Addr} {W : WX} {c : Cfg}
abbrev Me (X : Cx) (cl : Nat → Addr) (W : WX) (c : Cfg) (e : Expr) (t : C) : Prop := ME X cl W e (fun en μ => ev c en t μ)
abbrev Mt (X : Cx) (cl : Nat → Addr) (W : WX) (c : Cfg) (e : Expr) (t : C) : Prop := MT X cl W e (fun en μ => asBool (ev c en t μ))
abbrev Ma (X : Cx) (cl : Nat → Addr) (W : WX) (c : Cfg) (es : List Expr) (ts : List C) : Prop := MA X cl W es (fun en μ => evs c en ts μ)
/-- the state between two parts -/
structure At (X : Cx) (σ : L2.St) (ρ : Rho) (H : Hp) (e : Env) (μ : Mem) : Prop where
  env : EnvOk X.K ρ H e σ
  mem : MemOk X.K ρ H μ
abbrev RGE (X : Cx) (cl : Nat → Addr) (W : WX) (σ : L2.St) (ρ : Rho) (H : Hp) (Q : VK) (r : R D) : Prop := RG (Rep X.K) X.K cl (fun c d => W c d σ) ρ H Q r
/-- run a part, at a state -/
theorem tE.go {m : Env → Mem → R D} {α β : Type} {Rl : Rho → Hp → α → β → Prop} {f : D → Mem → R α} {σ : L2.St} {ρ : Rho} {H : Hp} {e : Env} {μ : Mem} {Q : β → Hp → Prop} (a : At X σ ρ H e μ)
    (h : RG Rl X.K cl (fun c d => W c d σ) ρ H Q ((m e μ).bind f)) {k : VK}
    (hk : ∀ v H1 ρ1 d μ1, Tr ρ ρ1 H H1 → At X σ ρ1 H1 e μ1 → Rep X.K ρ1 H1 d v → RG Rl X.K cl (fun c d => W c d σ) ρ1 H1 Q (f d μ1) → k v H1) : tE X cl W m σ H k := by
  refine ⟨ρ, e, μ, a.env, a.mem, (RG.seq (Rm := Rep X.K) h).mono fun v H1 ⟨ρ1, d, m1, t, r, x, q⟩ => hk v H1 ρ1 d m1 t ⟨a.env.tr t, x⟩ r q⟩
theorem tT.go {m : Env → Mem → R Bool} {α β : Type} {Rl : Rho → Hp → α → β → Prop} {f : Bool → Mem → R α} {σ : L2.St} {ρ : Rho} {H : Hp} {e : Env} {μ : Mem} {Q : β → Hp → Prop} (a : At X σ ρ H e μ)
    (h : RG Rl X.K cl (fun c d => W c d σ) ρ H Q ((m e μ).bind f)) {k : Bool → Hp → Prop}
    (hk : ∀ b H1 ρ1 μ1, Tr ρ ρ1 H H1 → At X σ ρ1 H1 e μ1 → RG Rl X.K cl (fun c d => W c d σ) ρ1 H1 Q (f b μ1) → k b H1) : tT X cl W m σ H k := by
  refine ⟨ρ, e, μ, a.env, a.mem, (RG.seq (Rm := fun _ _ a b => a = b) h).mono fun v H1 ⟨ρ1, d, m1, t, r, x, q⟩ => ?_⟩
  have r' : d = v := r
  subst r'
  exact hk d H1 ρ1 m1 t ⟨a.env.tr t, x⟩ q
theorem tA.go {m : Env → Mem → R (List D)} {α β : Type} {Rl : Rho → Hp → α → β → Prop} {f : List D → Mem → R α} {σ : L2.St} {ρ : Rho} {H : Hp} {e : Env} {μ : Mem} {Q : β → Hp → Prop} (a : At X σ ρ H e μ)
    (h : RG Rl X.K cl (fun c d => W c d σ) ρ H Q ((m e μ).bind f)) {k : List V → Hp → Prop}
    (hk : ∀ vs H1 ρ1 ds μ1, Tr ρ ρ1 H H1 → At X σ ρ1 H1 e μ1 → Reps X.K ρ1 H1 ds vs → RG Rl X.K cl (fun c d => W c d σ) ρ1 H1 Q (f ds μ1) → k vs H1) : tA X cl W m σ H k := by
  refine ⟨ρ, e, μ, a.env, a.mem, (RG.seq (Rm := Reps X.K) h).mono fun v H1 ⟨ρ1, d, m1, t, r, x, q⟩ => hk v H1 ρ1 d m1 t ⟨a.env.tr t, x⟩ r q⟩
/-- the run ends in a value -/
theorem RG.val {α β : Type} {Rl : Rho → Hp → α → β → Prop} {K : PySem.W.Frag} {W : XK} {ρ : Rho} {H : Hp} {Q : β → Hp → Prop} {a : α} {μ : Mem} {v : β} (h : RG Rl K cl W ρ H Q (.ok a μ)) (m : MemOk K ρ H μ) (r : Rl ρ H a v) : Q v H :=
  h v ρ H Tr.refl r m

/-! ### names, constants -/
theorem me_var (i : Nat) {x : Str} {pos : Pos} (hN : X.N[i]? = some x) (hv : Vis X.env.scope x) (hd : (x == ("__debug__" : Str)) = false) (hcd : (x == ("__classdict__" : Str)) = false) : Me X cl W c (.Name x pos) (.var i) := by
  refine PE.imp (pe_var hN hv hd hcd) fun σ H Q h => ?_
  obtain ⟨ρ, e, μ, h1, h2, h3⟩ := h
  dsimp only at h3
  rw [ev] at h3
  cases q : e[i]? with
  | none => rw [q] at h3; exact h3.elim
  | some o =>
    cases o with
    | none => rw [q] at h3; exact h3.elim
    | some d =>
      rw [q] at h3
      obtain ⟨v, e1, r⟩ := h1.at_ i d q
      exact ⟨v, e1, RG.val h3 h2 r⟩
theorem me_lit {e : Expr} {d : D} {v : V} (h : PE X e (tC v)) (hr : ∀ ρ H, Rep X.K ρ H d v) : Me X cl W c e (.lit d) := by
  refine PE.imp h fun σ H Q h => ?_
  obtain ⟨ρ, e, μ, h1, h2, h3⟩ := h
  dsimp only at h3
  rw [ev] at h3
  exact RG.val h3 h2 (hr ρ H)
theorem me_int {i : Int} {j : Nat} {pos : Pos} : Me X cl W c (.Constant (.int i) j pos) (.lit (.int i)) := me_lit pe_int fun _ _ => RepP.int i
theorem me_bl {b : Bool} {j : Nat} {pos : Pos} : Me X cl W c (.Constant (.bool b) j pos) (.lit (.bl b)) := me_lit pe_bl fun _ _ => RepP.bl b
theorem me_non {j : Nat} {pos : Pos} : Me X cl W c (.Constant .none j pos) (.lit .non) := me_lit pe_non fun _ _ => RepP.non
theorem me_str {s : Str} {j : Nat} {pos : Pos} (k : StrOk s) : Me X cl W c (.Constant (.str s) j pos) (.lit (.str s)) := me_lit pe_str fun _ _ => RepP.str s k
theorem strOk_lit {s : Str} (h : (decide (s.cps.size ≤ 1000) && PySem.PyData.strOk s) = true) : StrOk s := by
  rw [Bool.and_eq_true] at h
  refine ⟨?_, h.2⟩
  have z : s.cps.size ≤ 1000 := of_decide_eq_true h.1
  have : s.length = s.cps.size := rfl
  rw [this, sizeLine_eq]
  omega

/-! ### operators -/
theorem op_end {o : Bop} {f : Value → Value → Sem Value} (ho : OpS X f (op2 o)) {ta tb : C} {e1 e2 : Expr} {σ : L2.St} {H : Hp} {Q : VK}
    (h : tE X cl W (fun en μ => ev c en (.op o ta tb) μ) σ H Q) : tOp (rS X.K (op2 o)) (tE X cl W fun en μ => ev c en ta μ) (tE X cl W fun en μ => ev c en tb μ) σ H Q := by
  obtain ⟨ρ, e, μ, h1, h2, h3⟩ := h
  dsimp only at h3
  rw [ev] at h3
  refine tE.go ⟨h1, h2⟩ h3 fun x H1 ρ1 dx μ1 t1 a1 r1 h4 => ?_
  refine tE.go a1 h4 fun y H2 ρ2 dy μ2 t2 a2 r2 h5 => ?_
  cases q : op2 o dx dy μ2 with
  | none => rw [q] at h5; exact h5.elim
  | some d =>
    rw [q] at h5
    exact ⟨ρ2, μ2, dx, dy, d, a2.mem, r1.tr t2, r2, q, fun v H' t r m => h5 v ρ2 H' t r m⟩
theorem me_bin {o : Bop} {op : Operator} {a b : Expr} {ta tb : C} {pos : Pos} (ho : OpS X (binaryOp op) (op2 o)) (ha : Me X cl W c a ta) (hb : Me X cl W c b tb) : Me X cl W c (.BinOp a op b pos) (.op o ta tb) :=
  PE.imp (pe_op ho ha hb) fun σ H Q h => op_end (e1 := a) (e2 := b) ho h
theorem me_cmp {o : Bop} {op : CmpOp} {a b : Expr} {ta tb : C} {pos : Pos} (ho : OpS X (compareOp op) (op2 o)) (ha : Me X cl W c a ta) (hb : Me X cl W c b tb) (hm : behindInMarks op b = false) : Me X cl W c (.Compare a [op] [b] pos) (.op o ta tb) :=
  PE.imp (pe_cmpR ho ha hb hm) fun σ H Q h => op_end (e1 := a) (e2 := b) ho h
theorem me_neg {a : Expr} {ta : C} {pos : Pos} (ha : Me X cl W c a ta) : Me X cl W c (.UnaryOp .USub a pos) (.neg ta) := by
  refine PE.imp (pe_un un_neg ha) fun σ H Q h => ?_
  obtain ⟨ρ, e, μ, h1, h2, h3⟩ := h
  dsimp only at h3
  rw [ev] at h3
  refine tE.go ⟨h1, h2⟩ h3 fun x H1 ρ1 dx μ1 t1 a1 r1 h4 => ?_
  cases dx with
  | int i => exact ⟨i, r1.isI, RG.val h4 a1.mem (RepP.int _)⟩
  | _ => exact h4.elim

/-! ### truth -/
theorem View.tru {K : PySem.W.Frag} {ρ : Rho} {H : Hp} {μ : Mem} {d : D} {x : V} (r : Rep K ρ H d x) (m : MemOk K ρ H μ) {b : Bool} (h : truth μ d = some b) : TruV K x H b := by
  unfold truth at h
  cases q : der μ d with
  | none => rw [q] at h; cases h
  | some d' =>
    rw [q] at h
    have v := r.view m q
    cases d' with
    | non => cases h; cases v; exact rfl
    | bl b => cases h; cases v; exact rfl
    | int i => cases h; cases v; exact rfl
    | str s =>
      cases h
      obtain ⟨rfl, k⟩ := v
      refine ⟨k.len, ?_⟩
      by_cases z : s.length = 0
      · simp [z]
      · have : ((s.length : Int) != 0) = true := by simp; omega
        rw [this]; simp [z]
    | lst xs =>
      cases h
      obtain ⟨a, vs, rfl, h1, h2⟩ := v
      refine .inl ⟨vs, h1, ?_⟩
      cases h2 <;> rfl
    | tup xs =>
      cases h
      obtain ⟨a, vs, rfl, h1, h2⟩ := v
      refine .inr (.inl ⟨vs, h1, ?_⟩)
      cases h2 <;> rfl
    | dct _ => exact v.elim
    | dtp _ => exact v.elim
    | ref _ => cases h
    | exc _ => cases h
    | lck _ => cases h
theorem asBool_ok {d : D} {μ : Mem} {b : Bool} (h : truth μ d = some b) : asBool (.ok d μ) = .ok b μ := by
  unfold asBool
  simp only [R.bind_ok, h]
theorem asBool_bindB (r : R Bool) (f : Bool → Mem → R D) : asBool (r.bind f) = r.bind fun d m => asBool (f d m) := by
  unfold asBool
  rw [R.bind_assoc]
theorem asBool_bind (r : R D) (f : D → Mem → R D) : asBool (r.bind f) = r.bind fun d m => asBool (f d m) := by
  unfold asBool
  rw [R.bind_assoc]
theorem mt_val {e : Expr} {t : C} (h : Me X cl W c e t) (hp : ∀ whole, isTrue e X.env whole = (do let v ← whole; standAt e.pos; holding [v] (truthy v))) : Mt X cl W c e t := by
  refine PT.imp (pt_truth h hp) fun σ H Q h => ?_
  obtain ⟨ρ, en, μ, h1, h2, h3⟩ := h
  dsimp only at h3
  unfold asBool at h3
  refine tE.go ⟨h1, h2⟩ h3 fun x H1 ρ1 dx μ1 t1 a1 r1 h4 => ?_
  cases q : truth μ1 dx with
  | none => rw [q] at h4; exact h4.elim
  | some b =>
    rw [q] at h4
    exact ⟨b, View.tru r1 a1.mem q, RG.val h4 a1.mem rfl⟩
theorem mt_not {a : Expr} {ta : C} {pos : Pos} (ha : Mt X cl W c a ta) : Mt X cl W c (.UnaryOp .Not a pos) (.not ta) := by
  refine PT.imp (pt_not ha) fun σ H Q h => ?_
  obtain ⟨ρ, en, μ, h1, h2, h3⟩ := h
  dsimp only at h3
  have e : asBool (ev c en (.not ta) μ) = (asBool (ev c en ta μ)).bind fun b m1 => .ok (!b) m1 := by
    rw [ev]
    rw [asBool_bindB]
    rfl
  simp only [e] at h3
  exact tT.go ⟨h1, h2⟩ h3 fun b H1 ρ1 μ1 t1 a1 h4 => RG.val h4 a1.mem rfl
theorem asBool_and {en : Env} {ta tb : C} {μ : Mem} : asBool (ev c en (.and ta tb) μ) = (asBool (ev c en ta μ)).bind fun b m1 => if b then asBool (ev c en tb m1) else .ok false m1 := by
  rw [ev]
  rw [asBool_bind]
  unfold asBool
  rw [R.bind_assoc]
  cases ev c en ta μ with
  | ok d m1 =>
    simp only [R.bind_ok]
    cases q : truth m1 d with
    | none => rfl
    | some b =>
      cases b
      · simp only [R.bind_ok, q]; rfl
      · simp only [R.bind_ok]; rfl
  | ex _ _ => rfl
  | no => rfl
theorem asBool_or {en : Env} {ta tb : C} {μ : Mem} : asBool (ev c en (.or ta tb) μ) = (asBool (ev c en ta μ)).bind fun b m1 => if b then .ok true m1 else asBool (ev c en tb m1) := by
  rw [ev]
  rw [asBool_bind]
  unfold asBool
  rw [R.bind_assoc]
  cases ev c en ta μ with
  | ok d m1 =>
    simp only [R.bind_ok]
    cases q : truth m1 d with
    | none => rfl
    | some b =>
      cases b
      · simp only [R.bind_ok]; rfl
      · simp only [R.bind_ok, q]; rfl
  | ex _ _ => rfl
  | no => rfl
theorem asBool_ite {en : Env} {tt ta tb : C} {μ : Mem} : asBool (ev c en (.ite tt ta tb) μ) = (asBool (ev c en tt μ)).bind fun b m1 => if b then asBool (ev c en ta m1) else asBool (ev c en tb m1) := by
  rw [ev]
  have e : ∀ (r : R Bool) (f : Bool → Mem → R D), asBool (r.bind f) = r.bind fun b m => asBool (f b m) := fun r f => by
    unfold asBool
    rw [R.bind_assoc]
  rw [e]
  congr 1
  funext b m
  cases b <;> rfl
/-- a chain of tests: as HandS's PW -/
def MW (X : Cx) (cl : Nat → Addr) (W : WX) (e : Expr) (m : Env → Mem → R Bool) : Prop := PW X e (tT X cl W m)
abbrev Mw (X : Cx) (cl : Nat → Addr) (W : WX) (c : Cfg) (e : Expr) (t : C) : Prop := MW X cl W e (fun en μ => asBool (ev c en t μ))
theorem PW.imp {e : Expr} {t t' : TT} (h : PW X e t) (k : ∀ σ H Q, t' σ H Q → t σ H Q) : PW X e t' := ⟨fun wh pins s σ H Q I q => h.run wh pins s σ H Q I (k σ H Q q)⟩
theorem mw_and1 {a : Expr} {ta : C} {pos : Pos} (ha : Mt X cl W c a ta) : Mw X cl W c (.BoolOp .And [a] pos) ta := pw_and1 ha
theorem mw_or1 {a : Expr} {ta : C} {pos : Pos} (ha : Mt X cl W c a ta) : Mw X cl W c (.BoolOp .Or [a] pos) ta := pw_or1 ha
theorem mw_and {a b : Expr} {r : List Expr} {ta tb : C} {pos : Pos} (ha : Mt X cl W c a ta) (hb : Mw X cl W c (.BoolOp .And (b :: r) pos) tb) : Mw X cl W c (.BoolOp .And (a :: b :: r) pos) (.and ta tb) := by
  refine PW.imp (pw_and ha hb) fun σ H Q h => ?_
  obtain ⟨ρ, en, μ, h1, h2, h3⟩ := h
  dsimp only at h3
  simp only [asBool_and] at h3
  refine tT.go ⟨h1, h2⟩ h3 fun b H1 ρ1 μ1 t1 a1 h4 => ?_
  cases b with
  | true =>
    rw [if_pos rfl] at h4 ⊢
    exact ⟨ρ1, en, μ1, a1.env, a1.mem, h4⟩
  | false =>
    rw [if_neg Bool.false_ne_true] at h4 ⊢
    exact RG.val h4 a1.mem rfl
theorem mw_or {a b : Expr} {r : List Expr} {ta tb : C} {pos : Pos} (ha : Mt X cl W c a ta) (hb : Mw X cl W c (.BoolOp .Or (b :: r) pos) tb) : Mw X cl W c (.BoolOp .Or (a :: b :: r) pos) (.or ta tb) := by
  refine PW.imp (pw_or ha hb) fun σ H Q h => ?_
  obtain ⟨ρ, en, μ, h1, h2, h3⟩ := h
  dsimp only at h3
  simp only [asBool_or] at h3
  refine tT.go ⟨h1, h2⟩ h3 fun b H1 ρ1 μ1 t1 a1 h4 => ?_
  cases b with
  | true =>
    rw [if_pos rfl] at h4 ⊢
    exact RG.val h4 a1.mem rfl
  | false =>
    rw [if_neg Bool.false_ne_true] at h4 ⊢
    exact ⟨ρ1, en, μ1, a1.env, a1.mem, h4⟩
theorem mt_w {e : Expr} {t : C} (h : Mw X cl W c e t) : Mt X cl W c e t := PW.pt h
theorem mt_cmp {o : Bop} {op : CmpOp} {a b : Expr} {ta tb : C} {pos : Pos} (ho : OpS X (compareOp op) (op2 o)) (hbl : ∀ x y m d, op2 o x y m = some d → ∃ k, d = .bl k) (ha : Me X cl W c a ta) (hb : Me X cl W c b tb) (hm : behindInMarks op b = false) :
    Mt X cl W c (.Compare a [op] [b] pos) (.op o ta tb) := by
  refine PT.imp (pt_cmpR ho ha hb hm) fun σ H Q h => ?_
  obtain ⟨ρ, en, μ, h1, h2, h3⟩ := h
  dsimp only at h3
  refine op_end (e1 := a) (e2 := b) ho ?_
  refine ⟨ρ, en, μ, h1, h2, ?_⟩
  unfold asBool at h3
  -- the value is a bool
  have key : ∀ r : R D, (∀ d m, r = .ok d m → ∃ k, d = .bl k) → RG (fun _ _ a b => a = b) X.K cl (fun c d => W c d σ) ρ H Q (r.bind fun d m => match truth m d with | some b => .ok b m | none => .no) →
      RGE X cl W σ ρ H (fun x H' => ∃ k, x = .bl k ∧ Q k H') r := fun r hr h => by
    cases r with
    | ok d m =>
      obtain ⟨k, rfl⟩ := hr d m rfl
      exact fun v ρ' H' t r x => ⟨k, r.isB, h k ρ' H' t rfl x⟩
    | ex _ _ => exact h
    | no => exact h
  refine key _ (fun d m hd => ?_) h3
  dsimp only at hd
  rw [ev] at hd
  cases q1 : ev c en ta μ with
  | ok x m1 =>
    rw [q1] at hd
    simp only [R.bind_ok] at hd
    cases q2 : ev c en tb m1 with
    | ok y m2 =>
      rw [q2] at hd
      simp only [R.bind_ok] at hd
      cases q3 : op2 o x y m2 with
      | some z =>
        rw [q3] at hd
        cases hd
        exact hbl _ _ _ _ q3
      | none => rw [q3] at hd; cases hd
    | ex _ _ => rw [q2] at hd; cases hd
    | no => rw [q2] at hd; cases hd
  | ex _ _ => rw [q1] at hd; cases hd
  | no => rw [q1] at hd; cases hd
theorem mt_ite {e a b : Expr} {tt ta tb : C} {pos : Pos} (h : Me X cl W c (.IfExp e a b pos) (.ite tt ta tb)) (hp : ∀ whole, isTrue (.IfExp e a b pos) X.env whole = (do let v ← whole; standAt (Expr.IfExp e a b pos).pos; holding [v] (truthy v))) : Mt X cl W c (.IfExp e a b pos) (.ite tt ta tb) := mt_val h hp
/-! ### not, and, or as values -/
theorem me_not {a : Expr} {ta : C} {pos : Pos} (ha : Me X cl W c a ta) : Me X cl W c (.UnaryOp .Not a pos) (.not ta) := by
  refine PE.imp (pe_notT ha) fun σ H Q h => ?_
  obtain ⟨ρ, en, μ, h1, h2, h3⟩ := h
  dsimp only at h3
  rw [ev] at h3
  unfold asBool at h3
  rw [R.bind_assoc] at h3
  refine tE.go ⟨h1, h2⟩ h3 fun x H1 ρ1 dx μ1 t1 a1 r1 h4 => ?_
  cases q : truth μ1 dx with
  | none => rw [q] at h4; exact h4.elim
  | some b =>
    rw [q] at h4
    exact ⟨b, View.tru r1 a1.mem q, RG.val h4 a1.mem (RepP.bl _)⟩
theorem me_one {op : BoolOp} {a : Expr} {ta : C} {pos : Pos} (ha : Me X cl W c a ta) : Me X cl W c (.BoolOp op [a] pos) ta := pe_one ha
theorem me_and {a b : Expr} {r : List Expr} {ta tb : C} {pos : Pos} (ha : Me X cl W c a ta) (hb : Me X cl W c (.BoolOp .And (b :: r) pos) tb) : Me X cl W c (.BoolOp .And (a :: b :: r) pos) (.and ta tb) := by
  refine PE.imp (pe_andT ha hb) fun σ H Q h => ?_
  obtain ⟨ρ, en, μ, h1, h2, h3⟩ := h
  dsimp only at h3
  rw [ev] at h3
  refine tE.go ⟨h1, h2⟩ h3 fun x H1 ρ1 dx μ1 t1 a1 r1 h4 => ?_
  cases q : truth μ1 dx with
  | none => rw [q] at h4; exact h4.elim
  | some b =>
    rw [q] at h4
    refine ⟨b, View.tru r1 a1.mem q, ?_⟩
    cases b with
    | true => rw [if_pos rfl]; exact ⟨ρ1, en, μ1, a1.env, a1.mem, h4⟩
    | false => rw [if_neg Bool.false_ne_true]; exact RG.val h4 a1.mem r1
theorem me_or {a b : Expr} {r : List Expr} {ta tb : C} {pos : Pos} (ha : Me X cl W c a ta) (hb : Me X cl W c (.BoolOp .Or (b :: r) pos) tb) : Me X cl W c (.BoolOp .Or (a :: b :: r) pos) (.or ta tb) := by
  refine PE.imp (pe_orT ha hb) fun σ H Q h => ?_
  obtain ⟨ρ, en, μ, h1, h2, h3⟩ := h
  dsimp only at h3
  rw [ev] at h3
  refine tE.go ⟨h1, h2⟩ h3 fun x H1 ρ1 dx μ1 t1 a1 r1 h4 => ?_
  cases q : truth μ1 dx with
  | none => rw [q] at h4; exact h4.elim
  | some b =>
    rw [q] at h4
    refine ⟨b, View.tru r1 a1.mem q, ?_⟩
    cases b with
    | true => rw [if_pos rfl]; exact RG.val h4 a1.mem r1
    | false => rw [if_neg Bool.false_ne_true]; exact ⟨ρ1, en, μ1, a1.env, a1.mem, h4⟩
theorem me_ite {t a b : Expr} {tt ta tb : C} {pos : Pos} (ht : Mt X cl W c t tt) (ha : Me X cl W c a ta) (hb : Me X cl W c b tb) : Me X cl W c (.IfExp t a b pos) (.ite tt ta tb) := by
  refine PE.imp (pe_ifExp ht ha hb) fun σ H Q h => ?_
  obtain ⟨ρ, en, μ, h1, h2, h3⟩ := h
  dsimp only at h3
  rw [ev] at h3
  refine tT.go ⟨h1, h2⟩ h3 fun b H1 ρ1 μ1 t1 a1 h4 => ?_
  cases b with
  | true => rw [if_pos rfl] at h4 ⊢; exact ⟨ρ1, en, μ1, a1.env, a1.mem, h4⟩
  | false => rw [if_neg Bool.false_ne_true] at h4 ⊢; exact ⟨ρ1, en, μ1, a1.env, a1.mem, h4⟩
/-! ### argument lists -/
theorem ma_nil : Ma X cl W c [] [] := by
  refine PA.imp pa_nil fun σ H Q h => ?_
  obtain ⟨ρ, en, μ, h1, h2, h3⟩ := h
  dsimp only at h3
  rw [evs] at h3
  exact RG.val h3 h2 .nil
theorem ma_cons {e : Expr} {es : List Expr} {t : C} {ts : List C} (ha : Me X cl W c e t) (hr : Ma X cl W c es ts) (hs : starEach (e :: es) X.env = (false, eval e X.env) :: starEach es X.env) : Ma X cl W c (e :: es) (t :: ts) := by
  refine PA.imp (pa_cons ha hr hs) fun σ H Q h => ?_
  obtain ⟨ρ, en, μ, h1, h2, h3⟩ := h
  dsimp only at h3
  rw [evs] at h3
  refine tE.go ⟨h1, h2⟩ h3 fun x H1 ρ1 dx μ1 t1 a1 r1 h4 => ?_
  refine tA.go a1 h4 fun ys H2 ρ2 dys μ2 t2 a2 r2 h5 => ?_
  exact RG.val h5 a2.mem (.cons (r1.tr t2) r2)
end
end Py
end

section
set_option Elab.async false
set_option linter.all false
set_option maxRecDepth 100000
set_option maxHeartbeats 400000
/-! PyExpr2: chains, displays, new cells, calls. -/
namespace Py
open PySem L2 PyProof.Rows
open PySem (Str)
variable [Tabs]

/-! ### a cell becomes plain data -/
theorem lo_set_ne {lo : List (Option Addr)} {l i : Nat} {a : Addr} (h : (lo.set l none)[i]? = some (some a)) : lo[i]? = some (some a) ∧ i ≠ l := by
  by_cases q : l = i
  · subst q
    rw [List.getElem?_set] at h
    simp at h
  · rw [List.getElem?_set_ne q] at h
    exact ⟨h, Ne.symm q⟩
theorem mo_drop {ρ : Rho} {H : Hp} {l : Nat} : Mo ρ ⟨ρ.lo.set l none, ρ.hi⟩ H H := fun a o f h _ => ⟨h, fun i e => f.1 i (lo_set_ne e).1, f.2⟩
theorem tr_drop {ρ : Rho} {H : Hp} {l : Nat} : Tr ρ ⟨ρ.lo.set l none, ρ.hi⟩ H H where
  len := by simp
  hi := rfl
  old := fun i a e h => (lo_set_ne e).1
  new := fun i a e h => by
    rw [List.getElem?_eq_none (by simpa using h)] at e
    cases e
  keep := fun a o e _ _ => e
  dom := fun a e => e
theorem mem_drop {K : PySem.W.Frag} {ρ : Rho} {H : Hp} {m : Mem} {l : Nat} (x : MemOk K ρ H m) : MemOk K ⟨ρ.lo.set l none, ρ.hi⟩ H (m.set l .non) where
  len := by simpa using x.len
  one := fun i j a e f => x.one i j a (lo_set_ne e).1 (lo_set_ne f).1
  apart := fun i a e => x.apart i a (lo_set_ne e).1
  live := fun i a e => x.live i a (lo_set_ne e).1
  hid := x.hid
  cell := fun i d e => by
    by_cases q : l = i
    · subst q
      rw [List.getElem?_set] at e
      simp at e
      obtain ⟨_, rfl⟩ := e
      exact True.intro
    · rw [List.getElem?_set_ne q] at e
      exact (x.cell i d e).mo (fun a h => by simp only [List.getElem?_set_ne q]; exact h) (fun _ _ _ e _ => e) mo_drop
  tab := x.tab
theorem settle_ok {K : PySem.W.Frag} {ρ : Rho} {H : Hp} {m m' : Mem} {d d' : D} {v : V} (x : MemOk K ρ H m) (r : Rep K ρ H d v) (h : settle d m = some (d', m')) :
    ∃ ρ', Tr ρ ρ' H H ∧ MemOk K ρ' H m' ∧ RepP K ρ' H d' v := by
  cases d with
  | ref l =>
    unfold settle at h
    dsimp only at h
    split at h
    · rename_i xs e
      cases h
      obtain ⟨a, vs, h1, h2, h3⟩ := x.alive e
      obtain ⟨o, h4, h5⟩ := r
      have ea : v = .ref a := h5 a (by rw [h4] at h1; exact Option.some.inj h1)
      subst ea
      refine ⟨_, tr_drop (l := l), mem_drop x, ?_⟩
      refine .lst ⟨⟨fun i e' => ?_, x.apart l a h1⟩, h2⟩ (h3.mono mo_drop)
      obtain ⟨e1, e2⟩ := lo_set_ne e'
      exact e2 (x.one i l a e1 h1)
    · rename_i xs e
      exact (x.cell l _ e).elim
    · cases h
  | lck d => cases h
  | exc _ => exact nomatch r
  | dct _ => exact nomatch r
  | dtp _ => exact nomatch r
  | non => cases h; exact ⟨ρ, Tr.refl, x, r⟩
  | bl _ => cases h; exact ⟨ρ, Tr.refl, x, r⟩
  | int _ => cases h; exact ⟨ρ, Tr.refl, x, r⟩
  | str _ => cases h; exact ⟨ρ, Tr.refl, x, r⟩
  | tup _ => cases h; exact ⟨ρ, Tr.refl, x, r⟩
  | lst _ => cases h; exact ⟨ρ, Tr.refl, x, r⟩

theorem settles_ok {K : PySem.W.Frag} {H : Hp} : ∀ {ds ds' : List D} {vs : List V} {m m' : Mem} {ρ : Rho}, MemOk K ρ H m → Reps K ρ H ds vs → settles ds m = some (ds', m') →
    ∃ ρ', Tr ρ ρ' H H ∧ MemOk K ρ' H m' ∧ RepPs K ρ' H ds' vs
  | _, _, _, _, _, ρ, x, .nil, h => by
    cases h
    exact ⟨ρ, Tr.refl, x, .nil⟩
  | _, _, _, _, _, ρ, x, .cons r rs, h => by
    simp only [settles, Option.bind_eq_some_iff, Option.map_eq_some_iff] at h
    obtain ⟨⟨d1, m1⟩, h1, ⟨ds2, m2⟩, h2, h3⟩ := h
    cases h3
    obtain ⟨ρ1, t1, x1, r1⟩ := settle_ok x r h1
    obtain ⟨ρ2, t2, x2, r2⟩ := settles_ok x1 (rs.tr t1) h2
    exact ⟨ρ2, t1.trans t2, x2, .cons (r1.mono t2.mo) r2⟩
theorem settles_len : ∀ {ds ds' : List D} {m m' : Mem}, settles ds m = some (ds', m') → ds'.length = ds.length
  | [], _, _, _, h => by cases h; rfl
  | d :: ds, _, _, _, h => by
    simp only [settles, Option.bind_eq_some_iff, Option.map_eq_some_iff] at h
    obtain ⟨⟨d1, m1⟩, h1, ⟨ds2, m2⟩, h2, h3⟩ := h
    cases h3
    simp [settles_len h2]

/-! ### a new list, nobody else's -/
def RGF (K : PySem.W.Frag) (cl : Nat → Addr) (W : XK) (ρ : Rho) (H : Hp) (Q : VK) : R D → Prop
  | .ok d m => ∀ xs, d = .lst xs → ∀ a vs ρ' H', Tr ρ ρ' H H' → H a = none → H' a = some (.lst vs) → (∀ l : Nat, ρ'.lo[l]? ≠ some (some a)) → a ∉ ρ'.hi → RepPs K (ρ'.hide a) H' xs vs → MemOk K (ρ'.hide a) H' m → Q (.ref a) H'
  | .ex c m => ∀ ρ' H', Tr ρ ρ' H H' → MemOk K ρ' H' m → W (.ref (cl c)) none H'
  | .no => False
def isLst : D → Prop
  | .lst _ => True
  | _ => False
section
variable (X : Cx) (cl : Nat → Addr) (W : WX)
def tF (m : Env → Mem → R D) : TE := fun σ H Q => ∃ ρ e μ, EnvOk X.K ρ H e σ ∧ MemOk X.K ρ H μ ∧ RGF X.K cl (fun c d => W c d σ) ρ H Q (m e μ)
end
section
variable {X : Cx} {cl : Nat → Addr} {W : WX} {c : Cfg}
/-- its value is a list that is new -/
def Mf (X : Cx) (cl : Nat → Addr) (W : WX) (c : Cfg) (e : Expr) (t : C) : Prop := PE X e (tF X cl W (fun en μ => ev c en t μ)) ∧ ∀ en μ d μ', ev c en t μ = .ok d μ' → isLst d
theorem mo_hide {ρ : Rho} {H : Hp} {a : Addr} : Mo (ρ.hide a) ρ H H := fun b o f h _ => ⟨h, f.1, fun z => f.2 (List.mem_cons_of_mem _ z)⟩
theorem MemOk.unhide {K : PySem.W.Frag} {ρ : Rho} {H : Hp} {m : Mem} {a : Addr} (x : MemOk K (ρ.hide a) H m) : MemOk K ρ H m where
  len := x.len
  one := x.one
  apart := fun l b e z => x.apart l b e (List.mem_cons_of_mem _ z)
  live := x.live
  hid := fun b e => x.hid b (List.mem_cons_of_mem _ e)
  cell := fun l d e => (x.cell l d e).mo (fun _ e => e) (fun _ _ _ e _ => e) mo_hide
  tab := x.tab
theorem RG.fresh {K : PySem.W.Frag} {W : XK} {ρ : Rho} {H : Hp} {Q : VK} {r : R D} (h : RG (Rep K) K cl W ρ H Q r) : RGF K cl W ρ H Q r := by
  cases r with
  | ok d m =>
    intro xs e a vs ρ' H' t h0 h1 h2 h3 h4 h5
    subst e
    refine h (.ref a) ρ' H' t (RepP.lst ⟨⟨h2, h3⟩, h1⟩ (h4.mono mo_hide)) h5.unhide
  | ex _ _ => exact h
  | no => exact h
theorem Mf.me {e : Expr} {t : C} (h : Mf X cl W c e t) : Me X cl W c e t := by
  refine PE.imp h.1 fun σ H Q h => ?_
  obtain ⟨ρ, en, μ, h1, h2, h3⟩ := h
  exact ⟨ρ, en, μ, h1, h2, h3.fresh⟩
def Rho.add (ρ : Rho) (a : Addr) : Rho := ⟨ρ.lo ++ [some a], ρ.hi⟩
theorem lo_add {lo : List (Option Addr)} {a b : Addr} {l : Nat} (h : (lo ++ [some a])[l]? = some (some b)) : lo[l]? = some (some b) ∨ (l = lo.length ∧ b = a) := by
  by_cases q : l < lo.length
  · rw [List.getElem?_append_left q] at h
    exact .inl h
  · rw [List.getElem?_append_right (Nat.le_of_not_lt q)] at h
    by_cases z : l - lo.length = 0
    · rw [z] at h
      simp at h
      exact .inr ⟨by omega, h.symm⟩
    · rw [List.getElem?_eq_none (by simp; omega)] at h
      cases h
theorem mo_add {ρ : Rho} {H : Hp} {a : Addr} : Mo (ρ.hide a) (ρ.add a) H H := fun b o f h _ => ⟨h, fun l e => by
  rcases lo_add e with e | ⟨_, e⟩
  · exact f.1 l e
  · exact f.2 (by rw [e]; exact List.mem_cons_self), fun z => f.2 (List.mem_cons_of_mem _ z)⟩
/-- the new list becomes a cell -/
theorem mem_add {K : PySem.W.Frag} {ρ : Rho} {H : Hp} {m : Mem} {a : Addr} {xs : List D} {vs : List V} (x : MemOk K (ρ.hide a) H m) (h1 : H a = some (.lst vs)) (h2 : ∀ l : Nat, ρ.lo[l]? ≠ some (some a)) (h3 : a ∉ ρ.hi) (h4 : RepPs K (ρ.hide a) H xs vs) :
    MemOk K (ρ.add a) H (m ++ [.lst xs]) where
  len := by
    have := x.len
    simp only [Rho.add, Rho.hide, List.length_append, List.length_singleton] at this ⊢
    omega
  one := fun l l' b e f => by
    rcases lo_add e with e | ⟨e1, e2⟩ <;> rcases lo_add f with f | ⟨f1, f2⟩
    · exact x.one l l' b e f
    · exact absurd (by rw [← f2]; exact e) (h2 l)
    · exact absurd (by rw [← e2]; exact f) (h2 l')
    · omega
  apart := fun l b e z => by
    rcases lo_add e with e | ⟨_, e⟩
    · exact x.apart l b e (List.mem_cons_of_mem _ z)
    · exact h3 (by rw [← e]; exact z)
  live := fun l b e => by
    rcases lo_add e with e | ⟨_, e⟩
    · exact x.live l b e
    · exact ⟨_, by rw [e]; exact h1⟩
  hid := fun b e => x.hid b (List.mem_cons_of_mem _ e)
  cell := fun l d e => by
    have hl : m.length = ρ.lo.length := x.len.symm
    by_cases q : l < m.length
    · rw [List.getElem?_append_left q] at e
      exact (x.cell l d e).mo (fun b g => by
        simp only [Rho.add]
        rw [List.getElem?_append_left (by omega)]
        exact g) (fun _ _ _ e _ => e) mo_add
    · rw [List.getElem?_append_right (Nat.le_of_not_lt q)] at e
      by_cases z : l - m.length = 0
      · rw [z] at e
        simp at e
        subst e
        refine ⟨a, vs, ?_, h1, h4.mono mo_add⟩
        simp only [Rho.add]
        rw [List.getElem?_append_right (by omega), show l - ρ.lo.length = 0 by omega]
        rfl
      · rw [List.getElem?_eq_none (by simp; omega)] at e
        cases e
  tab := x.tab
theorem tr_add {ρ ρ' : Rho} {H H' : Hp} {a : Addr} (t : Tr ρ ρ' H H') (h : H a = none) : Tr ρ (ρ'.add a) H H' where
  len := by
    have := t.len
    simp only [Rho.add, List.length_append, List.length_singleton]
    omega
  hi := t.hi
  old := fun l b e q => by
    rcases lo_add e with e | ⟨e, _⟩
    · exact t.old l b e q
    · have := t.len; omega
  new := fun l b e q => by
    rcases lo_add e with e | ⟨_, e⟩
    · exact t.new l b e q
    · rw [e]; exact h
  keep := t.keep
  dom := t.dom
theorem rep_add {K : PySem.W.Frag} {ρ : Rho} {H : Hp} {a : Addr} : Rep K (ρ.add a) H (.ref ρ.lo.length) (.ref a) :=
  ⟨some a, by simp [Rho.add], fun b e => by cases e; rfl⟩
theorem me_mut {e : Expr} {t : C} (h : Mf X cl W c e t) : Me X cl W c e (.mut t) := by
  refine PE.imp h.1 fun σ H Q hq => ?_
  obtain ⟨ρ, en, μ, h1, h2, h3⟩ := hq
  refine ⟨ρ, en, μ, h1, h2, ?_⟩
  dsimp only at h3
  rw [ev] at h3
  show RGF _ _ _ _ _ _ (ev c en t μ)
  cases q : ev c en t μ with
  | ok d m =>
    have il := h.2 _ _ _ _ q
    rw [q] at h3
    simp only [R.bind_ok] at h3
    intro xs ed a vs ρ' H' t h0 k1 k2 k3 k4 k5
    subst ed
    refine h3 (.ref a) (ρ'.add a) H' (tr_add t h0) ?_ (mem_add k5 k1 k2 k3 k4)
    have : m.length = ρ'.lo.length := k5.len.symm
    rw [this]
    exact rep_add
  | ex _ _ => rw [q] at h3; exact h3
  | no => rw [q] at h3; exact h3
/-- a list is laid -/
theorem RGF.lay {K : PySem.W.Frag} {W : XK} {ρ : Rho} {H : Hp} {Q : VK} {xs : List D} {vs : List V} {m : Mem} (h : RGF K cl W ρ H Q (.ok (.lst xs) m)) (x : MemOk K ρ H m) (r : RepPs K ρ H xs vs) : ∀ p, H p = none → Q (.ref p) (upd H p (.lst vs)) := fun p hp => by
  have mo : Mo ρ (ρ.hide p) H (upd H p (.lst vs)) := fun b o f e _ => ⟨by rw [upd_ne (ne_of_none e hp)]; exact e, f.1, fun z => by
    rcases List.mem_cons.mp z with z | z
    · rw [z, hp] at e; cases e
    · exact f.2 z⟩
  have fz := x.fz hp
  refine h xs rfl p vs ρ (upd H p (.lst vs)) (Tr.new1 hp) hp (upd_same) fz.1 fz.2 (r.mono mo) ?_
  refine ⟨x.len, x.one, fun l b e z => ?_, (x.new1 hp).live, fun b z => ?_, fun l d e => ?_, (x.new1 hp).tab⟩
  · rcases List.mem_cons.mp z with z | z
    · exact fz.1 l (by rw [← z]; exact e)
    · exact x.apart l b e z
  · rcases List.mem_cons.mp z with z | z
    · exact ⟨_, by rw [z]; exact upd_same⟩
    · exact (x.new1 (o := .lst vs) hp).hid b z
  · exact (x.cell l d e).mo (fun _ e => e) (fun a o _ g _ => by rw [upd_ne (ne_of_none g hp)]; exact g) mo
end
end Py
end

section
set_option Elab.async false
set_option linter.all false
set_option maxRecDepth 100000
set_option maxHeartbeats 400000
/-! PyExpr3: chains, displays, calls. -/
namespace Py
open PySem L2 PyProof.Rows
open PySem (Str)
variable [Tabs]
section
variable {X : Cx} {cl : Nat → Addr} {W : WX} {c : Cfg}
/-! ### a op b op c -/
theorem chain_end {o o' : Bop} {ta tb tc : C} {σ : L2.St} {H : Hp} {Q : VK} (h : tE X cl W (fun en μ => ev c en (.chn o o' ta tb tc) μ) σ H Q) :
    tChain (rS X.K (op2 o)) (rS X.K (op2 o')) (tE X cl W fun en μ => ev c en ta μ) (tE X cl W fun en μ => ev c en tb μ) (tE X cl W fun en μ => ev c en tc μ) σ H Q := by
  obtain ⟨ρ, e, μ, h1, h2, h3⟩ := h
  dsimp only at h3
  rw [ev] at h3
  refine tE.go ⟨h1, h2⟩ h3 fun x H1 ρ1 dx μ1 t1 a1 r1 h4 => ?_
  refine tE.go a1 h4 fun y H2 ρ2 dy μ2 t2 a2 r2 h5 => ?_
  cases q : op2 o dx dy μ2 with
  | none => rw [q] at h5; exact h5.elim
  | some d =>
    rw [q] at h5
    refine ⟨ρ2, μ2, dx, dy, d, a2.mem, r1.tr t2, r2, q, fun v H3 t3 r3 m3 => ?_⟩
    cases d with
    | bl k =>
      refine ⟨k, r3.isB, ?_⟩
      cases k with
      | true =>
        rw [if_pos rfl]
        refine tE.go ⟨a2.env.tr t3, m3⟩ (RG.tr t3 h5) fun z H4 ρ4 dz μ4 t4 a4 r4 h6 => ?_
        cases q' : op2 o' dy dz μ4 with
        | none => rw [q'] at h6; exact h6.elim
        | some r => 
          rw [q'] at h6
          exact ⟨ρ4, μ4, dy, dz, r, a4.mem, (r2.tr t3).tr t4, r4, q', fun v H5 t5 r5 m5 => h6 v ρ4 H5 t5 r5 m5⟩
      | false =>
        rw [if_neg Bool.false_ne_true]
        exact RG.val (RG.tr t3 h5) m3 (RepP.bl _)
    | _ => exact h5.elim
theorem me_chn {o o' : Bop} {op op' : CmpOp} {a b d : Expr} {ta tb td : C} {pos : Pos} (ho : OpS X (compareOp op) (op2 o)) (ho' : OpS X (compareOp op') (op2 o')) (ha : Me X cl W c a ta) (hb : Me X cl W c b tb) (hd : Me X cl W c d td)
    (hm : lastMarks [op, op'] [b, d] = false) : Me X cl W c (.Compare a [op, op'] [b, d] pos) (.chn o o' ta tb td) :=
  PE.imp (pe_chain ho ho' ha hb hd hm) fun σ H Q h => chain_end h
theorem mt_of_bool {e : Expr} {t : C} {t' : TE} {m : Env → Mem → R D} (h : PT X e (tTest t')) (hk : ∀ σ H Q, tE X cl W m σ H Q → t' σ H Q) (hbl : ∀ en μ d μ', m en μ = .ok d μ' → ∃ k, d = .bl k) : MT X cl W e (fun en μ => asBool (m en μ)) := by
  refine PT.imp h fun σ H Q h => ?_
  obtain ⟨ρ, en, μ, h1, h2, h3⟩ := h
  refine hk σ H _ ⟨ρ, en, μ, h1, h2, ?_⟩
  dsimp only at h3
  unfold asBool at h3
  cases q : m en μ with
  | ok d μ' =>
    obtain ⟨k, rfl⟩ := hbl _ _ _ _ q
    rw [q] at h3
    exact fun v ρ' H' t r x => ⟨k, r.isB, h3 k ρ' H' t rfl x⟩
  | ex _ _ => rw [q] at h3; exact h3
  | no => rw [q] at h3; exact h3
theorem op2_bl {o : Bop} (ho : o = .eq ∨ o = .ne ∨ o = .lt ∨ o = .le ∨ o = .gt ∨ o = .ge ∨ o = .is_ ∨ o = .isnot ∨ o = .in_ ∨ o = .notin) : ∀ x y m d, op2 o x y m = some d → ∃ k, d = .bl k := by
  intro x y m d h
  rcases ho with rfl | rfl | rfl | rfl | rfl | rfl | rfl | rfl | rfl | rfl
  · simp only [op2, Option.map_eq_some_iff] at h; obtain ⟨k, _, rfl⟩ := h; exact ⟨_, rfl⟩
  · simp only [op2, Option.map_eq_some_iff] at h; obtain ⟨k, _, rfl⟩ := h; exact ⟨_, rfl⟩
  · simp only [op2, Option.map_eq_some_iff] at h; obtain ⟨k, _, rfl⟩ := h; exact ⟨_, rfl⟩
  · unfold op2 at h; dsimp only at h; split at h <;> cases h <;> exact ⟨_, rfl⟩
  · simp only [op2, Option.map_eq_some_iff] at h; obtain ⟨k, _, rfl⟩ := h; exact ⟨_, rfl⟩
  · unfold op2 at h; dsimp only at h; split at h <;> cases h <;> exact ⟨_, rfl⟩
  · simp only [op2, Option.bind_eq_some_iff, Option.map_eq_some_iff] at h; obtain ⟨_, _, k, _, rfl⟩ := h; exact ⟨_, rfl⟩
  · simp only [op2, Option.bind_eq_some_iff, Option.map_eq_some_iff] at h; obtain ⟨_, _, k, _, rfl⟩ := h; exact ⟨_, rfl⟩
  · simp only [op2, Option.map_eq_some_iff] at h; obtain ⟨k, _, rfl⟩ := h; exact ⟨_, rfl⟩
  · simp only [op2, Option.map_eq_some_iff] at h; obtain ⟨k, _, rfl⟩ := h; exact ⟨_, rfl⟩
theorem chn_bl {o o' : Bop} (ho' : ∀ x y m d, op2 o' x y m = some d → ∃ k, d = .bl k) {ta tb td : C} : ∀ en μ d μ', ev c en (.chn o o' ta tb td) μ = .ok d μ' → ∃ k, d = .bl k := by
  intro en μ d μ' h
  rw [ev] at h
  cases q1 : ev c en ta μ with
  | ok x m1 =>
    rw [q1] at h; simp only [R.bind_ok] at h
    cases q2 : ev c en tb m1 with
    | ok y m2 =>
      rw [q2] at h; simp only [R.bind_ok] at h
      cases q3 : op2 o x y m2 with
      | none => rw [q3] at h; cases h
      | some z =>
        rw [q3] at h
        cases z with
        | bl k =>
          cases k with
          | false => cases h; exact ⟨_, rfl⟩
          | true =>
            dsimp only at h
            cases q4 : ev c en td m2 with
            | ok w m3 =>
              rw [q4] at h; simp only [R.bind_ok] at h
              cases q5 : op2 o' y w m3 with
              | none => rw [q5] at h; cases h
              | some r => rw [q5] at h; cases h; exact ho' _ _ _ _ q5
            | ex _ _ => rw [q4] at h; cases h
            | no => rw [q4] at h; cases h
        | _ => cases h
    | ex _ _ => rw [q2] at h; cases h
    | no => rw [q2] at h; cases h
  | ex _ _ => rw [q1] at h; cases h
  | no => rw [q1] at h; cases h
theorem mt_chn {o o' : Bop} {op op' : CmpOp} {a b d : Expr} {ta tb td : C} {pos : Pos} (ho : OpS X (compareOp op) (op2 o)) (ho' : OpS X (compareOp op') (op2 o')) (hb' : ∀ x y m d, op2 o' x y m = some d → ∃ k, d = .bl k) (ha : Me X cl W c a ta) (hb : Me X cl W c b tb) (hd : Me X cl W c d td)
    (hm : lastMarks [op, op'] [b, d] = false) : Mt X cl W c (.Compare a [op, op'] [b, d] pos) (.chn o o' ta tb td) :=
  mt_of_bool (t := .chn o o' ta tb td) (pt_chain ho ho' ha hb hd hm) (fun σ H Q h => chain_end h) (chn_bl hb')

/-! ### displays -/
abbrev Md (X : Cx) (cl : Nat → Addr) (W : WX) (c : Cfg) (es : List Expr) (ts : List C) : Prop := MA X cl W es (fun en μ => evD c en ts μ)
def notStar : C → Bool
  | .star _ => false
  | _ => true
theorem evD_cons {en : Env} {t : C} {ts : List C} {μ : Mem} (h : notStar t = true) : evD c en (t :: ts) μ = (ev c en t μ).bind fun x m1 => (evD c en ts m1).bind fun xs m2 => .ok (x :: xs) m2 := by
  cases t <;> first | (cases h; done) | (rw [evD]; intro a e; cases e)
theorem Reps.cons' {K : PySem.W.Frag} {ρ : Rho} {H : Hp} {d : D} {v : V} {ds : List D} {vs : List V} (h : Rep K ρ H d v) (hs : Reps K ρ H ds vs) : Reps K ρ H (d :: ds) (v :: vs) := .cons h hs
theorem md_nil : Md X cl W c [] [] := by
  refine PA.imp pa_nil fun σ H Q h => ?_
  obtain ⟨ρ, en, μ, h1, h2, h3⟩ := h
  dsimp only at h3
  rw [evD] at h3
  exact RG.val h3 h2 .nil
theorem md_cons {e : Expr} {es : List Expr} {t : C} {ts : List C} (ha : Me X cl W c e t) (hr : Md X cl W c es ts) (hn : notStar t = true) (hs : starEach (e :: es) X.env = (false, eval e X.env) :: starEach es X.env) : Md X cl W c (e :: es) (t :: ts) := by
  refine PA.imp (pa_cons ha hr hs) fun σ H Q h => ?_
  obtain ⟨ρ, en, μ, h1, h2, h3⟩ := h
  dsimp only at h3
  rw [evD_cons hn] at h3
  refine tE.go ⟨h1, h2⟩ h3 fun x H1 ρ1 dx μ1 t1 a1 r1 h4 => ?_
  refine tA.go a1 h4 fun vs H2 ρ2 ds μ2 t2 a2 r2 h5 => ?_
  exact RG.val h5 a2.mem (.cons (r1.tr t2) r2)
theorem seqOf_view {K : PySem.W.Frag} {ρ : Rho} {H : Hp} {m : Mem} {d : D} {xs : List D} {v : V} (r : Rep K ρ H d v) (x : MemOk K ρ H m) (h : seqOf m d = some xs) : ∃ p vs, v = .ref p ∧ (SqT K H p vs ∨ SqL K H p vs) ∧ RepPs K ρ H xs vs := by
  unfold seqOf at h
  cases q : der m d with
  | none => rw [q] at h; cases h
  | some y =>
    rw [q] at h
    have w := r.view x q
    cases y with
    | lst ys => cases h; obtain ⟨a, vs, e, h1, h2⟩ := w; exact ⟨a, vs, e, .inr h1, h2⟩
    | tup ys => cases h; obtain ⟨a, vs, e, h1, h2⟩ := w; exact ⟨a, vs, e, .inl h1, h2⟩
    | _ => cases h
theorem md_star {e : Expr} {es : List Expr} {t : C} {ts : List C} {p : Pos} (ha : Me X cl W c e t) (hr : Md X cl W c es ts) (hs : starEach (.Starred e p :: es) X.env = (true, eval e X.env) :: starEach es X.env) : Md X cl W c (.Starred e p :: es) (.star t :: ts) := by
  refine PA.imp (StX.pa_star ha hr hs) fun σ H Q h => ?_
  obtain ⟨ρ, en, μ, h1, h2, h3⟩ := h
  dsimp only at h3
  rw [evD] at h3
  refine tE.go ⟨h1, h2⟩ h3 fun x H1 ρ1 dx μ1 t1 a1 r1 h4 => ?_
  cases q : seqOf μ1 dx with
  | none => rw [q] at h4; exact h4.elim
  | some xs =>
    rw [q] at h4
    obtain ⟨p, vs, e1, e2, e3⟩ := seqOf_view r1 a1.mem q
    refine ⟨p, vs, e1, e2, ?_⟩
    refine tA.go a1 h4 fun us H2 ρ2 ds μ2 t2 a2 r2 h5 => ?_
    exact RG.val h5 a2.mem ((e3.mono t2.mo).reps.append r2)
theorem RGF.tr {K : PySem.W.Frag} {W : XK} {ρ ρ1 : Rho} {H H1 : Hp} {Q : VK} {r : R D} (t : Tr ρ ρ1 H H1) (h : RGF K cl W ρ H Q r) : RGF K cl W ρ1 H1 Q r := by
  cases r with
  | ok d m => exact fun xs e a vs ρ' H' t' h0 => h xs e a vs ρ' H' (t.trans t') (t.dom a h0)
  | ex c m => exact fun ρ' H' t' => h ρ' H' (t.trans t')
  | no => exact h
/-- the first part of a run that ends in a new list -/
theorem RGF.seq {γ δ : Type} {Rm : Rho → Hp → γ → δ → Prop} {K : PySem.W.Frag} {W : XK} {ρ : Rho} {H : Hp} {Q : VK} {r : R γ} {f : γ → Mem → R D} (h : RGF K cl W ρ H Q (r.bind f)) :
    RG Rm K cl W ρ H (fun v H1 => ∃ ρ1 a m1, Tr ρ ρ1 H H1 ∧ Rm ρ1 H1 a v ∧ MemOk K ρ1 H1 m1 ∧ RGF K cl W ρ1 H1 Q (f a m1)) r := by
  cases r with
  | ok a m => exact fun v ρ' H' t r x => ⟨ρ', a, m, t, r, x, RGF.tr t h⟩
  | ex c m => exact h
  | no => exact h
theorem tE.goF {m : Env → Mem → R D} {f : D → Mem → R D} {σ : L2.St} {ρ : Rho} {H : Hp} {e : Env} {μ : Mem} {Q : VK} (a : At X σ ρ H e μ)
    (h : RGF X.K cl (fun c d => W c d σ) ρ H Q ((m e μ).bind f)) {k : VK}
    (hk : ∀ v H1 ρ1 d μ1, Tr ρ ρ1 H H1 → At X σ ρ1 H1 e μ1 → Rep X.K ρ1 H1 d v → RGF X.K cl (fun c d => W c d σ) ρ1 H1 Q (f d μ1) → k v H1) : tE X cl W m σ H k := by
  refine ⟨ρ, e, μ, a.env, a.mem, (RGF.seq (Rm := Rep X.K) h).mono fun v H1 ⟨ρ1, d, m1, t, r, x, q⟩ => hk v H1 ρ1 d m1 t ⟨a.env.tr t, x⟩ r q⟩
theorem tA.goF {m : Env → Mem → R (List D)} {f : List D → Mem → R D} {σ : L2.St} {ρ : Rho} {H : Hp} {e : Env} {μ : Mem} {Q : VK} (a : At X σ ρ H e μ)
    (h : RGF X.K cl (fun c d => W c d σ) ρ H Q ((m e μ).bind f)) {k : List V → Hp → Prop}
    (hk : ∀ vs H1 ρ1 ds μ1, Tr ρ ρ1 H H1 → At X σ ρ1 H1 e μ1 → Reps X.K ρ1 H1 ds vs → RGF X.K cl (fun c d => W c d σ) ρ1 H1 Q (f ds μ1) → k vs H1) : tA X cl W m σ H k := by
  refine ⟨ρ, e, μ, a.env, a.mem, (RGF.seq (Rm := Reps X.K) h).mono fun v H1 ⟨ρ1, d, m1, t, r, x, q⟩ => hk v H1 ρ1 d m1 t ⟨a.env.tr t, x⟩ r q⟩
theorem me_tup {es : List Expr} {ts : List C} {x1} {pos : Pos} (h : Md X cl W c es ts) : Me X cl W c (.Tuple es x1 pos) (.tup ts) := by
  refine PE.imp (pe_tup h) fun σ H Q h => ?_
  obtain ⟨ρ, en, μ, h1, h2, h3⟩ := h
  dsimp only at h3
  rw [ev] at h3
  refine tA.go ⟨h1, h2⟩ h3 fun vs H1 ρ1 ds μ1 t1 a1 r1 h4 => ?_
  cases q : settles ds μ1 with
  | none => rw [q] at h4; exact h4.elim
  | some p =>
    obtain ⟨xs, m2⟩ := p
    rw [q] at h4
    dsimp only at h4
    obtain ⟨ρ2, t2, x2, r2⟩ := settles_ok a1.mem r1 q
    by_cases hf : fits xs.length = true
    · rw [if_pos hf] at h4
      refine ⟨by rw [← r2.length]; exact fits_line hf, ?_⟩
      exact fin_tup x2 r2 fun v H' t r m => h4 v ρ2 H' (t2.trans t) r m
    · rw [if_neg hf] at h4
      exact h4.elim
theorem lst_isLst {ts : List C} : ∀ en μ d μ', ev c en (.lst ts) μ = .ok d μ' → isLst d := by
  intro en μ d μ' h
  rw [ev] at h
  cases q1 : evD c en ts μ with
  | ok x m1 =>
    rw [q1] at h; simp only [R.bind_ok] at h
    cases q : settles x m1 with
    | none => rw [q] at h; cases h
    | some p =>
      rw [q] at h
      dsimp only at h
      split at h
      · cases h; exact True.intro
      · cases h
  | ex _ _ => rw [q1] at h; cases h
  | no => rw [q1] at h; cases h
theorem mf_lst {es : List Expr} {ts : List C} {pos : Pos} (h : Md X cl W c es ts) : Mf X cl W c (.List es pos) (.lst ts) := by
  refine ⟨PE.imp (pe_lst h) fun σ H Q h => ?_, lst_isLst⟩
  obtain ⟨ρ, en, μ, h1, h2, h3⟩ := h
  dsimp only at h3
  rw [ev] at h3
  refine tA.goF ⟨h1, h2⟩ h3 fun vs H1 ρ1 ds μ1 t1 a1 r1 h4 => ?_
  cases q : settles ds μ1 with
  | none => rw [q] at h4; exact h4.elim
  | some p =>
    obtain ⟨xs, m2⟩ := p
    rw [q] at h4
    dsimp only at h4
    obtain ⟨ρ2, t2, x2, r2⟩ := settles_ok a1.mem r1 q
    by_cases hf : fits xs.length = true
    · rw [if_pos hf] at h4
      exact ⟨by rw [← r2.length]; exact fits_line hf, (RGF.tr t2 h4).lay x2 r2⟩
    · rw [if_neg hf] at h4
      exact h4.elim
theorem me_lst {es : List Expr} {ts : List C} {pos : Pos} (h : Md X cl W c es ts) : Me X cl W c (.List es pos) (.lst ts) := (mf_lst h).me

/-! ### calls -/
/-- a def's promise: g of plain data -/
def spG (K : PySem.W.Frag) (cl : Nat → Addr) (g : List D → Mem → R D) (n : Nat) : Sp := fun vs H Q E => ∃ ρ ds μ, MemOk K ρ H μ ∧ Reps K ρ H ds vs ∧ ds.length = n ∧ RG (Rep K) K cl E ρ H Q (g ds μ)
/-- what a call of the def by the name x needs -/
structure CallOk (X : Cx) (cl : Nat → Addr) (c : Cfg) (x : Str) (i n : Nat) : Prop where
  ok : ∃ (k : Nat) (f : Addr) (fd : FuncData) (ps : List Str), FnOk X.prog X.w X.K X.mg X.base (L2N.CX X.prog X.w) k f fd ps (spG X.K cl (c.G i) n) ∧ Room k X.A ∧ X.mg x = some (.ref f) ∧ PySem.W.keepIn X.K (.ref f) = true ∧ Binds X.K fd ps []
theorem evs_len {en : Env} : ∀ {ts : List C} {μ : Mem} {ds : List D} {μ' : Mem}, evs c en ts μ = .ok ds μ' → ds.length = ts.length
  | [], μ, ds, μ', h => by rw [evs] at h; cases h; rfl
  | t :: ts, μ, ds, μ', h => by
    rw [evs] at h
    cases q1 : ev c en t μ with
    | ok x m1 =>
      rw [q1] at h; simp only [R.bind_ok] at h
      cases q2 : evs c en ts m1 with
      | ok y m2 =>
        rw [q2] at h; simp only [R.bind_ok] at h
        cases h
        simp [evs_len q2]
      | ex _ _ => rw [q2] at h; cases h
      | no => rw [q2] at h; cases h
    | ex _ _ => rw [q1] at h; cases h
    | no => rw [q1] at h; cases h
theorem me_call {x : Str} {i : Nat} {e : Expr} {es : List Expr} {t : C} {ts : List C} {p pos : Pos} (tk : L2N.Takes X W) (F : CallOk X cl c x i (ts.length + 1)) (hg : Gl X x) (ha : Ma X cl W c (e :: es) (t :: ts)) (hdb : (x == ("__debug__" : Str)) = false)
    (he : starEach (e :: es) X.env = (false, eval e X.env) :: starEach es X.env) (hpl : (backTo pos (starEach es X.env)).any (·.1) = false) : Me X cl W c (.Call (.Name x p) (e :: es) [] pos) (.call i (t :: ts)) := by
  obtain ⟨k, f, fd, ps, F, hr, hm, hk, hb⟩ := F.ok
  refine PE.imp (pe_callS F hr hg hm hk hb (L2N.passAt tk) ha hdb he hpl) fun σ H Q h => ?_
  obtain ⟨ρ, en, μ, h1, h2, h3⟩ := h
  dsimp only at h3
  rw [ev] at h3
  refine ⟨ρ, en, μ, h1, h2, ?_⟩
  show RG _ _ _ _ _ _ _ (evs c en (t :: ts) μ)
  cases q : evs c en (t :: ts) μ with
  | ok ds μ' =>
    rw [q] at h3
    simp only [R.bind_ok] at h3
    intro vs ρ' H' t' r x
    exact ⟨ρ', ds, μ', x, r, (evs_len q).trans (by simp), RG.tr t' h3⟩
  | ex _ _ => rw [q] at h3; exact h3
  | no => rw [q] at h3; exact h3
end
end Py
end

section
set_option Elab.async false
set_option linter.all false
set_option maxRecDepth 100000
set_option maxHeartbeats 400000
/-! PyPrim: built-in functions. -/
namespace Py
open PySem L2 PyProof.Rows
open PySem (Str)
variable [Tabs]
/-- a built-in function of values -/
def rP (K : PySem.W.Frag) (sem : List D → Mem → Option (D × Mem)) : List V → Hp → VK → Prop := fun xs H Q => ∃ ρ μ ds d μ', MemOk K ρ H μ ∧ Reps K ρ H ds xs ∧ sem ds μ = some (d, μ') ∧
  ∀ v ρ' H', Tr ρ ρ' H H' → Rep K ρ' H' d v → MemOk K ρ' H' μ' → Q v H'
/-- .. that makes a new list -/
def rPF (K : PySem.W.Frag) (cl : Nat → Addr) (W : XK) (sem : List D → Mem → Option (D × Mem)) : List V → Hp → VK → Prop := fun xs H Q => ∃ ρ μ ds d μ', MemOk K ρ H μ ∧ Reps K ρ H ds xs ∧ sem ds μ = some (d, μ') ∧ RGF K cl W ρ H Q (.ok d μ')
theorem Reps.one {K : PySem.W.Frag} {ρ : Rho} {H : Hp} {d : D} {vs : List V} (h : Reps K ρ H [d] vs) : ∃ v, vs = [v] ∧ Rep K ρ H d v := by
  cases h with
  | cons r t => cases t; exact ⟨_, rfl, r⟩
theorem Reps.two {K : PySem.W.Frag} {ρ : Rho} {H : Hp} {d e : D} {vs : List V} (h : Reps K ρ H [d, e] vs) : ∃ v w, vs = [v, w] ∧ Rep K ρ H d v ∧ Rep K ρ H e w := by
  cases h with
  | cons r t =>
    obtain ⟨w, rfl, q⟩ := t.one
    exact ⟨_, _, rfl, r, q⟩
theorem CallR.imp {X : Cx} {f : Value} {r r' : List V → Hp → VK → Prop} (h : CallR X f r) (k : ∀ xs H Q, r' xs H Q → r xs H Q) : CallR X f r' := fun pins s σ H xs us Q I rs q => h pins s σ H xs us Q I rs (k _ _ _ q)
section
variable {X : Cx} {cl : Nat → Addr} {W : WX} {c : Cfg} {sub : Nat → Nat → Bool}
theorem prim_end {p : Prim} {ts : List C} {σ : L2.St} {H : Hp} {Q : VK} (h : tE X cl W (fun en μ => ev c en (.prim p ts) μ) σ H Q) : tA X cl W (fun en μ => evs c en ts μ) σ H (fun vs H1 => rP X.K (pr c.sub p) vs H1 Q) := by
  obtain ⟨ρ, en, μ, h1, h2, h3⟩ := h
  dsimp only at h3
  rw [ev] at h3
  refine tA.go ⟨h1, h2⟩ h3 fun vs H1 ρ1 ds μ1 t1 a1 r1 h4 => ?_
  cases q : pr c.sub p ds μ1 with
  | none => rw [q] at h4; exact h4.elim
  | some y =>
    obtain ⟨d, μ'⟩ := y
    rw [q] at h4
    exact ⟨ρ1, μ1, ds, d, μ', a1.mem, r1, q, h4⟩
theorem primF_end {p : Prim} {ts : List C} {σ : L2.St} {H : Hp} {Q : VK} (h : tF X cl W (fun en μ => ev c en (.prim p ts) μ) σ H Q) : tA X cl W (fun en μ => evs c en ts μ) σ H (fun vs H1 => rPF X.K cl (fun c d => W c d σ) (pr c.sub p) vs H1 Q) := by
  obtain ⟨ρ, en, μ, h1, h2, h3⟩ := h
  dsimp only at h3
  rw [ev] at h3
  refine tA.goF ⟨h1, h2⟩ h3 fun vs H1 ρ1 ds μ1 t1 a1 r1 h4 => ?_
  cases q : pr c.sub p ds μ1 with
  | none => rw [q] at h4; exact h4.elim
  | some y =>
    obtain ⟨d, μ'⟩ := y
    rw [q] at h4
    exact ⟨ρ1, μ1, ds, d, μ', a1.mem, r1, q, h4⟩
def PrimOk (X : Cx) (sub : Nat → Nat → Bool) (f : Value) (p : Prim) : Prop := CallR X f (rP X.K (pr sub p))
theorem me_primB {p : Prim} {x : Str} {id : String} {e : Expr} {es : List Expr} {t : C} {ts : List C} {px pos : Pos} (hp : PrimOk X c.sub (.builtin id) p) (hg : Gl X x) (hm : X.mg x = none) (hv : bootBuiltins x = some (.builtin id)) (ha : Ma X cl W c (e :: es) (t :: ts)) (hn : x ≠ "__name__") (hdb : (x == ("__debug__" : Str)) = false)
    (he : starEach (e :: es) X.env = (false, eval e X.env) :: starEach es X.env) (hpl : (backTo pos (starEach es X.env)).any (·.1) = false) : Me X cl W c (.Call (.Name x px) (e :: es) [] pos) (.prim p (t :: ts)) :=
  PE.imp (pe_callB hp hg hm hv ha hn hdb he hpl) fun σ H Q h => prim_end h
theorem me_primT {p : Prim} {x : Str} {T : String} {e : Expr} {es : List Expr} {t : C} {ts : List C} {px pos : Pos} (hp : PrimOk X c.sub (.type T) p) (hg : Gl X x) (hm : X.mg x = none) (hv : bootBuiltins x = some (.type T)) (ha : Ma X cl W c (e :: es) (t :: ts)) (hn : x ≠ "__name__") (hdb : (x == ("__debug__" : Str)) = false)
    (he : starEach (e :: es) X.env = (false, eval e X.env) :: starEach es X.env) (hpl : (backTo pos (starEach es X.env)).any (·.1) = false) : Me X cl W c (.Call (.Name x px) (e :: es) [] pos) (.prim p (t :: ts)) :=
  PE.imp (pe_callTy hp hg hm hv ha hn hdb he hpl) fun σ H Q h => prim_end h
def PrimF (X : Cx) (cl : Nat → Addr) (sub : Nat → Nat → Bool) (f : Value) (p : Prim) : Prop := (∀ W : XK, CallR X f (rPF X.K cl W (pr sub p))) ∧ ∀ ds m d m', pr sub p ds m = some (d, m') → isLst d
theorem primF_lst {p : Prim} {ts : List C} {f : Value} (hp : PrimF X cl c.sub f p) : ∀ en μ d μ', ev c en (.prim p ts) μ = .ok d μ' → isLst d := by
  intro en μ d μ' h
  rw [ev] at h
  cases q1 : evs c en ts μ with
  | ok x m1 =>
    rw [q1] at h; simp only [R.bind_ok] at h
    cases q : pr c.sub p x m1 with
    | none => rw [q] at h; cases h
    | some y =>
      obtain ⟨d', m'⟩ := y
      rw [q] at h
      cases h
      exact hp.2 _ _ _ _ q
  | ex _ _ => rw [q1] at h; cases h
  | no => rw [q1] at h; cases h
theorem mf_primB {p : Prim} {x : Str} {id : String} {e : Expr} {es : List Expr} {t : C} {ts : List C} {px pos : Pos} (hp : PrimF X cl c.sub (.builtin id) p) (hg : Gl X x) (hm : X.mg x = none) (hv : bootBuiltins x = some (.builtin id)) (ha : Ma X cl W c (e :: es) (t :: ts)) (hn : x ≠ "__name__") (hdb : (x == ("__debug__" : Str)) = false)
    (he : starEach (e :: es) X.env = (false, eval e X.env) :: starEach es X.env) (hpl : (backTo pos (starEach es X.env)).any (·.1) = false) : Mf X cl W c (.Call (.Name x px) (e :: es) [] pos) (.prim p (t :: ts)) := by
  refine ⟨⟨fun pins s σ H Q I h => ?_⟩, primF_lst hp⟩
  exact (pe_callB (hp.1 fun c d => W c d σ) hg hm hv ha hn hdb he hpl).run pins s σ H Q I (primF_end h)
theorem mf_primT {p : Prim} {x : Str} {T : String} {e : Expr} {es : List Expr} {t : C} {ts : List C} {px pos : Pos} (hp : PrimF X cl c.sub (.type T) p) (hg : Gl X x) (hm : X.mg x = none) (hv : bootBuiltins x = some (.type T)) (ha : Ma X cl W c (e :: es) (t :: ts)) (hn : x ≠ "__name__") (hdb : (x == ("__debug__" : Str)) = false)
    (he : starEach (e :: es) X.env = (false, eval e X.env) :: starEach es X.env) (hpl : (backTo pos (starEach es X.env)).any (·.1) = false) : Mf X cl W c (.Call (.Name x px) (e :: es) [] pos) (.prim p (t :: ts)) := by
  refine ⟨⟨fun pins s σ H Q I h => ?_⟩, primF_lst hp⟩
  exact (pe_callTy (hp.1 fun c d => W c d σ) hg hm hv ha hn hdb he hpl).run pins s σ H Q I (primF_end h)
end
section
variable {X : Cx} {cl : Nat → Addr} {sub : Nat → Nat → Bool}
theorem seq_or {K : PySem.W.Frag} {H : Hp} {p : Addr} {vs : List V} (h : SqT K H p vs ∨ SqL K H p vs) : SqL K H p vs ∨ SqT K H p vs := h.symm
theorem inv1 {p : Prim} {ds : List D} {m : Mem} {r : D × Mem} (h : pr sub p ds m = some r) (h0 : pr sub p [] m = none) (h2 : ∀ a b t, pr sub p (a :: b :: t) m = none) : ∃ a, ds = [a] ∧ pr sub p [a] m = some r := by
  cases ds with
  | nil => rw [h0] at h; cases h
  | cons a t =>
    cases t with
    | nil => exact ⟨a, rfl, h⟩
    | cons b t => rw [h2] at h; cases h
theorem prLen : PrimOk X sub (.builtin "len") .len := by
  refine CallR.imp call_len fun xs H Q h => ?_
  obtain ⟨ρ, μ, ds, d, μ', mo, rs, h, q⟩ := h
  obtain ⟨a, rfl, h⟩ := inv1 h rfl fun _ _ _ => rfl
  simp only [pr, Option.map_eq_some_iff] at h
  obtain ⟨n, hn, e⟩ := h
  cases e
  obtain ⟨v, rfl, r⟩ := rs.one
  refine ⟨v, n, rfl, ?_, q _ ρ H Tr.refl (RepP.int _) mo⟩
  unfold lenD at hn
  cases qd : der μ a with
  | none => rw [qd] at hn; cases hn
  | some y =>
    rw [qd] at hn
    have w := r.view mo qd
    cases y with
    | lst ys => cases hn; obtain ⟨a, vs, rfl, h1, h2⟩ := w; exact .inl ⟨vs, h1, h2.length⟩
    | tup ys => cases hn; obtain ⟨a, vs, rfl, h1, h2⟩ := w; exact .inr ⟨vs, h1, h2.length⟩
    | str s => cases hn; obtain ⟨rfl, k⟩ := w; exact ⟨k.len, rfl⟩
    | dct _ => exact w.elim
    | dtp _ => exact w.elim
    | _ => cases hn
theorem prAbs : PrimOk X sub (.builtin "abs") .abs := by
  refine CallR.imp call_abs fun xs H Q h => ?_
  obtain ⟨ρ, μ, ds, d, μ', mo, rs, h, q⟩ := h
  obtain ⟨a, rfl, h⟩ := inv1 h rfl fun a _ _ => by cases a <;> rfl
  obtain ⟨v, rfl, r⟩ := rs.one
  cases a with
  | int i => cases h; exact ⟨i, by rw [r.isI], q _ ρ H Tr.refl (RepP.int _) mo⟩
  | _ => cases h
theorem prInt : PrimOk X sub (.type "int") .int := by
  refine CallR.imp call_int1 fun xs H Q h => ?_
  obtain ⟨ρ, μ, ds, d, μ', mo, rs, h, q⟩ := h
  obtain ⟨a, rfl, h⟩ := inv1 h rfl fun a _ _ => by cases a <;> rfl
  obtain ⟨v, rfl, r⟩ := rs.one
  cases a with
  | bl b => cases h; exact .inr ⟨b, by rw [r.isB], q _ ρ H Tr.refl (RepP.int _) mo⟩
  | int i => cases h; exact .inl ⟨i, by rw [r.isI], q _ ρ H Tr.refl (RepP.int _) mo⟩
  | _ => cases h
theorem der_tup {K : PySem.W.Frag} {ρ : Rho} {H : Hp} {m : Mem} {d : D} {v : V} {zs : List D} (mo : MemOk K ρ H m) (r : Rep K ρ H d v) (h : der m d = some (.tup zs)) : d = .tup zs := by
  cases d with
  | ref l =>
    cases hm : m[l]? with
    | none => simp [der, hm] at h
    | some cc =>
      cases cc with
      | _ => simp [der, hm] at h
  | lck d =>
    cases d with
    | lst _ => simp [der] at h
    | _ => exact nomatch r
  | _ => simpa [der] using h
theorem prTuple : PrimOk X sub (.type "tuple") .tuple := by
  refine CallR.imp call_tuple_of fun xs H Q h => ?_
  obtain ⟨ρ, μ, ds, d, μ', mo, rs, h, q⟩ := h
  obtain ⟨a, rfl, h⟩ := inv1 h rfl fun _ _ _ => rfl
  simp only [pr, Option.map_eq_some_iff] at h
  obtain ⟨ys, hn, e⟩ := h
  cases e
  obtain ⟨v, rfl, r⟩ := rs.one
  unfold seqOf at hn
  cases qd : der μ a with
  | none => rw [qd] at hn; cases hn
  | some y =>
    rw [qd] at hn
    have w := r.view mo qd
    cases y with
    | lst zs =>
      cases hn
      obtain ⟨p, vs, rfl, h1, h2⟩ := w
      exact ⟨p, vs, rfl, .inl ⟨h1, fin_tup mo h2 fun v H' t r m => q v ρ H' t r m⟩⟩
    | tup zs =>
      cases hn
      have ea := der_tup mo r qd
      subst ea
      cases r with
      | tup h1 h2 => exact ⟨_, _, rfl, .inr ⟨h1.sq, q _ ρ H Tr.refl (RepP.tup h1 h2) mo⟩⟩
    | _ => cases hn
theorem prList : PrimF X cl sub (.type "list") .list := by
  refine ⟨fun W => CallR.imp call_list_of fun xs H Q h => ?_, fun ds m d m' h => ?_⟩
  · obtain ⟨ρ, μ, ds, d, μ', mo, rs, h, q⟩ := h
    obtain ⟨a, rfl, h⟩ := inv1 h rfl fun _ _ _ => rfl
    simp only [pr, Option.map_eq_some_iff] at h
    obtain ⟨ys, hn, e⟩ := h
    cases e
    obtain ⟨v, rfl, r⟩ := rs.one
    obtain ⟨p, vs, rfl, h1, h2⟩ := seqOf_view r mo hn
    exact ⟨p, vs, rfl, h1.symm, q.lay mo h2⟩
  · obtain ⟨a, rfl, h⟩ := inv1 h rfl fun _ _ _ => rfl
    simp only [pr, Option.map_eq_some_iff] at h
    obtain ⟨ys, hn, e⟩ := h
    cases e
    exact True.intro
theorem inv2 {p : Prim} {ds : List D} {m : Mem} {r : D × Mem} (h : pr sub p ds m = some r) (h0 : pr sub p [] m = none) (h1 : ∀ a, pr sub p [a] m = none) (h2 : ∀ a b c t, pr sub p (a :: b :: c :: t) m = none) : ∃ a b, ds = [a, b] ∧ pr sub p [a, b] m = some r := by
  cases ds with
  | nil => rw [h0] at h; cases h
  | cons a t =>
    cases t with
    | nil => rw [h1] at h; cases h
    | cons b t =>
      cases t with
      | nil => exact ⟨a, b, rfl, h⟩
      | cons _ _ => rw [h2] at h; cases h
theorem prMin (hc : X.calm = true) : PrimOk X sub (.builtin "min") .min2 := by
  refine CallR.imp (call_min2 hc) fun xs H Q h => ?_
  obtain ⟨ρ, μ, ds, d, μ', mo, rs, h, q⟩ := h
  obtain ⟨a, b, rfl, h⟩ := inv2 h rfl (fun a => by cases a <;> rfl) fun a b _ _ => by cases a <;> cases b <;> rfl
  obtain ⟨v, w, rfl, r1, r2⟩ := rs.two
  cases a with
  | int i =>
    cases b with
    | int j => cases h; exact ⟨i, j, by rw [r1.isI, r2.isI], q _ ρ H Tr.refl (RepP.int _) mo⟩
    | _ => cases h
  | _ => cases h
theorem prMax (hc : X.calm = true) : PrimOk X sub (.builtin "max") .max2 := by
  refine CallR.imp (call_max2 hc) fun xs H Q h => ?_
  obtain ⟨ρ, μ, ds, d, μ', mo, rs, h, q⟩ := h
  obtain ⟨a, b, rfl, h⟩ := inv2 h rfl (fun a => by cases a <;> rfl) fun a b _ _ => by cases a <;> cases b <;> rfl
  obtain ⟨v, w, rfl, r1, r2⟩ := rs.two
  cases a with
  | int i =>
    cases b with
    | int j => cases h; exact ⟨i, j, by rw [r1.isI, r2.isI], q _ ρ H Tr.refl (RepP.int _) mo⟩
    | _ => cases h
  | _ => cases h
end
end Py
end

section
set_option Elab.async false
set_option linter.all false
set_option maxRecDepth 100000
set_option maxHeartbeats 400000
/-! PySort: sorted(x) of a list or a tuple of data. -/
namespace Py
open PySem L2 PyProof.Rows
open PySem (Str)
variable [Tabs]

/-! ### the order -/
mutual
theorem ordOk_alike : ∀ x y : D, ordOk x y = true → PySem.W.alike (toP x) (toP y) = true ∧ PySem.W.dataLt (toP x) (toP y) = ltB x y ∧ (toP x).eqv (toP y) = eqB x y
  | .int i, .int j, _ => ⟨by simp [toP, PySem.W.alike], by simp only [toP, ltB]; exact PySem.W.dataLt_int i j, by simp [toP, PyData.eqv, eqB]⟩
  | .str s, .str t, _ => ⟨by simp [toP, PySem.W.alike], by simp only [toP, ltB, strLt]; exact PySem.W.dataLt_str s t, by simp [toP, PyData.eqv, eqB]⟩
  | .tup xs, .tup ys, h => by
    simp only [ordOk] at h
    obtain ⟨h1, h2, h3⟩ := ordOks_alike xs ys h
    refine ⟨by simp only [toP, PySem.W.alike]; exact h1, by simp only [toP, ltB]; rw [PySem.W.dataLt_tuple]; exact h2, by simp only [toP, PyData.eqv, eqB]; exact h3⟩
  | .non, _, h => by simp [ordOk] at h
  | .bl _, _, h => by simp [ordOk] at h
  | .lst _, _, h => by simp [ordOk] at h
  | .dct _, _, h => by simp [ordOk] at h
  | .ref _, _, h => by simp [ordOk] at h
  | .exc _, _, h => by simp [ordOk] at h
  | .lck _, _, h => by simp [ordOk] at h
  | .int _, .non, h => by simp [ordOk] at h
  | .int _, .bl _, h => by simp [ordOk] at h
  | .int _, .str _, h => by simp [ordOk] at h
  | .int _, .tup _, h => by simp [ordOk] at h
  | .int _, .lst _, h => by simp [ordOk] at h
  | .int _, .dct _, h => by simp [ordOk] at h
  | .int _, .ref _, h => by simp [ordOk] at h
  | .int _, .exc _, h => by simp [ordOk] at h
  | .int _, .lck _, h => by simp [ordOk] at h
  | .str _, .non, h => by simp [ordOk] at h
  | .str _, .bl _, h => by simp [ordOk] at h
  | .str _, .int _, h => by simp [ordOk] at h
  | .str _, .tup _, h => by simp [ordOk] at h
  | .str _, .lst _, h => by simp [ordOk] at h
  | .str _, .dct _, h => by simp [ordOk] at h
  | .str _, .ref _, h => by simp [ordOk] at h
  | .str _, .exc _, h => by simp [ordOk] at h
  | .str _, .lck _, h => by simp [ordOk] at h
  | .tup _, .non, h => by simp [ordOk] at h
  | .tup _, .bl _, h => by simp [ordOk] at h
  | .tup _, .int _, h => by simp [ordOk] at h
  | .tup _, .str _, h => by simp [ordOk] at h
  | .tup _, .lst _, h => by simp [ordOk] at h
  | .tup _, .dct _, h => by simp [ordOk] at h
  | .tup _, .ref _, h => by simp [ordOk] at h
  | .tup _, .exc _, h => by simp [ordOk] at h
  | .tup _, .lck _, h => by simp [ordOk] at h
theorem ordOks_alike : ∀ xs ys : List D, ordOks xs ys = true → PySem.W.alikeAll (toPs xs) (toPs ys) = true ∧ PyProof.Rows.lexLt PyProof.Rows.itemOrd (PySem.W.keyToksAll (toPs xs)) (PySem.W.keyToksAll (toPs ys)) = ltBs xs ys ∧ PyData.eqvAll (toPs xs) (toPs ys) = eqBs xs ys
  | [], [], _ => ⟨by simp [toPs, PySem.W.alikeAll], by simp only [toPs, ltBs]; exact PyProof.Rows.lex_irrefl _, by simp [toPs, PyData.eqvAll, eqBs]⟩
  | [], y :: ys, _ => ⟨by simp [toPs, PySem.W.alikeAll], by
      simp only [toPs, ltBs, PySem.W.keyToksAll]
      rfl, by simp [toPs, PyData.eqvAll, eqBs]⟩
  | x :: xs, [], _ => ⟨by simp [toPs, PySem.W.alikeAll], by
      simp only [toPs, ltBs, PySem.W.keyToksAll]
      rfl, by simp [toPs, PyData.eqvAll, eqBs]⟩
  | x :: xs, y :: ys, h => by
    simp only [ordOks, Bool.and_eq_true] at h
    obtain ⟨a1, a2, a3⟩ := ordOk_alike x y h.1
    obtain ⟨b1, b2, b3⟩ := ordOks_alike xs ys h.2
    refine ⟨by simp only [toPs, PySem.W.alikeAll, a1, b1, Bool.and_self], ?_, by simp only [toPs, PyData.eqvAll, eqBs, a3, b3]⟩
    simp only [toPs, ltBs]
    rw [PySem.W.dataLt_cons a1, a3, b2, a2]
end

/-! ### sorted(x) -/
section
open PySem.W PySem.Calls
variable {prog : Program} {w : World} {A : Around} {E : Value → Shared → Prop} {s : Shared} {vs : List Value} {bs : List D} {Rl : Value → D → Prop}
theorem sorted_of {a : Addr} {Q : Value → Shared → Prop}
    (hcol : ∀ (A' : Around) (E' : Value → Shared → Prop) (Q1 : List Value → Shared → Prop), A'.handled = A.handled → (∀ h1 tk, (∀ b o', s.heap.get? b = some o' → h1.get? b = some o') → Q1 vs { s with heap := h1, toks := tk }) → wpAny (model prog w) A' (collect (.ref a)) Q1 E' s)
    (e : EachIs Rl vs bs) (er : EachIs (fun v b => ∃ as, Reads s.heap v (toP b) as) vs bs) (hal : AllAlike (bs.map toP)) (hk : Sortable (bs.map toP)) (hL : bs.length ≤ sizeLine) (hu : ∀ b, b ∈ bs → A.units + 3 + (toP b).depth < cLine)
    (h : ∀ (h1 h' : Heap) tk c out, (∀ b o', s.heap.get? b = some o' → h1.get? b = some o') → (∀ b o', h1.get? b = some o' → h'.get? b = some o') → h'.get? h1.objs.size = some { cls := .type "list", data := .seq (List.toArray out) c } → out.length = bs.length → EachIs Rl out (bs.mergeSort (dataLe false toP)) → Q (.ref h1.objs.size) { s with heap := h', toks := tk }) :
    wpAny (model prog w) A (call (.builtin "sorted") [.ref a]) Q E s := by
  have hvl : vs.length = bs.length := e.length
  refine call_function_entry_kw kind_sorted plain_sorted entry_sorted (args_sorted1 _) ?_
  unfold Builtin.«sorted»
  refine wpAny_bind (m := checkCount "sorted" 1 1 _) (wpAny_pure ?_)
  refine wpAny_bind (hcol _ _ _ rfl fun h1 tk k1 => ?_)
  refine wpAny_bind (wpAny_newList ?_ (by omega))
  have k2 : ∀ b o', s.heap.get? b = some o' → (h1.push { cls := .type "list", data := .seq vs.toArray }).get? b = some o' := fun b o' q => Heap.get?_push_of_some _ (k1 b o' q)
  have hat : (h1.push { cls := .type "list", data := .seq vs.toArray }).get? h1.objs.size = some (seqObj "list" vs.toArray 0) := Heap.get?_push_size _ rfl
  have er2 : EachIs (fun v b => ∃ as, Reads (sortingHeap (h1.push { cls := .type "list", data := .seq vs.toArray }) h1.objs.size vs) v (toP b) as) vs bs := er.mono fun v b ⟨as, r⟩ => ⟨as, Reads.keeps (fun b' o' q => by
    have q1 := k1 b' o' q
    exact sortingHeap_old (Nat.ne_of_lt (Heap.lt_size q1)) (Heap.get?_push_of_some _ q1)) r⟩
  refine wpAny_bind (wpAny_holding (wpAny_call_entry_kw slot_list_sort ⟨_, hat, rfl⟩ entry_list_sort ?_ (args_list_sort _)))
  show wpAny (model prog w) A.in1.in1 (Builtin.«list.sort» ⟨[.ref h1.objs.size], []⟩) _ _ _
  refine list_sort_vals (s := { s with heap := h1.push { cls := .type "list", data := .seq vs.toArray }, toks := tk }) (κ := dataKind (sortingHeap (h1.push { cls := .type "list", data := .seq vs.toArray }) h1.objs.size vs) (bs.map toP)) hat
    (SortsAt.data (s := { s with heap := sortingHeap (h1.push { cls := .type "list", data := .seq vs.toArray }) h1.objs.size vs, toks := tk }) (each_map (R := fun v d => ∃ as, Reads (sortingHeap (h1.push { cls := .type "list", data := .seq vs.toArray }) h1.objs.size vs) v d as) toP er2) hal hk (bound_map fun b hb => by have := hu b hb; show A.units + 1 + 1 + _ < _; omega)) (by omega) ?_
  refine ⟨_, rfl, wpAny_pure ⟨_, rfl, ?_⟩⟩
  obtain ⟨c, hc'⟩ := sortedHeap_at (vs := vs) (out := (sortVals (dataKind (sortingHeap (h1.push { cls := .type "list", data := .seq vs.toArray }) h1.objs.size vs) (bs.map toP)) false vs vs).toArray) hat
  refine h h1 _ tk c (sortVals (dataKind (sortingHeap (h1.push { cls := .type "list", data := .seq vs.toArray }) h1.objs.size vs) (bs.map toP)) false vs vs) k1 (fun b o' q1 => ?_) hc' (by rw [sortVals_length false rfl]; exact hvl) (sortVals_data false e er2 hal)
  have q2 : (h1.push { cls := .type "list", data := .seq vs.toArray }).get? b = some o' := Heap.get?_push_of_some _ q1
  exact (sortedHeap_old (Nat.ne_of_lt (Heap.lt_size q1)) (Heap.lt_size q2)).trans q2
end
theorem sortOk_alike {xs : List D} (h : sortOk xs = true) : PySem.W.AllAlike (xs.map toP) ∧ PySem.W.Sortable (xs.map toP) ∧ (∀ x ∈ xs, dep x ≤ dq) ∧ ∀ x ∈ xs, ∀ y ∈ xs, ordOk x y = true := by
  unfold sortOk at h
  simp only [Bool.and_eq_true, decide_eq_true_eq] at h
  obtain ⟨⟨h1, h2⟩, h3⟩ := h
  have ho : ∀ x ∈ xs, ∀ y ∈ xs, ordOk x y = true := fun x hx y hy => by
    have := List.all_eq_true.mp h1 x hx
    exact List.all_eq_true.mp this y hy
  refine ⟨fun d hd d' hd' => ?_, ?_, fun x hx => ?_, ho⟩
  · obtain ⟨x, hx, rfl⟩ := List.mem_map.mp hd
    obtain ⟨y, hy, rfl⟩ := List.mem_map.mp hd'
    exact (ordOk_alike x y (ho x hx y hy)).1
  · simp only [Bool.or_eq_true] at h2
    rcases h2 with h2 | h2
    · refine .inl fun d hd => ?_
      obtain ⟨x, hx, rfl⟩ := List.mem_map.mp hd
      have z := List.all_eq_true.mp h2 x hx
      cases x with
      | tup ys =>
        cases ys with
        | nil => simp [tupNe] at z
        | cons y r => exact ⟨toP y, toPs r, by simp [toP, toPs]⟩
      | _ => simp [tupNe] at z
    · refine .inr fun d hd => ?_
      obtain ⟨x, hx, rfl⟩ := List.mem_map.mp hd
      have z := List.all_eq_true.mp h2 x hx
      have oo := ho x hx x hx
      cases x with
      | tup ys => simp [tupNon] at z
      | non => simp [tupNon] at z
      | int _ => exact ⟨by simp [toP], by simp [toP]⟩
      | str _ => exact ⟨by simp [toP], by simp [toP]⟩
      | _ => simp [ordOk] at oo
  · have : ∀ (xs : List D), x ∈ xs → dep x ≤ deps xs := fun xs => by
      induction xs with
      | nil => intro h; cases h
      | cons y ys ih =>
        intro h
        simp only [deps]
        rcases List.mem_cons.mp h with h | h
        · subst h; exact Nat.le_max_left _ _
        · exact Nat.le_trans (ih h) (Nat.le_max_right _ _)
    exact Nat.le_trans (this xs hx) h3
theorem sortOk_merge {xs : List D} (h : ∀ x ∈ xs, ∀ y ∈ xs, ordOk x y = true) : xs.mergeSort (PySem.W.dataLe false toP) = xs.mergeSort leD := by
  have z := List.map_mergeSort (r := PySem.W.dataLe false toP) (s := leD) (f := id) (l := xs) (fun a ha b hb => by
    show (!PySem.W.dataLt (toP b) (toP a)) = !ltB b a
    rw [(ordOk_alike b a (h b hb a ha)).2.1])
  simpa using z
open PySem.W in
theorem each_of {R : Value → D → Prop} {K : PySem.W.Frag} {ρ : Rho} {H : Hp} : ∀ {ds : List D} {vs : List V} {us : List Value}, RepPs K ρ H ds vs → Vals vs us → (∀ d v u, RepP K ρ H d v → RelV v u → R u d) → EachIs R us ds
  | _, _, _, .nil, .nil, _ => .nil
  | _, _, _, .cons h hs, .cons r rs, k => .cons (k _ _ _ h r) (each_of hs rs k)
open PySem.W in
theorem each_to {K : PySem.W.Frag} {ρ : Rho} {H : Hp} : ∀ {ds : List D} {us : List Value}, EachIs (fun u d => ∃ v, RepP K ρ H d v ∧ RelV v u) us ds → ∃ vs, RepPs K ρ H ds vs ∧ Vals vs us
  | _, _, .nil => ⟨[], .nil, .nil⟩
  | _, _, .cons ⟨v, h, r⟩ t => let ⟨vs, h', r'⟩ := each_to t; ⟨v :: vs, .cons h h', .cons r r'⟩
theorem keys_of {K : PySem.W.Frag} {ρ : Rho} {H : Hp} : ∀ {ps : List (D × D)} {es : List DictEntry}, EntRs K ρ H ps es → ∃ vs its, RepPs K ρ H (ps.map (·.1)) vs ∧ Vals vs its ∧ es.map (·.key) = its
  | _, _, .nil => ⟨[], [], .nil, .nil, rfl⟩
  | _, _, .cons (e := e) h hs => by
    obtain ⟨vs, its, h1, h2, h3⟩ := keys_of hs
    obtain ⟨b, hb, rb⟩ := h.key
    exact ⟨.ref b :: vs, e.key :: its, .cons rb h1, .cons (by rw [hb]; exact rfl) h2, by rw [List.map_cons, h3]⟩
section
variable {X : Cx} {cl : Nat → Addr} {sub : Nat → Nat → Bool}
theorem prSorted (hu : X.A.units + 200 < cLine) (hc : X.calm = true) : PrimF X cl sub (.builtin "sorted") .sorted := by
  refine ⟨fun W => ?_, fun ds m d m' h => ?_⟩
  · intro pins s σ H xs us Q I rv h
    obtain ⟨ρ, μ, ds, d, μ', mo, rs, h, q⟩ := h
    obtain ⟨a, rfl, h⟩ := inv1 h rfl fun _ _ _ => rfl
    simp only [pr, Option.bind_eq_some_iff, Option.map_eq_some_iff] at h
    obtain ⟨ys, hn, zs, hs, e⟩ := h
    cases e
    obtain ⟨v, rfl, r⟩ := rs.one
    unfold sortD at hs
    by_cases hok : sortOk ys = true
    · rw [if_pos hok] at hs
      cases hs
      obtain ⟨o1, o2, o3, o4⟩ := sortOk_alike hok
      obtain ⟨u, rfl, ru⟩ := vals1 rv
      have main : ∀ (p : Addr) (vs : List V) (its : List Value), RepPs X.K ρ H ys vs → Vals vs its → vs.length ≤ sizeLine →
          (∀ (A' : Around) (E' : Value → Shared → Prop) (Q1 : List Value → Shared → Prop), A'.handled = X.A.handled → (∀ h1 tk, (∀ b o', s.heap.get? b = some o' → h1.get? b = some o') → Q1 its { s with heap := h1, toks := tk }) → wpAny (model X.prog X.w) A' (collect (.ref p)) Q1 E' s) →
          wpAny (model X.prog X.w) X.A (call (.builtin "sorted") [.ref p]) (EP X pins σ Q) X.xe s := by
        intro p vs its h2 r1 hz hcol
        refine sorted_of (Rl := fun u d => ∃ v, RepP X.K ρ H d v ∧ RelV v u) hcol (each_of h2 r1 fun d v u a b => ⟨v, a, b⟩) (each_of h2 r1 fun d v u a b => RepP.reads I a b) o1 o2 (by rw [h2.length]; exact hz) (fun b hb => ?_) fun h1' h' tk c out k1 k2 hat hlen heach => ?_
        · rw [toP_depth]
          have := o3 b hb
          unfold dq at this
          omega
        · rw [sortOk_merge o4] at heach
          obtain ⟨ws, w1, w2⟩ := each_to heach
          have I1 : Inv X pins σ H { s with heap := h1', toks := tk } := I.kept (t' := tk) k1
          have wl : ws.length ≤ sizeLine := by
            rw [← w1.length, List.length_mergeSort, h2.length]
            exact hz
          refine ⟨.ref h1'.objs.size, _, I1.laid (t' := tk) (o := .lst ws) k2 (Nat.le_refl _) ?_, rfl, q.lay mo w1 _ (I1.hok.fresh (Nat.le_refl _))⟩
          exact ⟨wl, out, c, w2, hat⟩
      cases hk : dctOf μ a with
      | some kvs =>
        simp only [sortSrc, hk, Option.some.injEq] at hn
        subst hn
        obtain ⟨p, es, rfl, rd, ents⟩ := dct_at r mo hk
        cases ru
        obtain ⟨ep, raw⟩ := dphi_raw I rd
        obtain ⟨vs, its, v1, v2, v3⟩ := keys_of ents.ents
        have hl : es.size = its.length := by rw [← v3]; simp
        refine main p vs its v1 v2 (by rw [v2.length, ← hl]; exact ents.len) fun A' E' Q1 hA hq => ?_
        refine PySem.W.kdu_collect (PySem.KdlSrc.rawDict (es := es) (ep := ep) ents.sys) (by rw [hA]; exact I.ok.hd hc) raw ents.len fun h' tk acc k1 items => ?_
        have : acc.toList = its := by
          apply List.ext_getElem?
          intro i
          have sz : acc.size = es.size := items.1
          cases hi : acc.toList[i]? with
          | none =>
            have := List.getElem?_eq_none_iff.mp hi
            rw [Array.length_toList] at this
            rw [List.getElem?_eq_none (by omega)]
          | some w =>
            obtain ⟨hi2, hw⟩ := items.2 i w (by rw [← Array.getElem?_toList]; exact hi)
            rw [← v3, List.getElem?_map, Array.getElem?_toList, Array.getElem?_eq_getElem hi2, hw]
            rfl
        rw [this]
        exact hq h' tk k1
      | none =>
        simp only [sortSrc, hk] at hn
        obtain ⟨p, vs, rfl, h1, h2⟩ := seqOf_view r mo hn
        cases ru
        have seq : ∀ (its : List Value) (T : String) (o : Obj) (n : Nat), Vals vs its → vs.length ≤ sizeLine → (T = "list" ∨ T = "tuple") → s.heap.get? p = some o → o.cls = .type T → o.data = .seq its.toArray n → wpAny (model X.prog X.w) X.A (call (.builtin "sorted") [.ref p]) (EP X pins σ Q) X.xe s := by
          intro its T o n r1 hz hT ho hcl hd
          refine main p vs its h2 r1 hz fun A' E' Q1 _ hq => ?_
          refine wpAny_collect_seq p hT ho hcl hd (fun h1 k1 => ?_) (by rw [List.size_toArray, ← r1.length]; exact hz)
          have ev : its.toArray.toList = its := by simp
          rw [ev]
          exact hq h1 s.toks k1
        rcases h1 with h1 | h1
        · obtain ⟨its, r', pl, hz⟩ := I.tuple h1
          obtain ⟨o, ho, hcl, n, hd⟩ := pl
          exact seq its "tuple" o n r' hz (.inr rfl) ho hcl hd
        · obtain ⟨its, r', pl, hz⟩ := I.list h1
          obtain ⟨o, ho, hcl, n, hd⟩ := pl.isList
          exact seq its "list" o n r' hz (.inl rfl) ho hcl hd
    · rw [if_neg hok] at hs; cases hs
  · obtain ⟨a, rfl, h⟩ := inv1 h rfl fun _ _ _ => rfl
    simp only [pr, Option.bind_eq_some_iff, Option.map_eq_some_iff] at h
    obtain ⟨ys, hn, zs, hs, e⟩ := h
    cases e
    exact True.intro
end
end Py
end

section
set_option Elab.async false
set_option linter.all false
set_option maxRecDepth 100000
set_option maxHeartbeats 1000000
/-! PyRev: list(reversed(x)). -/
namespace Py
open PySem L2 PyProof.Rows
open PySem (Str)
variable [Tabs]
section
open RT PySem.W PySem.Calls
variable {prog : Program} {w : World} {A : Around} {E : Value → Shared → Prop} {s : Shared}
theorem extend_rev {R : Result → Shared → Prop} {it l : Addr} {items : Array Value} (hh : A.handled = none) (hit : s.heap.IsRevIter it l ((items.size : Int) - 1)) (hl : s.heap.IsList l items) (hne : l ≠ it) (hn : items.size ≤ sizeLine)
    (S : Addr) (res : Value) (c₀ : Nat) (hS : s.heap.get? S = some { cls := .type "list", data := .seq #[] c₀ }) (hSi : S ≠ it) (hSl : S ≠ l)
    (hR : ∀ (h' : Heap) (tk : Nat) (acc : Array Value) (c' : Nat), (∀ b o, b ≠ it → b ≠ S → s.heap.get? b = some o → h'.get? b = some o) → h'.get? S = some { cls := .type "list", dict := none, data := .seq acc c', slots := #[] } → ItemsOf (fun i v => items[items.size - 1 - i]? = some v) acc items.size → R (.ok (.ret res)) { s with heap := h', toks := tk }) :
    wpAny (model prog w) A.in1 (Builtin.List.listExtendWith (.ref S) (.ref it) res)
      (fun fin s' => match fin with | .done f => R (.ok f) s' | .again c' => c'.quiet = true ∧ codeAny (model prog w) A c' R s') (fun e s' => R (.error e) s') s := by
  have W := (Walks.listRev (prog := prog) (w := w) (A := A.in1) hh it l hne items).toS
  have hSf : S ∉ [it, l] := by simp only [List.mem_cons, List.not_mem_nil, or_false, not_or]; exact ⟨hSi, hSl⟩
  have hT : s.TypeIs (.ref it) "list_reverseiterator" := hit.typeIs
  have h1 : Builtin.List.listSameRef (.ref S) (.ref it) = false := by simp [Builtin.List.listSameRef, hSi]
  unfold Builtin.List.listExtendWith
  refine wpAny_bind (wpAny_typeOf hT ?_)
  rw [if_neg (by rw [h1]; decide)]
  refine wpAny_bind (wpAny_pyIter_revIter hit ?_)
  refine wpAny_bind (wpAny_holding ?_)
  unfold Builtin.List.listLengthHint
  refine wpAny_bind (wpAny_specialOf hT nolen_lri ?_)
  show wpAny _ A.in1 (specialOf (Value.ref it) (Str.ofString "__length_hint__") >>= _) _ _ _
  refine wpAny_bind (wpAny_specialOf hT hint_lri ?_)
  generalize hid : ("list_reverseiterator.__length_hint__" : String) = id0
  wp_delta
  rw [show splitId id0 = some ("list_reverseiterator", "__length_hint__") from by subst hid; decide +kernel]
  subst hid
  refine wpAny_bind (wpAny_isInstance (b := true) hT (by rw [isSubtype_type]; kernel_rfl) ?_)
  refine wpAny_pure ?_
  rw [if_neg (by decide)]
  have e0 : ((items.size : Nat) : Int) - 1 - ((0 : Nat) : Int) = (items.size : Int) - 1 := by omega
  refine wpAny_pure ⟨plainId_quiet F.plain_extend_loop _, codeAny_extend_loopS W hn _ hSf _ items.size 0 _ _ _ rfl (Nat.zero_le _) ⟨Nat.zero_le _, by rw [e0]; exact hit, hl⟩ hS (ItemsOf.nil _) fun s' acc' c' hm hS' hacc => ?_⟩
  rw [Moved.eq_with hm]
  refine hR s'.heap s'.toks acc' c' (fun b o hb hb2 e => hm.heap b o (fun hmem => ?_) e) hS' hacc
  rcases List.mem_cons.mp hmem with e' | hmem
  · exact hb2 e'
  · exact hb (List.mem_singleton.mp hmem)
theorem list_init_rev {R : Result → Shared → Prop} {it l : Addr} {items : Array Value} (hh : A.handled = none) (hit : s.heap.IsRevIter it l ((items.size : Int) - 1)) (hl : s.heap.IsList l items) (hne : l ≠ it) (hn : items.size ≤ sizeLine)
    (S : Addr) (hS : s.heap.get? S = some { cls := .type "list", data := .seq #[] }) (hSi : S ≠ it) (hSl : S ≠ l)
    (hR : ∀ (h' : Heap) (tk : Nat) (acc : Array Value) (c' : Nat), (∀ b o, b ≠ it → b ≠ S → s.heap.get? b = some o → h'.get? b = some o) → h'.get? S = some { cls := .type "list", dict := none, data := .seq acc c', slots := #[] } → ItemsOf (fun i v => items[items.size - 1 - i]? = some v) acc items.size → R (.ok (.ret .none)) { s with heap := h', toks := tk }) :
    wpAny (model prog w) A.in1 (Builtin.«list.__init__» ⟨[.ref S, .ref it], []⟩)
      (fun fin s' => match fin with | .done f => R (.ok f) s' | .again c' => c'.quiet = true ∧ codeAny (model prog w) A c' R s') (fun e s' => R (.error e) s') s := by
  show wpAny _ _ (do let old ← Builtin.List.listItems (.ref S); Builtin.List.listUpdate (.ref S) (fun _ => #[]); letGo old.toList.reverse; Builtin.List.listExtendWith (.ref S) (.ref it) .none) _ _ s
  refine wpAny_bind ?_
  unfold Builtin.List.listItems
  refine wpAny_bind (wpAny_seqItems hS rfl (wpAny_pure ?_))
  show wpAny _ _ (updateSeq S (fun _ => #[]) >>= fun _ => letGo (#[] : Array Value).toList.reverse >>= fun _ => Builtin.List.listExtendWith (.ref S) (.ref it) .none) _ _ s
  refine wpAny_bind (wpAny_updateSeq hS rfl ?_)
  have hS₂ := Heap.get?_update_self (Obj.mapSeq (fun _ => (#[] : Array Value))) hS rfl
  have oth : ∀ b o, b ≠ S → s.heap.get? b = some o → (s.heap.update S (Obj.mapSeq (fun _ => (#[] : Array Value)))).get? b = some o :=
    fun b o hb e => (Heap.get?_update_other _ _ (Ne.symm hb)).trans e
  refine wpAny_bind (wpAny_letGo ?_)
  obtain ⟨ol, hol, a1, a2⟩ := id hl
  refine extend_rev (s := { s with heap := s.heap.update S (Obj.mapSeq (fun _ => (#[] : Array Value))) }) hh (hit.at fun o e => oth it o (Ne.symm hSi) e) ⟨ol, oth l ol (Ne.symm hSl) hol, a1, a2⟩ hne hn S .none _ hS₂ hSi hSl fun h' tk acc c' hk hS' hacc => ?_
  exact hR h' tk acc c' (fun b o hb hb2 e => hk b o hb hb2 (oth b o hb2 e)) hS' hacc
theorem call_list_rev {it l : Addr} {items : Array Value} {Q : Value → Shared → Prop} (hh : A.handled = none) (hit : s.heap.IsRevIter it l ((items.size : Int) - 1)) (hl : s.heap.IsList l items) (hne : l ≠ it) (hn : items.size ≤ sizeLine)
    (hQ : ∀ (h' : Heap) (tk : Nat) (acc : Array Value) (c' : Nat), (∀ b o, b ≠ it → s.heap.get? b = some o → h'.get? b = some o) → h'.get? s.heap.objs.size = some { cls := .type "list", dict := none, data := .seq acc c', slots := #[] } → ItemsOf (fun i v => items[items.size - 1 - i]? = some v) acc items.size →
      Q (.ref s.heap.objs.size) { s with heap := h', toks := tk }) :
    wpAny (model prog w) A (call (.type "list") [.ref it]) Q E s := by
  refine callType_codes (Q₁ := fun obj s₁ => obj = .ref s.heap.objs.size ∧ s₁ = { s with heap := s.heap.push { cls := .type "list", data := .seq #[] } }) F.called_list (F.typeCall_list_1 _) F.entry_list_init
    (code_list_new _ ⟨rfl, rfl⟩) fun obj s₁ h₁ => ?_
  obtain ⟨rfl, rfl⟩ := h₁
  have hS : (s.heap.push { cls := .type "list", data := .seq #[] }).get? s.heap.objs.size = some { cls := .type "list", data := .seq #[] } := Heap.get?_push_size _ rfl
  obtain ⟨oi, hoi, _⟩ := id hit
  obtain ⟨ol, hol, _⟩ := id hl
  have hSi : s.heap.objs.size ≠ it := Nat.ne_of_gt (Heap.lt_size hoi)
  have hSl : s.heap.objs.size ≠ l := Nat.ne_of_gt (Heap.lt_size hol)
  refine ⟨⟨_, hS, rfl⟩, F.args_list_init_2 _ _, list_init_rev (A := A.in1) (s := { s with heap := s.heap.push { cls := .type "list", data := .seq #[] } }) hh (hit.at fun o e => Heap.get?_push_of_some _ e) (hl.push _) hne hn _ hS hSi hSl fun h' tk acc c' hk hS' hacc => ?_⟩
  exact ⟨rfl, hQ h' tk acc c' (fun b o hb e => hk b o hb (Nat.ne_of_lt (Heap.lt_size e)) (Heap.get?_push_of_some _ e)) hS' hacc⟩
end
section
open RT PySem.W PySem.Calls PySem.Spec
variable {X : Cx} {cl : Nat → Addr} {W : WX} {c : Cfg}
def tListRev (K : PySem.W.Frag) (te : TE) : TE := fun σ H Q => te σ H fun v H1 => ∃ (a : Addr) (xs : List V), v = .ref a ∧ SqL K H1 a xs ∧ ∀ q, H1 q = none → Q (.ref q) (upd H1 q (.lst xs.reverse))
theorem pe_listRev {e : Expr} {te : TE} {p p2 pos pos2 : Pos} (hc : X.calm = true) (hg : Gl X "list") (hm : X.mg "list" = none) (hg2 : Gl X "reversed") (hm2 : X.mg "reversed" = none) (he : PE X e te)
    (hs : starEach [e] X.env = (false, eval e X.env) :: starEach [] X.env)
    (hs2 : starEach [.Call (.Name "reversed" p2) [e] [] pos2] X.env = (false, eval (.Call (.Name "reversed" p2) [e] [] pos2) X.env) :: starEach [] X.env) :
    PE X (.Call (.Name "list" p) [.Call (.Name "reversed" p2) [e] [] pos2] [] pos) (tListRev X.K te) := by
  refine ⟨fun pins s σ H Q I h => ?_⟩
  refine Call_ (ld_blt I hg hm boot_list (PyProof.Rows.callWith_type1 (args_cons (Call_ (ld_blt I hg2 hm2 PyProof.Rows.boot_reversed (PyProof.Rows.callWith_type1 (args_cons (thn (he.run pins s σ H _ I h) fun u s1 ⟨v, H1, I1, r1, q1⟩ => args_nil ?_) hs) hs rfl))) hs2) hs2 rfl))
  obtain ⟨a, xs, ev, hq, q⟩ := q1
  subst ev
  obtain rfl : u = Value.ref a := r1
  obtain ⟨its, rv, p', hz⟩ := I1.list hq
  refine call_reversed_list p'.isList (args_nil ?_)
  have k0 : ∀ b o, s1.heap.get? b = some o → (s1.heap.push (revObj a ((its.toArray.size : Int) - 1))).get? b = some o := fun b o e => Heap.get?_push_of_some _ e
  have I2 : Inv X pins σ H1 { s1 with heap := s1.heap.push (revObj a ((its.toArray.size : Int) - 1)) } := I1.kept (t' := s1.toks) k0
  obtain ⟨f0, f1, f2, f3, f4, f5⟩ := I1.fpOk (H' := H1) (b := s1.heap.objs.size) (Nat.le_refl _) (I1.hok.fresh (Nat.le_refl _))
  have hl := p'.isList
  obtain ⟨ol, hol, _⟩ := id hl
  have hne : a ≠ s1.heap.objs.size := Nat.ne_of_lt (Heap.lt_size hol)
  have hn : its.toArray.size ≤ sizeLine := by rw [List.size_toArray, ← rv.length]; exact hz
  have hsz : (s1.heap.push (revObj a ((its.toArray.size : Int) - 1))).objs.size = s1.heap.objs.size + 1 := by simp
  refine call_list_rev (s := { s1 with heap := s1.heap.push (revObj a ((its.toArray.size : Int) - 1)) }) (I1.ok.hd hc) ⟨_, Heap.get?_push_size _ rfl, rfl, rfl⟩ (hl.push _) hne hn fun h' tk acc c' hk hS' hi => ?_
  have I3 : Inv X pins σ (upd H1 (s1.heap.push (revObj a ((its.toArray.size : Int) - 1))).objs.size (.lst xs.reverse)) { s1 with heap := (s1.heap.push (revObj a ((its.toArray.size : Int) - 1))).push { cls := .type "list", dict := none, data := .seq acc c', slots := #[] } } :=
    I2.laid (t' := s1.toks) (fun b o e => Heap.get?_push_of_some _ e) (Nat.le_refl _) ⟨by rw [List.length_reverse]; exact hz, acc.toList, c', vals_rev rv hi, by rw [Array.toArray_toList]; exact Heap.get?_push_size _ rfl⟩
  have hSne : (s1.heap.push (revObj a ((its.toArray.size : Int) - 1))).objs.size ≠ s1.heap.objs.size := by rw [hsz]; exact Nat.succ_ne_self _
  have hne2 : upd H1 (s1.heap.push (revObj a ((its.toArray.size : Int) - 1))).objs.size (.lst xs.reverse) s1.heap.objs.size = none := by rw [upd_ne (Ne.symm hSne)]; exact I1.hok.fresh (Nat.le_refl _)
  have I4 : Inv X pins σ _ { s1 with heap := h', toks := tk } := L2.Inv.turned (s := { s1 with heap := (s1.heap.push (revObj a ((its.toArray.size : Int) - 1))).push { cls := .type "list", dict := none, data := .seq acc c', slots := #[] } }) (h' := h') I3 (t' := tk) (it := s1.heap.objs.size) (fun b o hb e => ?_) hne2 f1 f3 f4 f5
  · exact ⟨.ref (s1.heap.push (revObj a ((its.toArray.size : Int) - 1))).objs.size, _, I4, rfl, q _ (I2.hok.fresh (Nat.le_refl _))⟩
  · by_cases hbS : b = (s1.heap.push (revObj a ((its.toArray.size : Int) - 1))).objs.size
    · subst hbS
      rw [Heap.get?_push_size _ rfl] at e
      cases e
      exact hS'
    · have hlt := Heap.lt_size e
      rw [Heap.get?_push_ne _ _ _ hbS] at e
      exact hk b o hb e
theorem evs_one {α : Type} {en : Env} {t : C} {μ : Mem} (f : List D → Mem → R α) : (evs c en [t] μ).bind f = (ev c en t μ).bind fun x m => f [x] m := by
  rw [evs]
  rw [R.bind_assoc]
  cases ev c en t μ with
  | ok x m => simp only [R.bind_ok]; rw [evs]; rfl
  | ex _ _ => rfl
  | no => rfl
theorem unL_some {d : D} {xs : List D} (h : unL d = some xs) : d = .lst xs := by cases d <;> cases h <;> rfl
theorem mf_listrev {e : Expr} {t : C} {p p2 pos pos2 : Pos} (hc : X.calm = true) (hg : Gl X "list") (hm : X.mg "list" = none) (hg2 : Gl X "reversed") (hm2 : X.mg "reversed" = none) (he : Me X cl W c e t)
    (hs : starEach [e] X.env = (false, eval e X.env) :: starEach [] X.env)
    (hs2 : starEach [.Call (.Name "reversed" p2) [e] [] pos2] X.env = (false, eval (.Call (.Name "reversed" p2) [e] [] pos2) X.env) :: starEach [] X.env) :
    Mf X cl W c (.Call (.Name "list" p) [.Call (.Name "reversed" p2) [e] [] pos2] [] pos) (.prim .listrev [t]) := by
  refine ⟨PE.imp (pe_listRev hc hg hm hg2 hm2 he hs hs2) fun σ H Q h => ?_, fun en μ d μ' h => ?_⟩
  · obtain ⟨ρ, en, μ, h1, h2, h3⟩ := h
    dsimp only at h3
    rw [ev, evs_one] at h3
    refine tE.goF ⟨h1, h2⟩ h3 fun x H1 ρ1 dx μ1 t1 a1 r1 h4 => ?_
    simp only [pr] at h4
    cases qd : der μ1 dx with
    | none => rw [qd] at h4; exact h4.elim
    | some y =>
      rw [qd] at h4
      simp only [Option.bind_some] at h4
      cases qu : unL y with
      | none => rw [qu] at h4; exact h4.elim
      | some xs =>
        rw [qu] at h4
        have e := unL_some qu
        subst e
        obtain ⟨a, vs, rfl, k1, k2⟩ := r1.view a1.mem qd
        exact ⟨a, vs, rfl, k1, RGF.lay h4 a1.mem k2.rev⟩
  · rw [ev, evs_one] at h
    cases q1 : ev c en t μ with
    | ok x m1 =>
      rw [q1] at h; simp only [R.bind_ok, pr] at h
      cases qd : der m1 x with
      | none => rw [qd] at h; cases h
      | some y =>
        rw [qd] at h
        simp only [Option.bind_some] at h
        cases qu : unL y with
        | none => rw [qu] at h; cases h
        | some xs => rw [qu] at h; cases h; exact True.intro
    | ex _ _ => rw [q1] at h; cases h
    | no => rw [q1] at h; cases h
end
end Py
end

section
set_option Elab.async false
set_option linter.all false
set_option maxRecDepth 100000
set_option maxHeartbeats 400000
/-! PyIdx: isinstance, places, slices, methods. -/
namespace Py
open PySem L2 PyProof.Rows
open PySem (Str)
variable [Tabs]
section
variable {X : Cx} {cl : Nat → Addr} {W : WX} {c : Cfg}
/-! ### isinstance(e, T) -/
def tyName : D → Option String
  | .non => some "NoneType"
  | .bl _ => some "bool"
  | .int _ => some "int"
  | .str _ => some "str"
  | .lst _ => some "list"
  | .tup _ => some "tuple"
  | _ => none
theorem View.ty {K : PySem.W.Frag} {ρ : Rho} {H : Hp} {d : D} {x : V} (h : View K ρ H d x) : ∃ T, tyName d = some T ∧ TyX K H x (.type T) := by
  cases d with
  | non => cases (show x = .non from h); exact ⟨_, rfl, .base .non⟩
  | bl b => cases (show x = .bl b from h); exact ⟨_, rfl, .base (.bl b)⟩
  | int b => cases (show x = .int b from h); exact ⟨_, rfl, .base (.int b)⟩
  | str b => obtain ⟨rfl, _⟩ := h; exact ⟨_, rfl, .base (.str b)⟩
  | lst xs =>
    obtain ⟨a, vs, rfl, h1, _⟩ := h
    refine ⟨_, rfl, ?_⟩
    rcases h1 with (h1 | ⟨o, h1⟩) | ⟨o, its, n, h1, h2, _⟩
    · exact .base (.lst h1)
    · exact .base (.frz h1)
    · exact .kList h1 h2
  | tup xs =>
    obtain ⟨a, vs, rfl, h1, _⟩ := h
    refine ⟨_, rfl, ?_⟩
    rcases h1 with (h1 | ⟨o, h1⟩) | ⟨o, its, n, h1, h2, _⟩
    · exact .base (.tup h1)
    · exact .fTuple h1
    · exact .kTuple h1 h2
  | _ => exact h.elim
/-- p asks for the class T -/
def KindOf (p : Prim) (T : String) : Prop := ∀ d n, tyName d = some n → ∀ K : PySem.W.Frag, PySem.W.kitOne K (.type n) (.type T) = some (kindIs p d)
theorem kind_all {p : Prim} {T : String} {n l i b s t : Bool} (h1 : kitB "NoneType" T = some n) (h2 : kitB "bool" T = some b) (h3 : kitB "int" T = some i) (h4 : kitB "str" T = some s) (h5 : kitB "list" T = some l) (h6 : kitB "tuple" T = some t)
    (hk : kindIs p .non = n ∧ (∀ x, kindIs p (.bl x) = b) ∧ (∀ x, kindIs p (.int x) = i) ∧ (∀ x, kindIs p (.str x) = s) ∧ (∀ x, kindIs p (.lst x) = l) ∧ ∀ x, kindIs p (.tup x) = t) : KindOf p T := by
  obtain ⟨k1, k2, k3, k4, k5, k6⟩ := hk
  intro d m hd K
  cases d with
  | non => cases hd; rw [k1]; exact kit_ty h1
  | bl _ => cases hd; rw [k2]; exact kit_ty h2
  | int _ => cases hd; rw [k3]; exact kit_ty h3
  | str _ => cases hd; rw [k4]; exact kit_ty h4
  | lst _ => cases hd; rw [k5]; exact kit_ty h5
  | tup _ => cases hd; rw [k6]; exact kit_ty h6
  | _ => cases hd
theorem kindI : KindOf .isI "int" := kind_all (n := false) (b := true) (i := true) (s := false) (l := false) (t := false) (by decide +kernel) (by decide +kernel) (by decide +kernel) (by decide +kernel) (by decide +kernel) (by decide +kernel) ⟨rfl, fun _ => rfl, fun _ => rfl, fun _ => rfl, fun _ => rfl, fun _ => rfl⟩
theorem kindB : KindOf .isB "bool" := kind_all (n := false) (b := true) (i := false) (s := false) (l := false) (t := false) (by decide +kernel) (by decide +kernel) (by decide +kernel) (by decide +kernel) (by decide +kernel) (by decide +kernel) ⟨rfl, fun _ => rfl, fun _ => rfl, fun _ => rfl, fun _ => rfl, fun _ => rfl⟩
theorem kindT : KindOf .isT "tuple" := kind_all (n := false) (b := false) (i := false) (s := false) (l := false) (t := true) (by decide +kernel) (by decide +kernel) (by decide +kernel) (by decide +kernel) (by decide +kernel) (by decide +kernel) ⟨rfl, fun _ => rfl, fun _ => rfl, fun _ => rfl, fun _ => rfl, fun _ => rfl⟩
theorem kindL : KindOf .isL "list" := kind_all (n := false) (b := false) (i := false) (s := false) (l := true) (t := false) (by decide +kernel) (by decide +kernel) (by decide +kernel) (by decide +kernel) (by decide +kernel) (by decide +kernel) ⟨rfl, fun _ => rfl, fun _ => rfl, fun _ => rfl, fun _ => rfl, fun _ => rfl⟩
theorem kindS : KindOf .isS "str" := kind_all (n := false) (b := false) (i := false) (s := true) (l := false) (t := false) (by decide +kernel) (by decide +kernel) (by decide +kernel) (by decide +kernel) (by decide +kernel) (by decide +kernel) ⟨rfl, fun _ => rfl, fun _ => rfl, fun _ => rfl, fun _ => rfl, fun _ => rfl⟩
theorem View.plain {K : PySem.W.Frag} {ρ : Rho} {H : Hp} {d : D} {x : V} (h : View K ρ H d x) : plainK d = true := by cases d <;> first | rfl | exact h.elim
theorem me_isi {p : Prim} {T : String} {y : Str} {e : Expr} {t : C} {px py pos : Pos} (hp : KindOf p T) (hpr : ∀ sub a m, pr sub p [a] m = (der m a).bind fun d => if plainK d then some (.bl (kindIs p d), m) else none) (hg : Gl X "isinstance") (hm : X.mg "isinstance" = none) (hgy : Gl X y) (hmy : X.mg y = none) (hv : bootBuiltins y = some (.type T)) (hn : y ≠ "__name__") (hdb : (y == ("__debug__" : Str)) = false)
    (ha : Me X cl W c e t) (he : starEach [e, .Name y py] X.env = (false, eval e X.env) :: starEach [.Name y py] X.env) (he2 : starEach [.Name y py] X.env = (false, eval (.Name y py) X.env) :: starEach [] X.env) (hpl : (backTo pos (starEach [.Name y py] X.env)).any (·.1) = false) :
    Me X cl W c (.Call (.Name "isinstance" px) [e, .Name y py] [] pos) (.prim p [t]) := by
  refine PE.imp (pe_callB call_isi hg hm (by decide +kernel) (pa_cons ha (pa_cons (pe_bltn (v := .ty T) hgy hmy hv rfl hn hdb) pa_nil he2) he) (by decide) (by decide) he hpl) fun σ H Q h => ?_
  obtain ⟨ρ, en, μ, h1, h2, h3⟩ := h
  dsimp only at h3
  rw [ev, evs_one] at h3
  refine tE.go ⟨h1, h2⟩ h3 fun x H1 ρ1 dx μ1 t1 a1 r1 h4 => ?_
  rw [hpr] at h4
  cases qd : der μ1 dx with
  | none => rw [qd] at h4; exact h4.elim
  | some y =>
    rw [qd] at h4
    have w := r1.view a1.mem qd
    simp only [Option.bind_some, w.plain, if_true] at h4
    obtain ⟨n, e1, e2⟩ := w.ty
    exact ⟨x, .ty T, .type n, .type T, kindIs p y, rfl, .ty T, e2, hp y n e1 _, RG.val h4 a1.mem (RepP.bl _)⟩
theorem mt_isi {p : Prim} {T : String} {y : Str} {e : Expr} {t : C} {px py pos : Pos} (h : Me X cl W c (.Call (.Name "isinstance" px) [e, .Name y py] [] pos) (.prim p [t])) : Mt X cl W c (.Call (.Name "isinstance" px) [e, .Name y py] [] pos) (.prim p [t]) := mt_val h (by intro _; rfl)

/-! ### x[i] -/
theorem atI_at {α : Type} (xs : List α) (i : Int) : atI xs i = at? xs i := by
  unfold atI at? ixN
  by_cases h0 : 0 ≤ i
  · rw [if_pos h0, if_pos h0]
    by_cases h1 : i < xs.length
    · rw [if_pos h1]; rfl
    · rw [if_neg h1, List.getElem?_eq_none (by omega)]; rfl
  · rw [if_neg h0, if_neg h0]
    by_cases h1 : 0 ≤ i + xs.length
    · rw [if_pos h1, if_pos (show -(xs.length : Int) ≤ i by omega)]; rfl
    · rw [if_neg h1, if_neg (show ¬ -(xs.length : Int) ≤ i by omega)]; rfl
def rIx (K : PySem.W.Frag) : R2 := fun x y H Q => rIxL K x y H Q ∨ rIxT K x y H Q ∨ rIxS x y H Q
theorem ixAll : IxR X (rIx X.K) := (IxR.or ix_list (IxR.or ix_tup ix_str))
theorem at_rep {K : PySem.W.Frag} {ρ : Rho} {H : Hp} {ds : List D} {vs : List V} {i : Int} {d : D} (h : RepPs K ρ H ds vs) (e : at? ds i = some d) : ∃ v, at? vs i = some v ∧ RepP K ρ H d v := by
  unfold at? at e ⊢
  rw [h.length] at e
  by_cases h0 : 0 ≤ i
  · rw [if_pos h0] at e ⊢; exact h.get e
  · rw [if_neg h0] at e ⊢
    by_cases h1 : 0 ≤ i + vs.length
    · rw [if_pos h1] at e ⊢; exact h.get e
    · rw [if_neg h1] at e; cases e
theorem strOk_sub {s t : Str} (h : StrOk s) (hl : t.length ≤ s.length) (hm : ∀ x ∈ t.cps.toList, x ∈ s.cps.toList) : StrOk t := by
  refine ⟨Nat.le_trans hl h.len, ?_⟩
  have z := h.cps
  unfold PySem.PyData.strOk at z ⊢
  rw [← Array.all_toList] at z ⊢
  exact List.all_eq_true.mpr fun x hx => List.all_eq_true.mp z x (hm x hx)
/-- of a dict -/
def rIxD (X : Cx) : R2 := fun x y H Q => ∃ ρ a es kvs k d, x = .ref a ∧ Rd H a (DPhi a es) ∧ Ents X.K ρ H a kvs es ∧ View X.K ρ H k y ∧ keyOk k = true ∧ dGet kvs k = some d ∧ ∀ v, RepP X.K ρ H d v → Q v H
theorem ix_dict (hu : X.A.units + 200 < cLine) (hw : X.w = Tabs.wd) : IxR X (rIxD X) := by
  intro value slice pins s σ H x y v u Q I rx ry h hs
  obtain ⟨ρ, a, es, kvs, k, d, rfl, rd, ents, vw, ko, hd, q⟩ := h
  cases rx
  obtain ⟨kb, rfl, rfl, ki⟩ := vw.keyIs I ry ko
  obtain ⟨xs, x1, x2, x3⟩ := ents.dict I hw (dphi_raw I rd)
  rcases XR.get ko x2 with ⟨z1, z2⟩ | ⟨d', b', u', v', z1, z2, z3, z4⟩
  · rw [z1] at hd; cases hd
  · rw [z1] at hd; cases hd
    exact subscriptTail_builtinR (x := u') x3.typeIs PySem.F.slot_dict_getitem.lookup
      (wpAny_getItem_heap (Q := fun r s' => r = u' ∧ EP X pins σ Q r s') (show X.A.in1.units + 8 < cLine by show X.A.units + 1 + 8 < cLine; omega) ki x3 z2 ⟨rfl, v', H, I.tok _, z4, q v' z3⟩) hs
theorem me_idx (hu : X.A.units + 200 < cLine) (hw : X.w = Tabs.wd) {a b : Expr} {ta tb : C} {pos : Pos} (ha : Me X cl W c a ta) (hb : Me X cl W c b tb) (hs : PlainIx b) : Me X cl W c (.Subscript a b pos) (.idx ta tb) := by
  refine PE.imp (pe_ix (IxR.or (ix_dict hu hw) ixAll) ha hb hs) fun σ H Q h => ?_
  obtain ⟨ρ, en, μ, h1, h2, h3⟩ := h
  dsimp only at h3
  rw [ev] at h3
  refine tE.go ⟨h1, h2⟩ h3 fun x H1 ρ1 dx μ1 t1 a1 r1 h4 => ?_
  refine tE.go a1 h4 fun y H2 ρ2 dy μ2 t2 a2 r2 h5 => ?_
  have r1 := r1.tr t2
  simp only [idxD] at h5
  cases hk : dctOf μ2 dx with
  | some kvs =>
    rw [hk] at h5
    simp only at h5
    cases qd : der μ2 dy with
    | none => rw [qd] at h5; exact h5.elim
    | some k =>
      rw [qd] at h5
      simp only at h5
      by_cases ko : keyOk k = true
      · rw [if_pos ko] at h5
        cases qg : dGet kvs k with
        | none => rw [qg] at h5; exact h5.elim
        | some d =>
          rw [qg] at h5
          obtain ⟨a, es, rfl, rd, ents⟩ := dct_at r1 a2.mem hk
          exact .inl ⟨ρ2, a, es, kvs, k, d, rfl, rd, ents, r2.view a2.mem qd, ko, qg, fun v rv => RG.val h5 a2.mem rv.rep⟩
      · rw [if_neg ko] at h5; exact h5.elim
  | none =>
  rw [hk] at h5
  simp only [idxS] at h5
  refine .inr ?_
  cases qd : der μ2 dx with
  | none => rw [qd] at h5; exact h5.elim
  | some z =>
    rw [qd] at h5
    have w := r1.view a2.mem qd
    cases dy with
    | int k =>
      have ey := r2.isI
      subst ey
      cases z with
      | lst xs =>
        obtain ⟨p, vs, rfl, k1, k2⟩ := w
        dsimp only at h5
        cases qa : at? xs k with
        | none => rw [qa] at h5; exact h5.elim
        | some d =>
          rw [qa] at h5
          obtain ⟨v, e1, e2⟩ := at_rep k2 qa
          exact .inl ⟨p, vs, k, v, rfl, rfl, k1, by rw [atI_at]; exact e1, RG.val h5 a2.mem e2.rep⟩
      | tup xs =>
        obtain ⟨p, vs, rfl, k1, k2⟩ := w
        dsimp only at h5
        cases qa : at? xs k with
        | none => rw [qa] at h5; exact h5.elim
        | some d =>
          rw [qa] at h5
          obtain ⟨v, e1, e2⟩ := at_rep k2 qa
          exact .inr (.inl ⟨p, vs, k, v, rfl, rfl, k1, by rw [atI_at]; exact e1, RG.val h5 a2.mem e2.rep⟩)
      | str s =>
        obtain ⟨rfl, ok⟩ := w
        dsimp only at h5
        cases qa : at? s.cps.toList k with
        | none => rw [qa] at h5; exact h5.elim
        | some d =>
          rw [qa] at h5
          have hmem : d ∈ s.cps.toList := by
            unfold at? at qa
            split at qa
            · exact List.mem_of_getElem? qa
            · split at qa
              · exact List.mem_of_getElem? qa
              · cases qa
          refine .inr (.inr ⟨s, k, d, rfl, rfl, ok.len, by rw [atI_at]; exact qa, RG.val h5 a2.mem (RepP.str _ (strOk_sub ok ?_ fun x hx => ?_))⟩)
          · show 1 ≤ s.cps.size
            have := List.length_pos_of_mem hmem
            rw [Array.length_toList] at this
            exact this
          · have ex : x = d := by simpa using hx
            rw [ex]
            exact hmem
      | _ => exact h5.elim
    | _ => cases z <;> exact h5.elim

/-! ### slices -/
theorem clamp_sIx {n d : Nat} (i : Int) : HT.sIx n d (some i) = clampI n i := by
  show (if i < 0 then (i + (n : Int)).toNat else min i.toNat n) = clampI n i
  unfold clampI
  by_cases h : i < 0
  · rw [if_pos h, if_pos h]
    by_cases h2 : i + n < 0
    · rw [if_pos h2]; omega
    · rw [if_neg h2]
  · rw [if_neg h, if_neg h]
    by_cases h2 : (n : Int) < i
    · rw [if_pos h2]; omega
    · rw [if_neg h2]; omega
theorem cut_slice {α : Type} (xs : List α) (lo hi : Option Int) : (xs.drop (HT.sIx xs.length 0 lo)).take (HT.sIx xs.length xs.length hi - HT.sIx xs.length 0 lo) = sliceL xs lo hi := by
  unfold sliceL
  cases lo with
  | none =>
    cases hi with
    | none => rfl
    | some j => simp only [clamp_sIx]; rfl
  | some i =>
    cases hi with
    | none => simp only [clamp_sIx]; rfl
    | some j => simp only [clamp_sIx]
theorem sliceL_le {α : Type} (xs : List α) (lo hi : Option Int) : (sliceL xs lo hi).length ≤ xs.length := by
  unfold sliceL
  simp only [List.length_take, List.length_drop]
  omega
theorem RepPs.slice {K : PySem.W.Frag} {ρ : Rho} {H : Hp} {ds : List D} {vs : List V} (h : RepPs K ρ H ds vs) (lo hi : Option Int) : RepPs K ρ H (sliceL ds lo hi) (sliceL vs lo hi) := by
  unfold sliceL
  rw [h.length]
  exact (h.drop _).take _
abbrev Mo' (X : Cx) (cl : Nat → Addr) (W : WX) (c : Cfg) (e : Option Expr) (t : Option C) : Prop := PO X e fun σ H Q => ∃ ρ en μ, EnvOk X.K ρ H en σ ∧ MemOk X.K ρ H μ ∧ RG (fun _ _ a b => a = b) X.K cl (fun c d => W c d σ) ρ H Q (evO c en t μ)
theorem PO.imp {e : Option Expr} {t t' : TO} (h : PO X e t) (k : ∀ σ H Q, t' σ H Q → t σ H Q) : PO X e t' := ⟨fun pins s σ H Q I q => h.run pins s σ H Q I (k σ H Q q)⟩
theorem mo_none : Mo' X cl W c none none := by
  refine PO.imp po_none fun σ H Q h => ?_
  obtain ⟨ρ, en, μ, h1, h2, h3⟩ := h
  rw [evO] at h3
  exact RG.val h3 h2 rfl
theorem mo_some {e : Expr} {t : C} (h : Me X cl W c e t) : Mo' X cl W c (some e) (some t) := by
  refine PO.imp (po_some h) fun σ H Q h => ?_
  obtain ⟨ρ, en, μ, h1, h2, h3⟩ := h
  rw [evO] at h3
  refine tE.go ⟨h1, h2⟩ h3 fun x H1 ρ1 dx μ1 t1 a1 r1 h4 => ?_
  cases dx with
  | int i =>
    dsimp only at h4
    by_cases hs : small64 i = true
    · rw [if_pos hs] at h4
      exact ⟨i, r1.isI, RG.val h4 a1.mem rfl⟩
    · rw [if_neg hs] at h4; exact h4.elim
  | _ => exact h4.elim
theorem tO.go {α β : Type} {Rl : Rho → Hp → α → β → Prop} {t : Option C} {f : Option Int → Mem → R α} {σ : L2.St} {ρ : Rho} {H : Hp} {e : Env} {μ : Mem} {Q : β → Hp → Prop} (a : At X σ ρ H e μ)
    (h : RG Rl X.K cl (fun c d => W c d σ) ρ H Q ((evO c e t μ).bind f)) {k : Option Int → Hp → Prop}
    (hk : ∀ b H1 ρ1 μ1, Tr ρ ρ1 H H1 → At X σ ρ1 H1 e μ1 → RG Rl X.K cl (fun c d => W c d σ) ρ1 H1 Q (f b μ1) → k b H1) : ∃ ρ en μ, EnvOk X.K ρ H en σ ∧ MemOk X.K ρ H μ ∧ RG (fun _ _ a b => a = b) X.K cl (fun c d => W c d σ) ρ H k (evO c en t μ) := by
  refine ⟨ρ, e, μ, a.env, a.mem, (RG.seq (Rm := fun _ _ a b => a = b) h).mono fun v H1 ⟨ρ1, d, m1, t, r, x, q⟩ => ?_⟩
  have r' : d = v := r
  subst r'
  exact hk d H1 ρ1 m1 t ⟨a.env.tr t, x⟩ q
def rSl (K : PySem.W.Frag) : V → Option Int → Option Int → Hp → VK → Prop := fun x lo hi H Q => rSlL K x lo hi H Q ∨ rSlA K x lo hi H Q ∨ rSlS x lo hi H Q
theorem slAll : SlR X (rSl X.K) := SlR.or sl_list (SlR.or sl_tupA sl_str)
theorem sliceL_whole {α : Type} (xs : List α) (lo hi : Option Int) (h : HT.sIx xs.length 0 lo = 0 ∧ HT.sIx xs.length xs.length hi = xs.length) : sliceL xs lo hi = xs := by
  rw [← cut_slice, h.1, h.2]
  simp
theorem me_sl {e : Expr} {lo hi : Option Expr} {t : C} {tl th : Option C} {p2 pos : Pos} (he : Me X cl W c e t) (hl : Mo' X cl W c lo tl) (hh : Mo' X cl W c hi th) : Me X cl W c (.Subscript e (.Slice lo hi none p2) pos) (.sl t tl th) := by
  refine PE.imp (pe_slice slAll he hl hh) fun σ H Q h => ?_
  obtain ⟨ρ, en, μ, h1, h2, h3⟩ := h
  dsimp only at h3
  rw [ev] at h3
  refine tE.go ⟨h1, h2⟩ h3 fun x H1 ρ1 dx μ1 t1 a1 r1 h4 => ?_
  refine tO.go a1 h4 fun i H2 ρ2 μ2 t2 a2 h5 => ?_
  refine tO.go a2 h5 fun j H3 ρ3 μ3 t3 a3 h6 => ?_
  have r1 := (r1.tr t2).tr t3
  cases qd : der μ3 dx with
  | none => rw [qd] at h6; exact h6.elim
  | some z =>
    rw [qd] at h6
    have w := r1.view a3.mem qd
    cases z with
    | lst xs =>
      obtain ⟨p, vs, rfl, k1, k2⟩ := w
      refine .inl ⟨p, vs, rfl, k1, ?_⟩
      unfold cutV
      rw [cut_slice]
      exact fin_lst a3.mem (k2.slice i j) fun v H' t r m => h6 v ρ3 H' t r m
    | tup xs =>
      have ed := der_tup a3.mem r1 qd
      subst ed
      obtain ⟨p, vs, rfl, k1, k2⟩ := w
      refine .inr (.inl ⟨p, vs, rfl, k1, fun hw => ?_, fun hw => ?_⟩)
      · cases r1 with
        | tup g1 g2 =>
          have ew : sliceL xs i j = xs := sliceL_whole xs i j (by rw [k2.length]; exact hw)
          dsimp only at h6
          rw [ew] at h6
          exact RG.val h6 a3.mem (RepP.tup g1 g2)
      · unfold cutV
        rw [cut_slice]
        exact fin_tup a3.mem (k2.slice i j) fun v H' t r m => h6 v ρ3 H' t r m
    | str s =>
      obtain ⟨rfl, ok⟩ := w
      refine .inr (.inr ⟨s, rfl, ok.len, ?_⟩)
      unfold cutS
      have el : s.length = s.cps.toList.length := by rw [Array.length_toList]; rfl
      rw [el, cut_slice]
      refine RG.val h6 a3.mem (RepP.str _ (strOk_sub ok ?_ fun x hx => ?_))
      · show (sliceL s.cps.toList i j).toArray.size ≤ s.cps.size
        rw [List.size_toArray, ← Array.length_toList]
        exact sliceL_le _ _ _
      · have hx' : x ∈ sliceL s.cps.toList i j := by simpa using hx
        unfold sliceL at hx'
        exact List.mem_of_mem_drop (List.mem_of_mem_take hx')
    | _ => exact h6.elim
end
end Py
end

section
set_option Elab.async false
set_option linter.all false
set_option maxRecDepth 100000
set_option maxHeartbeats 1000000
/-! PySlr: x[:i:-1], x[::-1]. -/
namespace Py
open PySem L2 PyProof.Rows
open PySem (Str)
variable [Tabs]
theorem fmap_congr {α β : Type} {f g : α → Option β} : ∀ {l : List α}, (∀ x ∈ l, f x = g x) → l.filterMap f = l.filterMap g
  | [], _ => rfl
  | x :: l, h => by
    rw [List.filterMap_cons, List.filterMap_cons, h x (List.mem_cons_self ..), fmap_congr fun y hy => h y (List.mem_cons_of_mem _ hy)]
def stopR (n : Nat) : Option Int → Int
  | none => -1
  | some i => if i < 0 then max (i + n) (-1) else min i ((n : Int) - 1)
theorem stopR_le (n : Nat) (o : Option Int) : -1 ≤ stopR n o ∧ stopR n o ≤ max (-1) ((n : Int) - 1) := by
  cases o with
  | none => simp only [stopR]; omega
  | some i => simp only [stopR]; split <;> omega
theorem sliceR_eq {α : Type} (xs : List α) (o : Option Int) : sliceR xs o = xs.reverse.take ((xs.length : Int) - 1 - stopR xs.length o).toNat := by
  cases o with
  | none =>
    simp only [sliceR, stopR]
    rw [List.take_of_length_le]
    rw [List.length_reverse]
    omega
  | some i => rfl
/-- counted down from the end -/
theorem down_pick {α : Type} (xs : List α) (k : Nat) (hk : k ≤ xs.length) : (List.range k).filterMap (fun m => xs[xs.length - 1 - m]?) = xs.reverse.take k := by
  induction k with
  | zero => simp
  | succ k ih =>
    rw [List.range_succ, List.filterMap_append, ih (by omega), List.take_add_one]
    congr 1
    rw [List.getElem?_reverse (by omega)]
    simp only [List.filterMap_cons, List.filterMap_nil]
    cases xs[xs.length - 1 - k]? <;> rfl
theorem pickR (its : List Value) (o : Option Int) : slicePick its.toArray none o (some (-1)) = (sliceR its o).toArray := by
  rw [sliceR_eq]
  have hb := stopR_le its.length o
  have e1 : sliceBounds none o (some (-1)) its.toArray.size = ((its.length : Int) - 1, stopR its.length o, -1) := by
    cases o with
    | none => simp [sliceBounds, stopR]
    | some i =>
      simp only [sliceBounds, stopR, Option.getD_some, List.size_toArray]
      have : ¬ ((-1 : Int) > 0) := by omega
      simp only [this, if_false]
      refine Prod.ext rfl (Prod.ext ?_ rfl)
      simp only
      by_cases h : i < 0
      · simp only [h, if_true]; omega
      · simp only [h, if_false]; omega
  unfold slicePick
  rw [e1]
  simp only
  congr 1
  unfold sliceRange
  have h1 : ¬ ((-1 : Int) > 0) := by decide
  simp only [h1, if_false]
  have ec : (if (its.length : Int) - 1 > stopR its.length o then ((its.length : Int) - 1 - stopR its.length o - -1 - 1) / (- -1) else 0).toNat = ((its.length : Int) - 1 - stopR its.length o).toNat := by
    split
    · rw [show (- -1 : Int) = 1 by decide, Int.ediv_one]; omega
    · omega
  rw [ec]
  rw [← down_pick its _ (by omega), List.filterMap_map]
  apply fmap_congr
  intro m hm
  have hm := List.mem_range.mp hm
  simp only [Function.comp]
  have : ((its.length : Int) - 1 + -1 * (m : Int)).toNat = its.length - 1 - m := by omega
  rw [this]
  simp
section
variable {prog : Program} {w : World} {A : Around} {E : Value → Shared → Prop} {s : Shared}
theorem adjustR (n : Nat) (o : Option Int) : Builtin.Slice.sliceAdjust none o (-1) (n : Int) = ((n : Int) - 1, stopR n o) := by
  unfold Builtin.Slice.sliceAdjust
  have h : (-1 : Int) < 0 := by decide
  simp only [h, if_true]
  cases o with
  | none => rfl
  | some i => rfl
theorem placesR (n : Nat) (o : Option Int) : Builtin.Slice.slicePlaces ((n : Int) - 1) (stopR n o) (-1) = ((n : Int) - 1 - stopR n o).toNat := by
  have hb := stopR_le n o
  unfold Builtin.Slice.slicePlaces
  have h1 : ¬ ((-1 : Int) > 0) := by decide
  simp only [h1, if_false]
  split
  · rw [show (- -1 : Int) = 1 by decide, Int.ediv_one]; omega
  · omega
theorem sliceAppliedR {sl : Addr} {vl vu vs : Value} {hi : Option Int} {n : Nat} {Q : Int × Int × Nat → Shared → Prop} (hs : s.heap.IsSliceOf sl vl vu vs) (pl : IsPart vl none) (pu : IsPart vu hi) (ps : IsPart vs (some (-1)))
    (h : Q ((n : Int) - 1, -1, ((n : Int) - 1 - stopR n hi).toNat) s) : wpAny (model prog w) A (Builtin.Slice.sliceApplied (.ref sl) (pure (n : Int))) Q E s := by
  obtain ⟨os, hos, hcs, hds⟩ := id hs
  unfold Builtin.Slice.sliceApplied Builtin.Slice.sliceFields
  refine wpAny_bind (wpAny_bind (wpAny_field hos hds (x := vl) rfl (wpAny_bind (wpAny_field hos hds (x := vu) rfl (wpAny_bind (wpAny_field hos hds (x := vs) rfl (wpAny_pure ?_)))))))
  refine wpAny_bind (HT.slicePart_ ps ?_)
  show wpAny _ _ (if ((-1 : Int) == 0) = true then _ else _) _ _ s
  rw [if_neg (by decide)]
  refine wpAny_bind (HT.slicePart_ pl (wpAny_bind (HT.slicePart_ pu (wpAny_bind (wpAny_pure ?_)))))
  show wpAny _ _ (match Builtin.Slice.sliceAdjust none hi (-1) (n : Int) with | (lo, hi) => pure (lo, (-1 : Int), Builtin.Slice.slicePlaces lo hi (-1))) _ _ s
  rw [adjustR n hi]
  show wpAny _ _ (pure ((n : Int) - 1, (-1 : Int), Builtin.Slice.slicePlaces ((n : Int) - 1) (stopR n hi) (-1))) _ _ s
  rw [placesR]
  exact wpAny_pure h
theorem getItem_tupleR {t sl : Addr} {its : List Value} {vl vu vs : Value} {hi : Option Int} {Q : Value → Shared → Prop} (ht : IsTup s.heap t its.toArray) (hs : s.heap.IsSliceOf sl vl vu vs) (pl : IsPart vl none) (pu : IsPart vu hi) (ps : IsPart vs (some (-1)))
    (h : Q (.ref s.heap.objs.size) { s with heap := s.heap.push { cls := .type "tuple", data := .seq (sliceR its hi).toArray } }) (hsz : its.length ≤ sizeLine) : wpAny (model prog w) A (getItem (.ref t) (.ref sl)) Q E s := by
  have hlen : (sliceR its hi).length ≤ sizeLine := by
    rw [sliceR_eq, List.length_take, List.length_reverse]
    omega
  have htake : sizeOk (.seq (sliceR its hi).toArray) := by
    show (sliceR its hi).toArray.size ≤ sizeLine
    rw [List.size_toArray]; exact hlen
  obtain ⟨os, hos, hcs, hds⟩ := id hs
  have hTs : s.TypeIs (.ref sl) "slice" := ⟨os, hos, hcs⟩
  unfold getItem
  try with_reducible refine wpAny_holding ?_
  first | refine wpAny_bind (wpAny_pure ?_) | skip
  refine wpAny_bind (wpAny_sequenceKey ht.typeIs (by decide) ?_)
  refine wpAny_bind (wpAny_callSpecial?_slot (name := Str.ofString "__getitem__") ht.typeIs PyProof.Rows.slot_tuple_getitem
    (wpAny_call_entry PyProof.Rows.slot_tuple_getitem ht.typeIs entry_tuple_getitem ?_ (args_tuple_getitem _ _)))
  show wpAny _ _ (Builtin.Tuple.tupleItemsOf (.ref t) >>= _) _ _ s
  refine wpAny_bind (tupleItemsOf_ ht ?_)
  refine wpAny_bind (wpAny_typeOf hTs ?_)
  rw [if_pos (by decide)]
  have en : (its.toArray.size : Nat) = its.length := List.size_toArray
  rw [en]
  refine wpAny_bind (sliceAppliedR hs pl pu ps ?_)
  have hno : ¬ ((((its.length : Int) - 1) == 0 && (-1 : Int) == 1 && ((its.length : Int) - 1 - stopR its.length hi).toNat == its.length) = true) := by
    rw [show ((-1 : Int) == 1) = false from by decide, Bool.and_false, Bool.false_and]
    exact Bool.false_ne_true
  show wpAny _ _ (if (((its.length : Int) - 1) == 0 && (-1 : Int) == 1 && ((its.length : Int) - 1 - stopR its.length hi).toNat == its.length) = true then _ else _) _ _ s
  rw [if_neg hno]
  have ep : ((List.range ((its.length : Int) - 1 - stopR its.length hi).toNat).filterMap fun (m : Nat) => its.toArray[((its.length : Int) - 1 + (m : Int) * (-1)).toNat]?).toArray = (sliceR its hi).toArray := by
    have hb := stopR_le its.length hi
    rw [sliceR_eq, ← down_pick its _ (by omega)]
    congr 1
    apply fmap_congr
    intro m hm
    have hm := List.mem_range.mp hm
    have : ((its.length : Int) - 1 + (m : Int) * (-1)).toNat = its.length - 1 - m := by omega
    rw [this]
    simp
  rw [ep]
  first
    | exact wpAny_bind (m := Builtin.Tuple.tupleExact _) (wpAny_newObj_type (wpAny_pure ⟨_, rfl, wpAny_pure h⟩) htake)
    | exact wpAny_bind (m := Builtin.Tuple.tupleExact _) (wpAny_newObj_type (wpAny_bind (wpAny_pure (wpAny_pure ⟨_, rfl, wpAny_pure h⟩))) htake)
    | exact wpAny_bind (wpAny_bind (m := Builtin.Tuple.tupleExact _) (wpAny_newObj_type (wpAny_pure (wpAny_pure ⟨_, rfl, wpAny_pure h⟩)) htake))
    | exact wpAny_bind (wpAny_bind (m := Builtin.Tuple.tupleExact _) (wpAny_newObj_type (wpAny_pure ⟨_, rfl, wpAny_pure h⟩) htake))
end
theorem vals_revs {xs : List V} {us : List Value} (h : Vals xs us) (o : Option Int) : Vals (sliceR xs o) (sliceR us o) := by
  rw [sliceR_eq, sliceR_eq, h.length]
  exact (h.reverse).take _
theorem RepPs.revs {K : PySem.W.Frag} {ρ : Rho} {H : Hp} {ds : List D} {vs : List V} (h : RepPs K ρ H ds vs) (o : Option Int) : RepPs K ρ H (sliceR ds o) (sliceR vs o) := by
  rw [sliceR_eq, sliceR_eq, h.length]
  exact h.rev.take _
theorem sliceR_le {α : Type} (xs : List α) (o : Option Int) : (sliceR xs o).length ≤ xs.length := by
  rw [sliceR_eq, List.length_take, List.length_reverse]; omega
section
variable {X : Cx} {cl : Nat → Addr} {W : WX} {c : Cfg}
def tSlR (K : PySem.W.Frag) (te : TE) (th : TO) : TE := fun σ H Q => te σ H fun x H1 => th σ H1 fun o H2 => ∃ a xs, x = .ref a ∧ ((SqL K H2 a xs ∧ ∀ p, H2 p = none → Q (.ref p) (upd H2 p (.lst (sliceR xs o)))) ∨ (SqT K H2 a xs ∧ ∀ p, H2 p = none → Q (.ref p) (upd H2 p (.tup (sliceR xs o)))))
theorem pe_slR {e : Expr} {hi : Option Expr} {te : TE} {th : TO} {k : Nat} {p1 p2 p3 pos : Pos} (he : PE X e te) (hh : PO X hi th) : PE X (.Subscript e (.Slice none hi (some (.UnaryOp .USub (.Constant (.int 1) k p1) p2)) p3) pos) (tSlR X.K te th) := by
  refine ⟨fun pins s σ H Q I h => ?_⟩
  refine Subscript_ (thn (he.run pins s σ H _ I h) fun v s1 ⟨x, H1, I1, r1, q1⟩ => ?_)
  have hst : PO X (some (.UnaryOp .USub (.Constant (.int 1) k p1) p2)) (tPart (tUn (rU fun i => .int (-i)) (tC (.int 1)))) := po_some (pe_un un_neg pe_int)
  refine wpAny_Slice (thn (po_none.run pins s1 σ H1 (fun o H2 => o = none ∧ H2 = H1) I1 ⟨rfl, rfl⟩) fun vl s2 ⟨l, H2, I2, pl, el, e2⟩ => ?_)
  subst el e2
  refine thn (hh.run pins s2 σ H2 _ I2 q1) fun vu s3 ⟨u, H3, I3, pu, q3⟩ => ?_
  refine thn (hst.run pins s3 σ H3 (fun o H4 => o = some (-1) ∧ H4 = H3) I3 ⟨1, rfl, -1, rfl, rfl, rfl⟩) fun vs s4 ⟨o, H4, I4, ps, eo, e4⟩ => ?_
  subst eo e4
  obtain ⟨a, xs, ex, q⟩ := q3
  subst ex
  cases r1
  have I5 : Inv X pins σ H4 { s4 with heap := s4.heap.push { cls := .type "slice", data := .fields #[vl, vu, vs] } } := I4.kept (t' := s4.toks) fun b ob q => Heap.get?_push_of_some _ q
  show wpAny (model X.prog X.w) X.A (subscriptTail e (.Slice none hi (some (.UnaryOp .USub (.Constant (.int 1) k p1) p2)) p3) (.ref a) (.ref s4.heap.objs.size)) (EP X pins σ Q) X.xe { s4 with heap := s4.heap.push { cls := .type "slice", data := .fields #[vl, vu, vs] } }
  rcases q with ⟨hx, q⟩ | ⟨hx, q⟩
  · obtain ⟨its, r, ht, hz⟩ := I5.list hx
    have hlen := r.length
    refine tail_any (ops := [.ref a, .ref s4.heap.objs.size]) ht.isList.typeIs (PySem.slot_list_getitem.lookup) ?_ (by with_unfolding_all rfl)
    refine wpAny_getItem_list_slice ht.isList (Heap.IsSliceOf.new _ vl vu vs) pl pu ps (by decide) ?_ (by rw [List.size_toArray]; omega)
    rw [pickR]
    refine ⟨.ref _, _, I5.laid (t' := s4.toks) (o := .lst (sliceR xs u)) (fun b ob q => Heap.get?_push_of_some _ q) (Nat.le_refl _) ?_, rfl, q _ (I5.hok.fresh (Nat.le_refl _))⟩
    exact ⟨Nat.le_trans (sliceR_le xs u) hz, _, 0, vals_revs r u, Heap.get?_push_size _ rfl⟩
  · obtain ⟨its, r, ht, hz⟩ := I5.tuple hx
    have hlen := r.length
    refine tail_any (ops := [.ref a, .ref s4.heap.objs.size]) ht.typeIs (PyProof.Rows.slot_tuple_getitem.lookup) ?_ (by with_unfolding_all rfl)
    refine getItem_tupleR ht (Heap.IsSliceOf.new _ vl vu vs) pl pu ps ?_ (by omega)
    refine ⟨.ref _, _, I5.laid (t' := s4.toks) (o := .tup (sliceR xs u)) (fun b ob q => Heap.get?_push_of_some _ q) (Nat.le_refl _) ?_, rfl, q _ (I5.hok.fresh (Nat.le_refl _))⟩
    exact ⟨Nat.le_trans (sliceR_le xs u) hz, _, vals_revs r u, IsTup.new _ _⟩
theorem me_slr {e : Expr} {hi : Option Expr} {t : C} {th : Option C} {k : Nat} {p1 p2 p3 pos : Pos} (he : Me X cl W c e t) (hh : Mo' X cl W c hi th) : Me X cl W c (.Subscript e (.Slice none hi (some (.UnaryOp .USub (.Constant (.int 1) k p1) p2)) p3) pos) (.slr t th) := by
  refine PE.imp (pe_slR he hh) fun σ H Q h => ?_
  obtain ⟨ρ, en, μ, h1, h2, h3⟩ := h
  dsimp only at h3
  rw [ev] at h3
  refine tE.go ⟨h1, h2⟩ h3 fun x H1 ρ1 dx μ1 t1 a1 r1 h4 => ?_
  refine tO.go a1 h4 fun j H2 ρ2 μ2 t2 a2 h6 => ?_
  have r1 := r1.tr t2
  cases qd : der μ2 dx with
  | none => rw [qd] at h6; exact h6.elim
  | some z =>
    rw [qd] at h6
    have w := r1.view a2.mem qd
    cases z with
    | lst xs =>
      obtain ⟨p, vs, rfl, k1, k2⟩ := w
      exact ⟨p, vs, rfl, .inl ⟨k1, fin_lst a2.mem (k2.revs j) fun v H' t r m => h6 v ρ2 H' t r m⟩⟩
    | tup xs =>
      obtain ⟨p, vs, rfl, k1, k2⟩ := w
      exact ⟨p, vs, rfl, .inr ⟨k1, fin_tup a2.mem (k2.revs j) fun v H' t r m => h6 v ρ2 H' t r m⟩⟩
    | _ => exact h6.elim
end
end Py
end

section
set_option Elab.async false
set_option linter.all false
set_option maxRecDepth 100000
set_option maxHeartbeats 400000
/-! PyMeth: methods of lists. -/
namespace Py
open PySem L2 PyProof.Rows
open PySem (Str)
variable [Tabs]

/-! ### a cell is written -/
theorem mo_write {K : PySem.W.Frag} {ρ : Rho} {H : Hp} {m : Mem} {l : Nat} {a : Addr} {o : HO} (x : MemOk K ρ H m) (h : ρ.lo[l]? = some (some a)) : Mo ρ ρ H (upd H a o) := fun b u f e _ => ⟨by
  rw [upd_ne fun z => f.1 l (by rw [z]; exact h)]; exact e, f⟩
theorem tr_write {K : PySem.W.Frag} {ρ : Rho} {H : Hp} {m : Mem} {l : Nat} {a : Addr} {o : HO} (x : MemOk K ρ H m) (h : ρ.lo[l]? = some (some a)) : Tr ρ ρ H (upd H a o) where
  len := Nat.le_refl _
  hi := rfl
  old := fun _ _ e _ => e
  new := fun i b e q => by rw [List.getElem?_eq_none q] at e; cases e
  keep := fun b u e _ f => by rw [upd_ne fun z => f l (by rw [z]; exact h)]; exact e
  dom := fun b e => by
    by_cases q : b = a
    · rw [q, upd_same] at e; cases e
    · rw [upd_ne q] at e; exact e
theorem mem_writeC {K : PySem.W.Frag} {ρ : Rho} {H : Hp} {m : Mem} {l : Nat} {a : Addr} {u o0 : HO} {d' : D} (x : MemOk K ρ H m) (h : ρ.lo[l]? = some (some a)) (ha : H a = some o0) (nt : NoT o0) (new : CellOk K ρ (upd H a u) l d') :
    MemOk K ρ (upd H a u) (m.set l d') := by
  have mo := mo_write (o := u) x h
  have hd : ∀ b o, H b = some o → ∃ o', upd H a u b = some o' := fun b o e => by
    by_cases q : b = a
    · exact ⟨_, by rw [q]; exact upd_same⟩
    · exact ⟨o, by rw [upd_ne q]; exact e⟩
  refine ⟨by simpa using x.len, x.one, x.apart, fun i b e => let ⟨o, q⟩ := x.live i b e; hd b o q, fun b e => let ⟨o, q⟩ := x.hid b e; hd b o q, fun i d e => ?_, fun P hP => let ⟨ps, e, t⟩ := x.tab P hP; ⟨ps, by rw [upd_ne fun z => by rw [z, ha] at e; cases e; exact nt _ rfl]; exact e, t⟩⟩
  by_cases q : l = i
  · subst q
    rw [List.getElem?_set] at e
    simp at e
    obtain ⟨_, rfl⟩ := e
    exact new
  · rw [List.getElem?_set_ne q] at e
    exact (x.cell i d e).mo (fun _ e => e) (fun b o g1 g2 _ => by
      rw [upd_ne fun z => q (x.one l i a h (by rw [← z]; exact g1))]
      exact g2) mo
theorem mem_write {K : PySem.W.Frag} {ρ : Rho} {H : Hp} {m : Mem} {l : Nat} {a : Addr} {xs : List D} {vs ws : List V} (x : MemOk K ρ H m) (h : ρ.lo[l]? = some (some a)) (r : RepPs K ρ H xs vs) (ha : H a = some (.lst ws)) :
    MemOk K ρ (upd H a (.lst vs)) (m.set l (.lst xs)) :=
  mem_writeC x h ha noT_lst ⟨a, vs, h, upd_same, r.mono (mo_write x h)⟩
theorem fits_lt {n : Nat} (h : fits n = true) : n < sizeLine := by
  have h' : n ≤ 10000000 := of_decide_eq_true h
  rw [sizeLine_eq]
  omega
theorem cellL_some {m : Mem} {l : Nat} {xs : List D} (h : cellL m l = some xs) : m[l]? = some (.lst xs) := by
  unfold cellL at h
  split at h <;> cases h
  assumption
/-- the list behind a name -/
theorem ref_at {K : PySem.W.Frag} {ρ : Rho} {H : Hp} {m : Mem} {l : Nat} {v : V} {xs : List D} (x : MemOk K ρ H m) (r : Rep K ρ H (.ref l) v) (h : cellL m l = some xs) :
    ∃ a vs, v = .ref a ∧ ρ.lo[l]? = some (some a) ∧ H a = some (.lst vs) ∧ RepPs K ρ H xs vs := by
  obtain ⟨a, vs, h1, h2, h3⟩ := x.alive (cellL_some h)
  obtain ⟨o, h4, h5⟩ := r
  exact ⟨a, vs, h5 a (by rw [h4] at h1; exact Option.some.inj h1), h1, h2, h3⟩

section
variable {X : Cx} {cl : Nat → Addr} {W : WX} {c : Cfg} {sub : Nat → Nat → Bool}
def rM (K : PySem.W.Frag) (sem : List D → Mem → Option (D × Mem)) : V → List V → Hp → VK → Prop := fun x xs H Q => rP K sem (x :: xs) H Q
def MethOk (X : Cx) (sub : Nat → Nat → Bool) (id : String) (p : Prim) : Prop := MtR X id (rM X.K (pr sub p))
theorem MtR.imp {id : String} {r r' : V → List V → Hp → VK → Prop} (h : MtR X id r) (k : ∀ x xs H Q, r' x xs H Q → r x xs H Q) : MtR X id r' := fun pins s σ H x xs v us Q I rx rs q => h pins s σ H x xs v us Q I rx rs (k _ _ _ _ q)
theorem meth_go {p : Prim} {to : C} {ts : List C} {σ : L2.St} {H : Hp} {Q : VK} (h : tE X cl W (fun en μ => ev c en (.meth p to ts) μ) σ H Q) :
    tBM X.K "list" (rM X.K (pr c.sub p)) (tE X cl W fun en μ => ev c en to μ) (tA X cl W fun en μ => evs c en ts μ) σ H Q := by
  obtain ⟨ρ, en, μ, h1, h2, h3⟩ := h
  dsimp only at h3
  rw [ev] at h3
  refine tE.go ⟨h1, h2⟩ h3 fun x H1 ρ1 dx μ1 t1 a1 r1 h4 => ?_
  cases qd : der μ1 dx with
  | none => rw [qd] at h4; exact h4.elim
  | some z =>
    rw [qd] at h4
    cases z with
    | lst zs =>
      dsimp only at h4
      obtain ⟨q, vs, e1, k1, k2⟩ := r1.view a1.mem qd
      refine ⟨by rw [e1]; exact .inl ⟨rfl, vs, k1⟩, ?_⟩
      refine tA.go a1 h4 fun us H2 ρ2 ds μ2 t2 a2 r2 h5 => ?_
      cases q : pr c.sub p (dx :: ds) μ2 with
      | none => rw [q] at h5; exact h5.elim
      | some y =>
        obtain ⟨d, μ'⟩ := y
        rw [q] at h5
        exact ⟨ρ2, μ2, dx :: ds, d, μ', a2.mem, .cons (r1.tr t2) r2, q, h5⟩
    | _ => exact h4.elim
theorem me_meth {p : Prim} {id : String} {o : Expr} {name : Str} {e : Expr} {es : List Expr} {to t : C} {ts : List C} {apos cpos : Pos} (slot : Slot "list" name id) (hty : typeOf (.builtin id) = pure (.type "method_descriptor")) (hm : MethOk X c.sub id p)
    (ho : Me X cl W c o to) (ha : Ma X cl W c (e :: es) (t :: ts)) (hbase : attributeBase o name X.env (eval o X.env) = eval o X.env)
    (hfew : ((backTo cpos (starEach (e :: es) X.env)).all (fun x => !x.1) && (backToKw cpos (keywordEach [] X.env)).all (fun x => x.1.isSome)
      && decide ((e :: es).length + ([] : List Keyword).length + (if ([] : List Keyword).isEmpty then 0 else 1) < 30)) = true)
    (hline : (apos.endLine == cpos.line) = true) (hs : starEach (e :: es) X.env = (false, eval e X.env) :: starEach es X.env) (hplain : (backTo cpos (starEach es X.env)).any (·.1) = false) :
    Me X cl W c (.Call (.Attribute o name apos) (e :: es) [] cpos) (.meth p to (t :: ts)) :=
  PE.imp (pe_bm PySem.F.plainAttrs_list slot hty hm ho ha hbase hfew hline hs hplain) fun σ H Q h => meth_go h
theorem tA_nil {σ : L2.St} {H : Hp} {k : List V → Hp → Prop} (h : tA X cl W (fun en μ => evs c en [] μ) σ H k) : k [] H := by
  obtain ⟨ρ, en, μ, h1, h2, h3⟩ := h
  dsimp only at h3
  rw [evs] at h3
  exact RG.val h3 h2 .nil
theorem me_meth0 {p : Prim} {id : String} {o : Expr} {name : Str} {to : C} {apos cpos : Pos} (slot : Slot "list" name id) (hty : typeOf (.builtin id) = pure (.type "method_descriptor")) (hm : MethOk X c.sub id p)
    (ho : Me X cl W c o to) (hbase : attributeBase o name X.env (eval o X.env) = eval o X.env) (hline : (apos.endLine == cpos.line) = true) :
    Me X cl W c (.Call (.Attribute o name apos) [] [] cpos) (.meth p to []) := by
  refine PE.imp (pe_bm0 PySem.F.plainAttrs_list slot hty hm ho hbase hline) fun σ H Q h => ?_
  have z := meth_go h
  obtain ⟨ρ, en, μ, h1, h2, h3⟩ := z
  exact ⟨ρ, en, μ, h1, h2, RG.mono h3 fun v H1 ⟨ty, q⟩ => ⟨ty, tA_nil q⟩⟩
theorem mhAppend : MethOk X sub "list.append" .append := by
  refine MtR.imp mt_append fun x xs H Q h => ?_
  obtain ⟨ρ, μ, ds, d, μ', mo, rs, h, q⟩ := h
  cases rs with
  | cons r rs =>
    rename_i d0 ds0
    cases d0 with
    | ref l =>
      cases rs with
      | nil => cases h
      | cons r2 rs2 =>
        cases rs2 with
        | cons _ _ => cases h
        | nil =>
          simp only [pr, Option.bind_eq_some_iff] at h
          obtain ⟨⟨d1, m1⟩, hs, xs, hc, h⟩ := h
          dsimp only at hc h
          obtain ⟨ρ1, t1, x1, p1⟩ := settle_ok mo r2 hs
          obtain ⟨a, vs, rfl, e1, e2, e3⟩ := ref_at x1 (r.tr t1) hc
          by_cases hf : fits xs.length = true
          · rw [if_pos hf] at h
            cases h
            refine ⟨a, vs, _, rfl, rfl, e2, ?_, ?_⟩
            · have := fits_lt hf
              rw [← e3.length]; exact this
            · refine q _ ρ1 _ (t1.trans (tr_write x1 e1)) RepP.non (mem_write x1 e1 (e3.append (.cons p1 .nil)) e2)
          · rw [if_neg hf] at h; cases h
    | _ => cases rs <;> first | (cases h; done) | (rename_i rs2; cases rs2 <;> cases h)
theorem mhExtend : MethOk X sub "list.extend" .extend := by
  refine MtR.imp mt_extend fun x xs H Q h => ?_
  obtain ⟨ρ, μ, ds, d, μ', mo, rs, h, q⟩ := h
  cases rs with
  | cons r rs =>
    rename_i d0 ds0
    cases d0 with
    | ref l =>
      cases rs with
      | nil => cases h
      | cons r2 rs2 =>
        cases rs2 with
        | cons _ _ => cases h
        | nil =>
          simp only [pr, Option.bind_eq_some_iff] at h
          obtain ⟨y, hy, ys, hu, xs, hc, h⟩ := h
          have ey := unL_some hu
          subst ey
          obtain ⟨b, us, rfl, k1, k2⟩ := r2.viewX mo hy
          obtain ⟨a, vs, rfl, e1, e2, e3⟩ := ref_at mo r hc
          by_cases hf : fits (xs.length + ys.length) = true
          · rw [if_pos hf] at h
            cases h
            refine ⟨a, b, vs, us, rfl, rfl, e2, k1, ?_, ?_⟩
            · rw [← e3.length, ← k2.length]; exact fits_line hf
            · exact q _ ρ _ (tr_write mo e1) RepP.non (mem_write mo e1 (e3.append k2) e2)
          · rw [if_neg hf] at h; cases h
    | _ => cases rs <;> first | (cases h; done) | (rename_i rs2; cases rs2 <;> cases h)
theorem RepPs.dropLast {K : PySem.W.Frag} {ρ : Rho} {H : Hp} {ds : List D} {vs : List V} (h : RepPs K ρ H ds vs) : RepPs K ρ H ds.dropLast vs.dropLast := by
  rw [List.dropLast_eq_take, List.dropLast_eq_take, h.length]
  exact h.take _
theorem mhPop : MethOk X sub "list.pop" .pop := by
  refine MtR.imp mt_pop fun x xs H Q h => ?_
  obtain ⟨ρ, μ, ds, d, μ', mo, rs, h, q⟩ := h
  cases rs with
  | cons r rs =>
    rename_i d0 ds0
    cases d0 with
    | ref l =>
      cases rs with
      | cons _ _ => cases h
      | nil =>
        simp only [pr, Option.bind_eq_some_iff, Option.map_eq_some_iff] at h
        obtain ⟨xs, hc, y, hy, h⟩ := h
        cases h
        obtain ⟨a, vs, rfl, e1, e2, e3⟩ := ref_at mo r hc
        rw [List.getLast?_eq_getElem?] at hy
        obtain ⟨v, hv, rv⟩ := e3.get hy
        rw [e3.length] at hv
        refine ⟨a, vs, v, rfl, rfl, e2, hv, ?_⟩
        exact q _ ρ _ (tr_write mo e1) (rv.mono (mo_write mo e1)).rep (mem_write mo e1 e3.dropLast e2)
    | _ => cases rs <;> first | (cases h; done) | (rename_i rs2; cases rs2 <;> cases h)
theorem toPs_eq : ∀ ds : List D, toPs ds = ds.map toP
  | [] => rfl
  | d :: ds => by simp only [toPs, List.map_cons, toPs_eq ds]
theorem mhIndex (hu : X.A.units + 200 < cLine) : MethOk X sub "list.index" .index := by
  intro pins s σ H x xs v us Q I rx rxs h
  obtain ⟨ρ, μ, ds, d, μ', mo, rs, h, q⟩ := h
  cases rs with
  | cons r rs =>
    rename_i d0 ds0
    cases rs with
    | nil => cases d0 <;> cases h
    | cons r2 rs2 =>
      cases rs2 with
      | cons _ _ => cases d0 <;> cases h
      | nil =>
        rename_i dy vy
        have h' : ((der μ dy).bind fun x => (der μ d0).bind fun c => match c with
          | .lst xs => if min (deps xs) (dep x) ≤ dq ∧ plainK x = true then (xs.findIdx? fun y => eqB y x).map fun (k : Nat) => (D.int (k : Int), μ) else none
          | _ => none) = some (d, μ') := by
          rw [← h]
          cases d0 <;> rfl
        simp only [Option.bind_eq_some_iff] at h'
        obtain ⟨ex, qx, cc, qc, h'⟩ := h'
        cases cc with
        | lst zs =>
          dsimp only at h'
          by_cases hk : min (deps zs) (dep ex) ≤ dq ∧ plainK ex = true
          · rw [if_pos hk] at h'
            simp only [Option.map_eq_some_iff] at h'
            obtain ⟨k, hfi, e⟩ := h'
            cases e
            obtain ⟨a, vs, rfl, k1, k2⟩ := r.view mo qc
            have wy := r2.view mo qx
            obtain ⟨uy, rfl, ry⟩ := Vals.one rxs
            cases rx
            obtain ⟨bs, r1⟩ := wy.reads I ry
            obtain ⟨its, rv, ⟨⟨cls, dd, data, sls⟩, n, ho, hc, hdn, hdt⟩, hlen⟩ := I.list k1
            simp only at hc hdt
            subst hc hdt
            obtain ⟨as, h4⟩ := k2.reads I rv
            have hxs : PyData.canLayAll0 (toPs zs) = true := k2.canLay
            have hroom : X.A.units + 1 + min (PyData.depthAll (toPs zs)) (toP ex).depth < cLine := by
              rw [toPs_depth, toP_depth]
              have := hk.1
              unfold dq at this
              omega
            have hn : its.length = (toPs zs).length := SeqAt.ReadsAll.length (toPs zs) its as h4
            have hmap : its.map (SeqAt.readOf s.heap) = toPs zs := SeqAt.readsAll_map (toPs zs) its as hxs h4
            have hvl := rv.length
            have hsl := sizeLine_eq
            have hzl : (toPs zs).length = zs.length := by rw [toPs_eq, List.length_map]
            obtain ⟨hkl, hk1, hk2⟩ := List.findIdx?_eq_some_iff_getElem.mp hfi
            have hj : k < its.toArray.size := by rw [List.size_toArray]; omega
            have at_ : ∀ (m : Nat) (hm : m < its.toArray.size) (hz : m < zs.length), SeqAt.readOf s.heap its.toArray[m] = toP zs[m] := by
              intro m hm hz'
              have hml : m < its.length := by simpa using hm
              have e1 : (its.map (SeqAt.readOf s.heap))[m]? = (zs.map toP)[m]? := by rw [hmap, toPs_eq]
              rw [List.getElem?_map, List.getElem?_map, List.getElem?_eq_getElem hml, List.getElem?_eq_getElem hz'] at e1
              have := Option.some.inj e1
              simpa using this
            have eqz : ∀ (m : Nat) (hz : m < zs.length), PyData.eqv (toP zs[m]) (toP ex) = eqB zs[m] ex := fun m hz => by
              obtain ⟨vm, e1, e2⟩ := k2.get (List.getElem?_eq_getElem hz)
              exact View.eqv e2.view wy
            refine call_meets PySem.F.slot_list_index ⟨_, ho, rfl⟩ PySem.F.entry_list_index (PySem.F.args_list_index_2 _ _)
              (SeqAt.list_indexAt a its.toArray n dd sls uy (fun u => PyData.eqv (SeqAt.readOf s.heap u) (toP ex)) k hj (by have h1 : its.toArray.size = its.length := List.size_toArray; have h2 := rv.length; have h3 := k2.length; omega) ?_ ?_) ⟨ho, SeqAt.items_eqAt (vs := its.toArray) (show ReadsAll s.heap its.toArray.toList (toPs zs) as from by rw [show its.toArray.toList = its by simp]; exact h4) r1 hxs wy.canLay hroom, ?_⟩
            · show PyData.eqv (SeqAt.readOf s.heap its.toArray[k]) (toP ex) = true
              rw [at_ k hj hkl, eqz k hkl]
              exact hk1
            · intro m hm hmj
              have hmz : m < zs.length := by omega
              show PyData.eqv (SeqAt.readOf s.heap its.toArray[m]) (toP ex) = false
              rw [at_ m hm hmz, eqz m hmz]
              simpa using hk2 m hmj
            · exact ⟨.int (k : Nat), H, I.tok _, ⟨_, rfl⟩, q _ ρ H Tr.refl (RepP.int _) mo⟩
          · rw [if_neg hk] at h'; cases h'
        | _ => cases h'
end
end Py
end

section
set_option Elab.async false
set_option linter.all false
set_option maxRecDepth 100000
set_option maxHeartbeats 400000
/-! PyStmt: statements. -/
namespace Py
open PySem L2 PyProof.Rows
open PySem (Str)
variable [Tabs]

/-- a statement's reading -/
def SG (K : PySem.W.Frag) (cl : Nat → Addr) (W : WX) (ρ : Rho) (H : Hp) (D : Ends) : Out → Prop
  | .nx e m => ∀ ρ' H' σ, Tr ρ ρ' H H' → EnvOk K ρ' H' e σ → MemOk K ρ' H' m → D.nx σ H'
  | .rt d m => ∀ v ρ' H', Tr ρ ρ' H H' → Rep K ρ' H' d v → MemOk K ρ' H' m → D.rt v H'
  | .bk e m => ∀ ρ' H' σ, Tr ρ ρ' H H' → EnvOk K ρ' H' e σ → MemOk K ρ' H' m → D.bk σ H'
  | .ct e m => ∀ ρ' H' σ, Tr ρ ρ' H H' → EnvOk K ρ' H' e σ → MemOk K ρ' H' m → D.ct σ H'
  | .ex k e m => ∀ ρ' H' σ, Tr ρ ρ' H H' → EnvOk K ρ' H' e σ → MemOk K ρ' H' m → W (.ref (cl k)) none σ H'
  | .no => False
section
variable {K : PySem.W.Frag} {cl : Nat → Addr} {W : WX} {ρ ρ1 : Rho} {H H1 : Hp} {D : Ends}
theorem SG.tr {o : Out} (t : Tr ρ ρ1 H H1) (h : SG K cl W ρ H D o) : SG K cl W ρ1 H1 D o := by
  cases o with
  | nx e m => exact fun ρ' H' σ t' => h ρ' H' σ (t.trans t')
  | rt d m => exact fun v ρ' H' t' => h v ρ' H' (t.trans t')
  | bk e m => exact fun ρ' H' σ t' => h ρ' H' σ (t.trans t')
  | ct e m => exact fun ρ' H' σ t' => h ρ' H' σ (t.trans t')
  | ex k e m => exact fun ρ' H' σ t' => h ρ' H' σ (t.trans t')
  | no => exact h
/-- an expression first -/
theorem SG.out {α β : Type} {Rm : Rho → Hp → α → β → Prop} {r : R α} {f : α → Mem → Out} {e : Env} {σ : L2.St} (h : SG K cl W ρ H D (r.out e f)) (E : EnvOk K ρ H e σ) :
    RG Rm K cl (fun c d => W c d σ) ρ H (fun v H1 => ∃ ρ1 a m1, Tr ρ ρ1 H H1 ∧ Rm ρ1 H1 a v ∧ MemOk K ρ1 H1 m1 ∧ SG K cl W ρ1 H1 D (f a m1)) r := by
  cases r with
  | ok a m => exact fun v ρ' H' t r x => ⟨ρ', a, m, t, r, x, SG.tr t h⟩
  | ex c m => exact fun ρ' H' t x => h ρ' H' σ t (E.tr t) x
  | no => exact h
/-- a statement, then the rest -/
theorem SG.seq {o : Out} {f : Env → Mem → Out} {N : L2.St → Hp → Prop} (h : SG K cl W ρ H D (o.seq f)) (hN : ∀ e m ρ' H' σ, Tr ρ ρ' H H' → EnvOk K ρ' H' e σ → MemOk K ρ' H' m → SG K cl W ρ' H' D (f e m) → N σ H') :
    SG K cl W ρ H { D with nx := N } o := by
  cases o with
  | nx e m => exact fun ρ' H' σ t E x => hN e m ρ' H' σ t E x (SG.tr t h)
  | rt d m => exact h
  | bk e m => exact h
  | ct e m => exact h
  | ex k e m => exact h
  | no => exact h
/-- a turn of a loop -/
theorem SG.turn {o : Out} {f : Env → Mem → Out} {N : L2.St → Hp → Prop} (h : SG K cl W ρ H D (o.turn f)) (hN : ∀ e m ρ' H' σ, Tr ρ ρ' H H' → EnvOk K ρ' H' e σ → MemOk K ρ' H' m → SG K cl W ρ' H' D (f e m) → N σ H') :
    SG K cl W ρ H { D with nx := N, ct := N, bk := D.nx } o := by
  cases o with
  | nx e m => exact fun ρ' H' σ t E x => hN e m ρ' H' σ t E x (SG.tr t h)
  | ct e m => exact fun ρ' H' σ t E x => hN e m ρ' H' σ t E x (SG.tr t h)
  | bk e m => exact h
  | rt d m => exact h
  | ex k e m => exact h
  | no => exact h
end
section
variable (X : Cx) (cl : Nat → Addr) (W : WX)
def tS (m : Env → Mem → Out) : TS := fun D σ H => ∃ ρ e μ, EnvOk X.K ρ H e σ ∧ MemOk X.K ρ H μ ∧ SG X.K cl W ρ H D (m e μ)
abbrev Ms (c : Cfg) (st : Stmt) (t : S) : Prop := PS X st (tS X cl W fun e μ => exec c t e μ)
abbrev Mb (c : Cfg) (sts : List Stmt) (ts : List S) : Prop := PSs X sts (tS X cl W fun e μ => execs c ts e μ)
end
section
variable {X : Cx} {cl : Nat → Addr} {W : WX} {c : Cfg}
theorem PS.imp {st : Stmt} {t t' : TS} (h : PS X st t) (k : ∀ D σ H, t' D σ H → t D σ H) : PS X st t' := ⟨fun pins s σ H D I q => h.run pins s σ H D I (k D σ H q)⟩
theorem PSs.imp {st : List Stmt} {t t' : TS} (h : PSs X st t) (k : ∀ D σ H, t' D σ H → t D σ H) : PSs X st t' := ⟨fun pins s σ H D I q => h.run pins s σ H D I (k D σ H q)⟩
theorem tE.goS {m : Env → Mem → R D} {f : D → Mem → Out} {σ : L2.St} {ρ : Rho} {H : Hp} {e : Env} {μ : Mem} {D : Ends} (a : At X σ ρ H e μ)
    (h : SG X.K cl W ρ H D ((m e μ).out e f)) {k : VK}
    (hk : ∀ v H1 ρ1 d μ1, Tr ρ ρ1 H H1 → At X σ ρ1 H1 e μ1 → Rep X.K ρ1 H1 d v → SG X.K cl W ρ1 H1 D (f d μ1) → k v H1) : tE X cl W m σ H k :=
  ⟨ρ, e, μ, a.env, a.mem, (SG.out (Rm := Rep X.K) h a.env).mono fun v H1 ⟨ρ1, d, m1, t, r, x, q⟩ => hk v H1 ρ1 d m1 t ⟨a.env.tr t, x⟩ r q⟩
theorem tT.goS {m : Env → Mem → R Bool} {f : Bool → Mem → Out} {σ : L2.St} {ρ : Rho} {H : Hp} {e : Env} {μ : Mem} {D : Ends} (a : At X σ ρ H e μ)
    (h : SG X.K cl W ρ H D ((m e μ).out e f)) {k : Bool → Hp → Prop}
    (hk : ∀ b H1 ρ1 μ1, Tr ρ ρ1 H H1 → At X σ ρ1 H1 e μ1 → SG X.K cl W ρ1 H1 D (f b μ1) → k b H1) : tT X cl W m σ H k := by
  refine ⟨ρ, e, μ, a.env, a.mem, (SG.out (Rm := fun _ _ a b => a = b) h a.env).mono fun v H1 ⟨ρ1, d, m1, t, r, x, q⟩ => ?_⟩
  have r' : d = v := r
  subst r'
  exact hk d H1 ρ1 m1 t ⟨a.env.tr t, x⟩ q
theorem tA.goS {m : Env → Mem → R (List D)} {f : List D → Mem → Out} {σ : L2.St} {ρ : Rho} {H : Hp} {e : Env} {μ : Mem} {D : Ends} (a : At X σ ρ H e μ)
    (h : SG X.K cl W ρ H D ((m e μ).out e f)) {k : List V → Hp → Prop}
    (hk : ∀ vs H1 ρ1 ds μ1, Tr ρ ρ1 H H1 → At X σ ρ1 H1 e μ1 → Reps X.K ρ1 H1 ds vs → SG X.K cl W ρ1 H1 D (f ds μ1) → k vs H1) : tA X cl W m σ H k :=
  ⟨ρ, e, μ, a.env, a.mem, (SG.out (Rm := Reps X.K) h a.env).mono fun v H1 ⟨ρ1, d, m1, t, r, x, q⟩ => hk v H1 ρ1 d m1 t ⟨a.env.tr t, x⟩ r q⟩

/-! ### blocks -/
theorem mb_nil : Mb X cl W c [] [] := by
  refine PSs.imp pss_nil fun D σ H h => ?_
  obtain ⟨ρ, e, μ, h1, h2, h3⟩ := h
  dsimp only at h3
  rw [execs] at h3
  exact h3 ρ H σ Tr.refl h1 h2
theorem mb_cons {st : Stmt} {rest : List Stmt} {t : S} {ts : List S} (h1 : Ms X cl W c st t) (h2 : Mb X cl W c rest ts) : Mb X cl W c (st :: rest) (t :: ts) := by
  refine PSs.imp (pss_cons h1 h2) fun D σ H h => ?_
  obtain ⟨ρ, e, μ, g1, g2, g3⟩ := h
  dsimp only at g3
  rw [execs] at g3
  exact ⟨ρ, e, μ, g1, g2, SG.seq g3 fun e' m' ρ' H' σ' t E x q => ⟨ρ', e', m', E, x, q⟩⟩
theorem mb_never {sts : List Stmt} : Mb X cl W c sts [.never] := by
  refine PSs.imp pss_never fun D σ H h => ?_
  obtain ⟨ρ, e, μ, h1, h2, h3⟩ := h
  dsimp only at h3
  rw [execs, exec] at h3
  exact h3
theorem ms_never {st : Stmt} : Ms X cl W c st .never := by
  refine PS.imp ps_never fun D σ H h => ?_
  obtain ⟨ρ, e, μ, h1, h2, h3⟩ := h
  dsimp only at h3
  rw [exec] at h3
  exact h3
theorem me_never {e : Expr} : Me X cl W c e .never := ⟨fun pins s σ H Q I h => by
  obtain ⟨ρ, en, μ, h1, h2, h3⟩ := h
  dsimp only at h3
  rw [ev] at h3
  exact h3.elim⟩
theorem ms_pass {pos : Pos} : Ms X cl W c (.Pass pos) .pass := by
  refine PS.imp ps_pass fun D σ H h => ?_
  obtain ⟨ρ, e, μ, h1, h2, h3⟩ := h
  dsimp only at h3
  rw [exec] at h3
  exact h3 ρ H σ Tr.refl h1 h2
theorem ms_brk {pos : Pos} : Ms X cl W c (.Break pos) .brk := by
  refine PS.imp ps_break fun D σ H h => ?_
  obtain ⟨ρ, e, μ, h1, h2, h3⟩ := h
  dsimp only at h3
  rw [exec] at h3
  exact h3 ρ H σ Tr.refl h1 h2
theorem ms_cnt {pos : Pos} : Ms X cl W c (.Continue pos) .cnt := by
  refine PS.imp ps_continue fun D σ H h => ?_
  obtain ⟨ρ, e, μ, h1, h2, h3⟩ := h
  dsimp only at h3
  rw [exec] at h3
  exact h3 ρ H σ Tr.refl h1 h2
theorem ms_expr {e : Expr} {t : C} {pos : Pos} (he : Me X cl W c e t) (hs : swapsWith e none pos.line X.env = pure false) : Ms X cl W c (.Expr e pos) (.expr t) := by
  refine PS.imp (ps_expr he hs) fun D σ H h => ?_
  obtain ⟨ρ, en, μ, h1, h2, h3⟩ := h
  dsimp only at h3
  rw [exec] at h3
  exact tE.goS ⟨h1, h2⟩ h3 fun v H1 ρ1 d μ1 t1 a1 r1 h4 => h4 ρ1 H1 σ Tr.refl a1.env a1.mem
theorem ms_ret {e : Expr} {t : C} {pos : Pos} (he : Me X cl W c e t) : Ms X cl W c (.Return (some e) pos) (.ret t) := by
  refine PS.imp (ps_ret he) fun D σ H h => ?_
  obtain ⟨ρ, en, μ, h1, h2, h3⟩ := h
  dsimp only at h3
  rw [exec] at h3
  exact tE.goS ⟨h1, h2⟩ h3 fun v H1 ρ1 d μ1 t1 a1 r1 h4 => h4 v ρ1 H1 Tr.refl r1 a1.mem
theorem ms_retN {pos : Pos} : Ms X cl W c (.Return none pos) (.ret (.lit .non)) := by
  refine PS.imp ps_retN fun D σ H h => ?_
  obtain ⟨ρ, en, μ, h1, h2, h3⟩ := h
  dsimp only at h3
  rw [exec, ev, R.out_ok] at h3
  exact h3 .non ρ H Tr.refl RepP.non h2
theorem ms_if {e : Expr} {a b : List Stmt} {t : C} {ta tb : List S} {pos : Pos} (hc : Mt X cl W c e t) (ha : Mb X cl W c a ta) (hb : Mb X cl W c b tb) : Ms X cl W c (.If e a b pos) (.iff t ta tb) := by
  refine PS.imp (ps_if hc ha hb) fun D σ H h => ?_
  obtain ⟨ρ, en, μ, h1, h2, h3⟩ := h
  dsimp only at h3
  rw [exec] at h3
  refine tT.goS ⟨h1, h2⟩ h3 fun k H1 ρ1 μ1 t1 a1 h4 => ?_
  cases k with
  | true => rw [if_pos rfl] at h4 ⊢; exact ⟨ρ1, en, μ1, a1.env, a1.mem, h4⟩
  | false => rw [if_neg Bool.false_ne_true] at h4 ⊢; exact ⟨ρ1, en, μ1, a1.env, a1.mem, h4⟩

/-! ### stores -/
mutual
def tgN : Tg → List Nat
  | .nm i => [i]
  | .tp ts => tgNs ts
def tgNs : List Tg → List Nat
  | [] => []
  | t :: ts => tgN t ++ tgNs ts
end
/-- only slots of ns have changed -/
def Only (ns : List Nat) (σ σ' : L2.St) : Prop := ∀ vs : List Nat, (∀ i ∈ ns, i ∈ vs) → L2.wipe σ' vs = L2.wipe σ vs
theorem wipe_set {σ : L2.St} {i : Nat} {x : Option V} : ∀ {vs : List Nat}, i ∈ vs → L2.wipe (σ.set i x) vs = L2.wipe σ vs
  | [], h => absurd h (by simp)
  | v :: vs, h => by
    have main : ∀ (vs : List Nat), L2.wipe (σ.set i x) vs = L2.wipe σ vs ∨ L2.wipe (σ.set i x) vs = (L2.wipe σ vs).set i x := fun vs => by
      induction vs with
      | nil => exact .inr rfl
      | cons v vs ih =>
        simp only [L2.wipe]
        rcases ih with ih | ih
        · rw [ih]; exact .inl rfl
        · rw [ih]
          by_cases q : v = i
          · subst q; rw [List.set_set]; exact .inl rfl
          · rw [List.set_comm _ _ (Ne.symm q)]; exact .inr rfl
    simp only [L2.wipe]
    rcases List.mem_cons.mp h with h | h
    · subst h
      rcases main vs with m | m
      · rw [m]
      · rw [m, List.set_set]
    · rw [wipe_set h]
/-- a target's reading -/
def gB (K : PySem.W.Frag) (t : Tg) : TG := fun v σ H Q => ∃ ρ e μ d, EnvOk K ρ H e σ ∧ MemOk K ρ H μ ∧ Rep K ρ H d v ∧ ∃ e', bindT t d e = some e' ∧ ∀ σ', EnvOk K ρ H e' σ' → Only (tgN t) σ σ' → Q σ' H
def gBs (K : PySem.W.Frag) (ts : List Tg) : TGs := fun vs σ H Q => ∃ ρ e μ ds, EnvOk K ρ H e σ ∧ MemOk K ρ H μ ∧ Reps K ρ H ds vs ∧ ∃ e', bindTs ts ds e = some e' ∧ ∀ σ', EnvOk K ρ H e' σ' → Only (tgNs ts) σ σ' → Q σ' H
abbrev Mg (X : Cx) (tg : Expr) (t : Tg) : Prop := PG X tg (gB X.K t)
abbrev Mgs (X : Cx) (tgs : List Expr) (ts : List Tg) : Prop := PGs X tgs (gBs X.K ts)
theorem PG.imp {e : Expr} {t t' : TG} (h : PG X e t) (k : ∀ v σ H Q, t' v σ H Q → t v σ H Q) : PG X e t' := ⟨fun pins s σ H v u Q I r q => h.run pins s σ H v u Q I r (k v σ H Q q)⟩
theorem PGs.imp {e : List Expr} {t t' : TGs} (h : PGs X e t) (k : ∀ v σ H Q, t' v σ H Q → t v σ H Q) : PGs X e t' := ⟨fun pins s σ H v u Q I r q => h.run pins s σ H v u Q I r (k v σ H Q q)⟩
theorem PG.or {e : Expr} {t t' : TG} (h : PG X e t) (h' : PG X e t') : PG X e (fun v σ H Q => t v σ H Q ∨ t' v σ H Q) := ⟨fun pins s σ H v u Q I r q => q.elim (h.run pins s σ H v u Q I r) (h'.run pins s σ H v u Q I r)⟩
theorem mg_nm {i : Nat} {x : Str} {pos : Pos} (hN : X.N.Nodup) (hi : X.N[i]? = some x) (hx : Loc X.env.scope x) (hf : X.fn x = true ∨ X.env.scope.names.lookup x = some .local) : Mg X (.Name x pos) (.nm i) := by
  refine PG.imp (pg_name hN hi hx hf) fun v σ H Q h => ?_
  obtain ⟨ρ, e, μ, d, h1, h2, h3, e', h4, h5⟩ := h
  rw [bindT] at h4
  by_cases hl : i < e.length
  · rw [if_pos hl] at h4
    cases h4
    exact h5 _ (h1.set h3 i) fun vs hv => wipe_set (hv i (by simp [tgN]))
  · rw [if_neg hl] at h4; cases h4
theorem mgs_nil : Mgs X [] [] := by
  refine PGs.imp pgs_nil fun v σ H Q h => ?_
  obtain ⟨ρ, e, μ, ds, h1, h2, h3, e', h4, h5⟩ := h
  cases h3 with
  | nil => rw [bindTs] at h4; cases h4; exact ⟨rfl, h5 σ h1 fun _ _ => rfl⟩
  | cons _ _ => simp [bindTs] at h4
theorem mgs_cons {e : Expr} {es : List Expr} {t : Tg} {ts : List Tg} (h1 : Mg X e t) (h2 : Mgs X es ts) (hs : (assignEach (e :: es) X.env).map (·.2) = assign e X.env :: (assignEach es X.env).map (·.2)) : Mgs X (e :: es) (t :: ts) := by
  refine PGs.imp (pgs_cons h1 h2 hs) fun v σ H Q h => ?_
  obtain ⟨ρ, en, μ, ds, g1, g2, g3, e', g4, g5⟩ := h
  cases g3 with
  | nil => simp [bindTs] at g4
  | cons r rs =>
    simp only [bindTs, Option.bind_eq_some_iff] at g4
    obtain ⟨e1, k1, k2⟩ := g4
    exact ⟨_, _, rfl, ρ, en, μ, _, g1, g2, r, e1, k1, fun σ' E' o1 => ⟨ρ, e1, μ, _, E', g2, rs, e', k2, fun σ2 E2 o2 => g5 σ2 E2 fun vs hv => (o2 vs fun i hi => hv i (by rw [tgNs]; exact List.mem_append_right _ hi)).trans (o1 vs fun i hi => hv i (by rw [tgNs]; exact List.mem_append_left _ hi))⟩⟩
theorem mg_tp {es : List Expr} {k : Nat} {ts : List Tg} {pos : Pos} (hc : X.calm = true) (h : Mgs X es ts) (hn : (assignEach es X.env).length = ts.length) (hst : (assignEach es X.env).findIdx? (·.1) = none) : Mg X (.Tuple es k pos) (.tp ts) := by
  refine PG.imp (PG.or (pg_tup hc h hn hst) (pg_lst hc h hn hst)) fun v σ H Q h => ?_
  obtain ⟨ρ, e, μ, d, h1, h2, h3, e', h4, h5⟩ := h
  cases d with
  | lst ds =>
    rw [bindT] at h4
    cases h3 with
    | lst k1 k2 =>
      have hl : ∀ (ts : List Tg) (ds : List D) (e e' : Env), bindTs ts ds e = some e' → ts.length = ds.length := fun ts => by
        induction ts with
        | nil => intro ds e e' q; cases ds with
          | nil => rfl
          | cons _ _ => simp [bindTs] at q
        | cons t ts ih => intro ds e e' q; cases ds with
          | nil => simp [bindTs] at q
          | cons d ds =>
            simp only [bindTs, Option.bind_eq_some_iff] at q
            obtain ⟨e1, _, q⟩ := q
            simp [ih _ _ _ q]
      exact .inr ⟨_, _, rfl, k1.sq, by rw [← k2.length]; exact (hl _ _ _ _ h4).symm, ρ, e, μ, ds, h1, h2, k2.reps, e', h4, fun σ' E o => h5 σ' E (by rw [tgN]; exact o)⟩
  | tup ds =>
    rw [bindT] at h4
    cases h3 with
    | tup k1 k2 =>
      have hl : ∀ (ts : List Tg) (ds : List D) (e e' : Env), bindTs ts ds e = some e' → ts.length = ds.length := fun ts => by
        induction ts with
        | nil => intro ds e e' q; cases ds with
          | nil => rfl
          | cons _ _ => simp [bindTs] at q
        | cons t ts ih => intro ds e e' q; cases ds with
          | nil => simp [bindTs] at q
          | cons d ds =>
            simp only [bindTs, Option.bind_eq_some_iff] at q
            obtain ⟨e1, _, q⟩ := q
            simp [ih _ _ _ q]
      exact .inl ⟨_, _, rfl, k1.sq, by rw [← k2.length]; exact (hl _ _ _ _ h4).symm, ρ, e, μ, ds, h1, h2, k2.reps, e', h4, fun σ' E o => h5 σ' E (by rw [tgN]; exact o)⟩
  | _ => rw [bindT] at h4 <;> first | (cases h4; done) | (intros; rename_i q; cases q)
theorem ms_asg {tg e : Expr} {t : C} {g : Tg} {pos : Pos} (he : Me X cl W c e t) (hg : Mg X tg g) (hs : swapsWithSole [tg] e pos.line X.env = pure false) (hw : swappedStores [tg] e X.env = pure none)
    (h1 : (assignEach [tg] X.env).map (·.2) = [assign tg X.env]) : Ms X cl W c (.Assign [tg] e pos) (.asg g t) := by
  refine PS.imp (ps_asg he hg hs hw h1) fun D σ H h => ?_
  obtain ⟨ρ, en, μ, h1, h2, h3⟩ := h
  dsimp only at h3
  rw [exec] at h3
  refine tE.goS ⟨h1, h2⟩ h3 fun v H1 ρ1 d μ1 t1 a1 r1 h4 => ?_
  cases q : bindT g d en with
  | none => rw [q] at h4; exact h4.elim
  | some e' =>
    rw [q] at h4
    exact ⟨ρ1, en, μ1, d, a1.env, a1.mem, r1, e', q, fun σ' E' _ => h4 ρ1 H1 σ' Tr.refl E' a1.mem⟩
theorem ms_set {i : Nat} {x : Str} {e : Expr} {t : C} {pos pos' : Pos} (hN : X.N.Nodup) (hi : X.N[i]? = some x) (hx : Loc X.env.scope x) (he : Me X cl W c e t) (hs : swapsWith e (some (.Name x pos')) pos.line X.env = pure false) (hf : X.fn x = true ∨ X.env.scope.names.lookup x = some .local) :
    Ms X cl W c (.Assign [.Name x pos'] e pos) (.asg (.nm i) t) := by
  refine PS.imp (ps_set hN hi hx he hs hf) fun D σ H h => ?_
  obtain ⟨ρ, en, μ, h1, h2, h3⟩ := h
  dsimp only at h3
  rw [exec] at h3
  refine tE.goS ⟨h1, h2⟩ h3 fun v H1 ρ1 d μ1 t1 a1 r1 h4 => ?_
  rw [bindT] at h4
  by_cases hl : i < en.length
  · rw [if_pos hl] at h4
    exact h4 ρ1 H1 _ Tr.refl (a1.env.set r1 i) a1.mem
  · rw [if_neg hl] at h4; exact h4.elim
theorem ms_par {i j : Nat} {x y : Str} {a b : Expr} {ta tb : C} {px py pt pos : Pos} {kt k2 pt2} (hc : X.calm = true) (hN : X.N.Nodup) (hi : X.N[i]? = some x) (hj : X.N[j]? = some y) (hij : i ≠ j)
    (hx : X.env.scope.names.lookup x = some .local) (hy : X.env.scope.names.lookup y = some .local) (ha : Ma X cl W c [a, b] [ta, tb])
    (hw : swappedStores [.Tuple [.Name x px, .Name y py] kt pt] (.Tuple [a, b] k2 pt2) X.env = pure (some [x, y]))
    (hs : swapsWithSole [.Tuple [.Name x px, .Name y py] kt pt] (.Tuple [a, b] k2 pt2) pos.line X.env = pure false) :
    Ms X cl W c (.Assign [.Tuple [.Name x px, .Name y py] kt pt] (.Tuple [a, b] k2 pt2) pos) (.par [i, j] [ta, tb]) := by
  refine PS.imp (ps_par hc hN hi hj hij hx hy ha hw hs) fun D σ H h => ?_
  obtain ⟨ρ, en, μ, h1, h2, h3⟩ := h
  dsimp only at h3
  rw [exec] at h3
  refine tA.goS ⟨h1, h2⟩ h3 fun vs H1 ρ1 ds μ1 t1 a1 r1 h4 => ?_
  cases q : bindTs ([i, j].map Tg.nm) ds en with
  | none => rw [q] at h4; exact h4.elim
  | some e' =>
    rw [q] at h4
    cases r1 with
    | nil => simp [bindTs] at q
    | cons r rs =>
      cases rs with
      | nil => simp [bindTs, bindT] at q
      | cons r' rs =>
        cases rs with
        | cons _ _ => simp [bindTs, bindT] at q
        | nil =>
          simp only [List.map_cons, List.map_nil, bindTs, bindT, Option.bind_eq_some_iff] at q
          obtain ⟨e1, q1, e2, q2, q3⟩ := q
          split at q1
          · cases q1
            split at q2
            · cases q2
              cases q3
              exact ⟨_, _, rfl, h4 ρ1 H1 _ Tr.refl ((a1.env.set r i).set r' j) a1.mem⟩
            · cases q2
          · cases q1
theorem ms_par3 {i j l : Nat} {x y z : Str} {a b d : Expr} {ta tb td : C} {px py pz pt pos : Pos} {kt k2 pt2} (hc : X.calm = true) (hN : X.N.Nodup) (hi : X.N[i]? = some x) (hj : X.N[j]? = some y) (hl : X.N[l]? = some z) (hij : i ≠ j) (hil : i ≠ l) (hjl : j ≠ l)
    (hx : X.env.scope.names.lookup x = some .local) (hy : X.env.scope.names.lookup y = some .local) (hz : X.env.scope.names.lookup z = some .local) (ha : Ma X cl W c [a, b, d] [ta, tb, td])
    (hw : swappedStores [.Tuple [.Name x px, .Name y py, .Name z pz] kt pt] (.Tuple [a, b, d] k2 pt2) X.env = pure (some [x, y, z]))
    (hs : swapsWithSole [.Tuple [.Name x px, .Name y py, .Name z pz] kt pt] (.Tuple [a, b, d] k2 pt2) pos.line X.env = pure false) :
    Ms X cl W c (.Assign [.Tuple [.Name x px, .Name y py, .Name z pz] kt pt] (.Tuple [a, b, d] k2 pt2) pos) (.par [i, j, l] [ta, tb, td]) := by
  refine PS.imp (ps_par3 hc hN hi hj hl hij hil hjl hx hy hz ha hw hs) fun D σ H h => ?_
  obtain ⟨ρ, en, μ, h1, h2, h3⟩ := h
  dsimp only at h3
  rw [exec] at h3
  refine tA.goS ⟨h1, h2⟩ h3 fun vs H1 ρ1 ds μ1 t1 a1 r1 h4 => ?_
  cases q : bindTs ([i, j, l].map Tg.nm) ds en with
  | none => rw [q] at h4; exact h4.elim
  | some e' =>
    rw [q] at h4
    cases r1 with
    | nil => simp [bindTs] at q
    | cons r rs =>
      cases rs with
      | nil => simp [bindTs, bindT] at q
      | cons r' rs =>
        cases rs with
        | nil => simp [bindTs, bindT] at q
        | cons r'' rs =>
          cases rs with
          | cons _ _ => simp [bindTs, bindT] at q
          | nil =>
            simp only [List.map_cons, List.map_nil, bindTs, bindT, Option.bind_eq_some_iff] at q
            obtain ⟨e1, q1, e2, q2, e3, q3, q4⟩ := q
            split at q1
            · cases q1
              split at q2
              · cases q2
                split at q3
                · cases q3
                  cases q4
                  exact ⟨_, _, _, rfl, h4 ρ1 H1 _ Tr.refl (((a1.env.set r i).set r' j).set r'' l) a1.mem⟩
                · cases q3
              · cases q2
            · cases q1
end
end Py
end

section
set_option Elab.async false
set_option linter.all false
set_option maxRecDepth 100000
set_option maxHeartbeats 400000
/-! PyPar: a, b = x, y through a tuple (cells among the names). -/
namespace Py
open PySem L2 PyProof.Rows
open PySem (Str)
variable [Tabs]
section
variable {X : Cx} {cl : Nat → Addr} {W : WX} {c : Cfg}
theorem ms_parU {i j : Nat} {x y : Str} {a b : Expr} {ta tb : C} {px py pt p2 pos : Pos} {kt k2 : Nat} (hc : X.calm = true) (hN : X.N.Nodup) (hi : X.N[i]? = some x) (hj : X.N[j]? = some y)
    (hx : Loc X.env.scope x) (hy : Loc X.env.scope y) (fx : X.fn x = true ∨ X.env.scope.names.lookup x = some .local) (fy : X.fn y = true ∨ X.env.scope.names.lookup y = some .local) (ha : Ma X cl W c [a, b] [ta, tb])
    (hs : swapsWithSole [.Tuple [.Name x px, .Name y py] kt pt] (.Tuple [a, b] k2 p2) pos.line X.env = pure false)
    (hw : swappedStores [.Tuple [.Name x px, .Name y py] kt pt] (.Tuple [a, b] k2 p2) X.env = pure none) :
    Ms X cl W c (.Assign [.Tuple [.Name x px, .Name y py] kt pt] (.Tuple [a, b] k2 p2) pos) (.par [i, j] [ta, tb]) := by
  refine PS.imp (ps_asg (pe_tup ha) (pg_tup hc (pgs_cons (pg_name hN hi hx fx) (pgs_cons (pg_name hN hj hy fy) pgs_nil)) (n := 2)) hs hw rfl) fun D σ H h => ?_
  obtain ⟨ρ, en, μ, h1, h2, h3⟩ := h
  dsimp only at h3
  rw [exec] at h3
  refine tA.goS ⟨h1, h2⟩ h3 fun vs H1 ρ1 ds μ1 t1 a1 r1 h4 => ?_
  cases q : bindTs ([i, j].map Tg.nm) ds en with
  | none => rw [q] at h4; exact h4.elim
  | some e' =>
    rw [q] at h4
    cases r1 with
    | nil => simp [bindTs] at q
    | cons r rs =>
      cases rs with
      | nil => simp [bindTs, bindT] at q
      | cons r' rs =>
        cases rs with
        | cons _ _ => simp [bindTs, bindT] at q
        | nil =>
          simp only [List.map_cons, List.map_nil, bindTs, bindT, Option.bind_eq_some_iff] at q
          obtain ⟨e1, q1, e2, q2, q3⟩ := q
          split at q1
          · cases q1
            split at q2
            · cases q2
              cases q3
              refine ⟨by rw [sizeLine_eq]; simp, fun p hp => ⟨p, _, rfl, .inl (.inl upd_same), rfl, _, _, rfl, _, _, rfl, rfl, ?_⟩⟩
              exact h4 ρ1 _ _ (Tr.new1 hp) (((a1.env.set r i).set r' j).tr (Tr.new1 hp)) (a1.mem.new1 hp)
            · cases q2
          · cases q1
end
end Py
end

section
set_option Elab.async false
set_option linter.all false
set_option maxRecDepth 100000
set_option maxHeartbeats 400000
/-! PyLoop: what is walked; for, while, o[i] = v. -/
namespace Py
open PySem L2 PyProof.Rows
open PySem (Str)
variable [Tabs]

/-! ### o[i] = v -/
section
variable {X : Cx} {cl : Nat → Addr} {W : WX} {c : Cfg}
theorem ixN_nat {n : Nat} {k : Int} (h0 : 0 ≤ k) (h1 : k.toNat < n) : ixN n k = some k.toNat := by
  unfold ixN
  rw [if_pos h0, if_pos (by omega)]
theorem PSet.or {t t' : TSet} (h : PSet X t) (h' : PSet X t') : PSet X (fun o i v H Q => t o i v H Q ∨ t' o i v H Q) := fun pins s σ H o i v ov iv u Q I r1 r2 r3 q => by
  rcases q with q | q
  · exact h pins s σ H o i v ov iv u Q I r1 r2 r3 q
  · exact h' pins s σ H o i v ov iv u Q I r1 r2 r3 q
/-- d[k] = v -/
def rSetD (X : Cx) : TSet := fun o i v H Q => ∃ ρ a es kvs k d, o = .ref a ∧ H a = some (DPhi a es) ∧ Ents X.K ρ H a kvs es ∧ RepP X.K ρ H k i ∧ keyOk k = true ∧ RepP X.K ρ H d v ∧ kvs.length < sizeLine ∧ (∀ u, Mo ρ ρ H (upd H a u)) ∧
  ∀ es', Ents X.K ρ (upd H a (DPhi a es')) a (dPut kvs k d) es' → Q (upd H a (DPhi a es'))
theorem dPut_len (kvs : List (D × D)) (k d : D) : (dPut kvs k d).length ≤ kvs.length + 1 := by
  unfold dPut; split <;> simp
theorem dphi_ok {P : Program} {w : World} {H : Hp} {h : Heap} {a : Addr} {es : Array DictEntry} {ep : Nat} (r : h.DictRaw a es ep) : ObjOk P w H h a (DPhi a es) :=
  ⟨⟨ep, r⟩, let ⟨o, ho, _⟩ := r; ⟨o, ho⟩, fun _ _ ⟨ep, r⟩ k => ⟨ep, r.at k⟩⟩
theorem set_dict (hu : X.A.units + 200 < cLine) (hw : X.w = Tabs.wd) : PSet X (rSetD X) := by
  intro pins s σ H o i v ov iv u Q I ro ri rv h
  obtain ⟨ρ, a, es, kvs, k, d, rfl, ha, ents, rk, ko, rd, hl, mo, q⟩ := h
  cases ro
  obtain ⟨xs, x1, x2, x3⟩ := ents.dict I hw (dphi_raw I (.inl ha))
  obtain ⟨kb, rfl, rfl, ki⟩ := rk.view.keyIs I ri ko
  have lx : xs.length = kvs.length := (XR.len x2).symm
  refine wpAny_setItem_heap (hsz := by omega) (show X.A.in1.units + 8 < cLine by show X.A.units + 1 + 8 < cLine; omega) ki x3 fun h' dd' hs => ?_
  obtain ⟨o', es', ep', ho', hx', hd', he', _, hn'⟩ := dd'
  have p2 := XR.put ko rk rd rv x2
  have raw' : h'.DictRaw a es' ep' := ⟨o', ho', hx', hd'⟩
  have I' : Inv X pins σ (upd H a (DPhi a es')) { s with heap := h', toks := s.toks + (nestedKind X.prog X.w).draws (nkey k) } :=
    I.write (x := a) (e := a) (by rw [ha]; exact True.intro) (.inl rfl) (fun b u hb z => (hs.2 b hb).trans z) ⟨o', ho'⟩ (dphi_ok raw')
  refine ⟨_, I', q es' ⟨ents.sys, ?_, ?_, ?_⟩⟩
  · have z : es'.size = (storedH xs (nkey k) kb u).length := by rw [← Array.length_toList, he', List.length_map]
    have z2 := XR.len p2
    have z3 := dPut_len kvs k d
    omega
  · have e2 : es'.toList = (storedH xs (nkey k) kb u).map entX := by
      rw [he']
      have : (entX : NestedKey × Addr × Value → DictEntry) = entryOfKey (nestedKind X.prog X.w) := by
        funext y
        show (⟨y.1.hash Tabs.wd, .ref y.2.1, y.2.2⟩ : DictEntry) = ⟨y.1.hash X.w, .ref y.2.1, y.2.2⟩
        rw [hw]
      rw [this]
    rw [e2]
    exact (EntRs.of p2).mono (mo _)
  · rw [← XR.keys p2]; exact hn'
theorem dctAt_some {m : Mem} {d : D} {l : Nat} {kvs : List (D × D)} (h : dctAt m d = some (l, kvs)) : d = .ref l ∧ m[l]? = some (.dtp kvs) := by
  cases d with
  | ref l' =>
    simp only [dctAt] at h
    split at h
    · rename_i q
      cases h
      exact ⟨rfl, q⟩
    · cases h
  | _ => cases h
theorem ms_setix (hu : X.A.units + 200 < cLine) (hwd : X.w = Tabs.wd) {o i e : Expr} {to ti te : C} {tpos pos : Pos} (he : Me X cl W c e te) (ho : Me X cl W c o to) (hi : Me X cl W c i ti)
    (ha : ∀ v, assign (.Subscript o i tpos) X.env v = (do
      let ov ← holding [v] (eval o X.env)
      let iv ← holding [v, ov] (eval i X.env)
      standAt tpos
      holding [v, ov, iv] (setItem ov iv v)
      release [v, ov, iv] []))
    (hs : swapsWithSole [.Subscript o i tpos] e pos.line X.env = pure false) (hw : swappedStores [.Subscript o i tpos] e X.env = pure none)
    (h1 : (assignEach [.Subscript o i tpos] X.env).map (·.2) = [assign (.Subscript o i tpos) X.env]) : Ms X cl W c (.Assign [.Subscript o i tpos] e pos) (.setix to ti te) := by
  refine PS.imp (ps_asg he (pg_sub ho hi (PSet.or (set_dict hu hwd) set_list) ha) hs hw h1) fun D σ H h => ?_
  obtain ⟨ρ, en, μ, h1, h2, h3⟩ := h
  dsimp only at h3
  rw [exec] at h3
  refine tE.goS ⟨h1, h2⟩ h3 fun v H1 ρ1 d μ1 t1 a1 r1 h4 => ?_
  refine tE.goS a1 h4 fun x H2 ρ2 dx μ2 t2 a2 r2 h5 => ?_
  refine tE.goS a2 h5 fun y H3 ρ3 dy μ3 t3 a3 r3 h6 => ?_
  have r1 := (r1.tr t2).tr t3
  have r2 := r2.tr t3
  simp only [setD] at h6
  cases hk : dctAt μ3 dx with
  | some p =>
    obtain ⟨l, kvs⟩ := p
    rw [hk] at h6
    simp only at h6
    obtain ⟨rfl, hm⟩ := dctAt_some hk
    cases qd : der μ3 dy with
    | none => rw [qd] at h6; exact h6.elim
    | some k =>
      rw [qd] at h6
      simp only at h6
      by_cases ko : keyOk k = true ∧ plainK d = true ∧ fits kvs.length = true
      · rw [if_pos ko] at h6
        obtain ⟨a, es, e1, e2, ents⟩ := a3.mem.cell l _ hm
        obtain ⟨o, q1, q2⟩ := r2
        rw [e1] at q1
        have ex := q2 a (Option.some.inj q1).symm
        obtain ⟨⟨zs, ez⟩, _⟩ := keyOk_parts ko.1
        subst ez
        have ey := der_tup a3.mem r3 qd
        subst ey
        have rd : RepP X.K ρ3 H3 d v := by
          cases d <;> first | exact r1 | (simp [plainK] at ko)
        refine .inl ⟨ρ3, a, es, kvs, _, d, ex, e2, ents, r3, ko.1, rd, ?_, fun u => mo_write a3.mem e1, fun es' ents' => ?_⟩
        · exact fits_lt ko.2.2
        · have tw := tr_write (o := DPhi a es') a3.mem e1
          exact h6 ρ3 _ σ tw (a3.env.tr tw) (mem_writeC a3.mem e1 e2 noT_dphi ⟨a, es', e1, upd_same, ents'⟩)
      · rw [if_neg ko] at h6; exact h6.elim
  | none =>
  rw [hk] at h6
  simp only [setS] at h6
  refine .inr ?_
  cases dx with
  | ref l =>
    cases dy with
    | int k =>
      cases q : settle d μ3 with
      | none => rw [q] at h6; exact h6.elim
      | some p =>
        obtain ⟨d', m4⟩ := p
        rw [q] at h6
        dsimp only at h6
        obtain ⟨ρ4, t4, x4, p4⟩ := settle_ok a3.mem r1 q
        cases qc : cellL m4 l with
        | none => rw [qc] at h6; exact h6.elim
        | some xs =>
          rw [qc] at h6
          dsimp only at h6
          obtain ⟨a, vs, rfl, e1, e2, e3⟩ := ref_at x4 (r2.tr t4) qc
          by_cases h0 : 0 ≤ k
          · rw [if_pos h0] at h6
            by_cases hl : k.toNat < xs.length
            · rw [if_pos hl] at h6
              refine ⟨a, vs, k, k.toNat, rfl, r3.isI, e2, ixN_nat h0 (by rw [← e3.length]; exact hl), ?_⟩
              have tw := tr_write (o := .lst (vs.set k.toNat v)) x4 e1
              exact h6 ρ4 _ σ (t4.trans tw) ((a3.env.tr t4).tr tw) (mem_write x4 e1 (e3.set p4 k.toNat) e2)
            · rw [if_neg hl] at h6; exact h6.elim
          · rw [if_neg h0] at h6; exact h6.elim
    | _ => exact h6.elim
  | _ => exact h6.elim

/-! ### while -/
theorem passOf {Y : Cx} (h : PassesOwn (model Y.prog Y.w) Y.A Y.env Y.xe) : PassesOwn (model Y.prog Y.w) Y.A Y.env Y.xe := h
theorem ms_while {e : Expr} {body : List Stmt} {t : C} {tb : List S} {pos : Pos} (hp : PassesOwn (model X.prog X.w) X.A X.env X.xe) (hc : Mt X cl W c e t) (hb : Mb X cl W c body tb) : Ms X cl W c (.While e body [] pos) (.whl t tb) := by
  refine PS.imp (ps_while hp hc hb) fun D σ H h => ?_
  obtain ⟨ρ, en, μ, h1, h2, h3⟩ := h
  dsimp only at h3
  rw [exec] at h3
  refine ⟨fun n σ H => ∃ ρ e μ, EnvOk X.K ρ H e σ ∧ MemOk X.K ρ H μ ∧ SG X.K cl W ρ H D (whlL (fun e m => asBool (ev c e t m)) (fun e m => execs c tb e m) n e μ), ⟨c.W, ρ, en, μ, h1, h2, h3⟩, ?_⟩
  rintro n σ1 H1 ⟨ρ1, e1, μ1, g1, g2, g3⟩
  cases n with
  | zero => rw [whlL] at g3; exact g3.elim
  | succ n =>
    rw [whlL] at g3
    refine tT.goS ⟨g1, g2⟩ g3 fun k H2 ρ2 μ2 t2 a2 h4 => ?_
    cases k with
    | false =>
      rw [if_neg Bool.false_ne_true] at h4 ⊢
      exact h4 ρ2 H2 σ1 Tr.refl a2.env a2.mem
    | true =>
      rw [if_pos rfl] at h4 ⊢
      refine ⟨fun σ H => ∃ ρ e μ, EnvOk X.K ρ H e σ ∧ MemOk X.K ρ H μ ∧ SG X.K cl W ρ H D (whlL (fun e m => asBool (ev c e t m)) (fun e m => execs c tb e m) n e μ), fun σ' H' q => ⟨n, Nat.lt_succ_self n, q⟩, ρ2, e1, μ2, a2.env, a2.mem, ?_⟩
      exact SG.turn h4 fun e' m' ρ' H' σ' t' E x q => ⟨ρ', e', m', E, x, q⟩

end
/-! ### what is walked -/
structure Walk (K : PySem.W.Frag) (J : It) (P : Rho → Hp → Prop) (xs : List D) : Prop where
  keep : ∀ ρ ρ' H H', P ρ H → Mo ρ ρ' H H' → P ρ' H'
  go : ∀ ρ H (i : Nat), P ρ H → i < xs.length → J.go i H
  yld : ∀ ρ H (i : Nat) x H' μ, i < xs.length → P ρ H → MemOk K ρ H μ → J.yld i H x H' → ∃ d, xs[i]? = some d ∧ Tr ρ ρ H H' ∧ MemOk K ρ H' μ ∧ Rep K ρ H' d x
  stop : ∀ ρ H, P ρ H → J.stop xs.length H
theorem LstAt.mo {K : PySem.W.Frag} {ρ ρ1 : Rho} {H H1 : Hp} {a : Addr} {vs : List V} (t : Mo ρ ρ1 H H1) (h : LstAt K ρ H a vs) : LstAt K ρ1 H1 a vs := h.imp (fun q => t.rd q.1 q.2 noT_lst) id
theorem TupAt.mo {K : PySem.W.Frag} {ρ ρ1 : Rho} {H H1 : Hp} {a : Addr} {vs : List V} (t : Mo ρ ρ1 H H1) (h : TupAt K ρ H a vs) : TupAt K ρ1 H1 a vs := h.imp (fun q => t.rd q.1 q.2 noT_tup) id
theorem walk_lst {K : PySem.W.Frag} {a : Addr} {vs : List V} {xs : List D} : Walk K (Itl K a) (fun ρ H => LstAt K ρ H a vs ∧ RepPs K ρ H xs vs) xs where
  keep := fun ρ ρ' H H' p t => ⟨p.1.mo t, p.2.mono t⟩
  go := fun ρ H i p hi => ⟨vs, vs[i]'(by rw [← p.2.length]; exact hi), p.1.sq, List.getElem?_eq_getElem _⟩
  yld := fun ρ H i x H' μ hi p mo y => by
    obtain ⟨rfl, y⟩ := y
    obtain ⟨d, e, r⟩ := p.2.getV (y vs p.1.sq)
    exact ⟨d, e, Tr.refl, mo, r.rep⟩
  stop := fun ρ H p => ⟨vs, p.1.sq, by rw [p.2.length]; exact Nat.le_refl _⟩
theorem walk_tup {K : PySem.W.Frag} {a : Addr} {vs : List V} {xs : List D} : Walk K (Itt K a) (fun ρ H => TupAt K ρ H a vs ∧ RepPs K ρ H xs vs) xs where
  keep := fun ρ ρ' H H' p t => ⟨p.1.mo t, p.2.mono t⟩
  go := fun ρ H i p hi => ⟨vs, vs[i]'(by rw [← p.2.length]; exact hi), p.1.sq, List.getElem?_eq_getElem _⟩
  yld := fun ρ H i x H' μ hi p mo y => by
    obtain ⟨rfl, y⟩ := y
    obtain ⟨d, e, r⟩ := p.2.getV (y vs p.1.sq)
    exact ⟨d, e, Tr.refl, mo, r.rep⟩
  stop := fun ρ H p => ⟨vs, p.1.sq, by rw [p.2.length]; exact Nat.le_refl _⟩
theorem rng_len {a : Int} {n : Nat} : (rng a n).length = n := by simp [rng]
theorem rng_at {a : Int} {n i : Nat} (h : i < n) : (rng a n)[i]? = some (.int (a + (i : Int))) := by
  unfold rng
  rw [List.getElem?_map, List.getElem?_range h]
  rfl
theorem rngDown_len {a : Int} {n : Nat} : (rngDown a n).length = n := by simp [rngDown]
theorem rngDown_at {a : Int} {n i : Nat} (h : i < n) : (rngDown a n)[i]? = some (.int (a - (i : Int))) := by
  unfold rngDown
  rw [List.getElem?_map, List.getElem?_range h]
  rfl
theorem walk_rng {K : PySem.W.Frag} {a : Int} {n : Nat} : Walk K (Itr a n) (fun _ _ => True) (rng a n) where
  keep := fun _ _ _ _ _ _ => trivial
  go := fun ρ H i _ hi => by rw [rng_len] at hi; exact hi
  yld := fun ρ H i x H' μ hi _ mo y => by
    obtain ⟨rfl, rfl⟩ := y
    rw [rng_len] at hi
    exact ⟨_, rng_at hi, Tr.refl, mo, RepP.int _⟩
  stop := fun ρ H _ => by rw [rng_len]; exact Nat.le_refl _
theorem walk_down {K : PySem.W.Frag} {a : Int} {n : Nat} : Walk K (Itc a (-1) n) (fun _ _ => True) (rngDown a n) where
  keep := fun _ _ _ _ _ _ => trivial
  go := fun ρ H i _ hi => by rw [rngDown_len] at hi; exact hi
  yld := fun ρ H i x H' μ hi _ mo y => by
    obtain ⟨rfl, rfl⟩ := y
    rw [rngDown_len] at hi
    refine ⟨_, rngDown_at hi, Tr.refl, mo, ?_⟩
    have e : a + (i : Int) * (-1) = a - (i : Int) := by omega
    rw [e]
    exact RepP.int _
  stop := fun ρ H _ => by rw [rngDown_len]; exact Nat.le_refl _
/-- the items, in memory -/
def itemsR (c : Cfg) (en : Env) (k : IK) (its : List C) (μ : Mem) : R (List D) := (evs c en its μ).bind fun ds m1 => match itemsOf k ds m1 with
  | none => .no
  | some xs => .ok xs m1
def RlW (K : PySem.W.Frag) : Rho → Hp → List D → It → Prop := fun ρ H xs J => ∃ P, Walk K J P xs ∧ P ρ H
section
variable (X : Cx) (cl : Nat → Addr) (W : WX)
def tI (m : Env → Mem → R (List D)) : TI := fun σ H Q => ∃ ρ e μ, EnvOk X.K ρ H e σ ∧ MemOk X.K ρ H μ ∧ RG (RlW X.K) X.K cl (fun c d => W c d σ) ρ H Q (m e μ)
abbrev Mi (c : Cfg) (tg e : Expr) (k : IK) (its : List C) : Prop := PI X tg e (tI X cl W fun en μ => itemsR c en k its μ)
end
section
variable {X : Cx} {cl : Nat → Addr} {W : WX} {c : Cfg}
theorem PI.imp {tg e : Expr} {t t' : TI} (h : PI X tg e t) (k : ∀ σ H Q, t' σ H Q → t σ H Q) : PI X tg e t' := ⟨fun pins s σ H Q I q => h.run pins s σ H Q I (k σ H Q q)⟩
theorem itemsR_one {en : Env} {k : IK} {t : C} {μ : Mem} : itemsR c en k [t] μ = (ev c en t μ).bind fun d m1 => match itemsOf k [d] m1 with
  | none => .no
  | some xs => .ok xs m1 := by
  unfold itemsR
  rw [evs_one]
/-- a list or a tuple -/
def iSeq (K : PySem.W.Frag) (tl : TE) : TI := fun σ H R => tl σ H fun x H1 => ∃ a, x = .ref a ∧ (((∃ xs, SqL K H1 a xs) ∧ R (Itl K a) H1) ∨ ((∃ xs, SqT K H1 a xs) ∧ R (Itt K a) H1))
theorem pi_seq {tg l : Expr} {tl : TE} (hl : PE X l tl) : PI X tg l (iSeq X.K tl) := by
  refine ⟨fun pins s σ H R I h => ?_⟩
  refine thn (hl.run pins s σ H _ I h) fun v s1 ⟨x, H1, I1, r1, q1⟩ => ?_
  obtain ⟨a, e, q1⟩ := q1
  subst e
  cases r1
  rcases q1 with ⟨⟨xs, hq⟩, q⟩ | ⟨⟨xs, hq⟩, q⟩
  · obtain ⟨its, rv, p, hz⟩ := I1.list hq
    refine wpAny_pyIter_list p.isList ?_
    refine ⟨s1.heap.objs.size, [s1.heap.objs.size], _, _, H1, rfl, I1.kept (t' := s1.toks) fun b o e => Heap.get?_push_of_some _ e, turn_list a _, ⟨_, Heap.get?_push_size _ rfl, rfl, rfl⟩, fun b hb => ?_, q⟩
    have e : b = s1.heap.objs.size := by simpa using hb
    subst e
    exact I1.fpOk (Nat.le_refl _) (I1.hok.fresh (Nat.le_refl _))
  · obtain ⟨its, rv, p, hz⟩ := I1.tuple hq
    refine wpAny_pyIter_tuple (show s1.heap.IsTuple a its.toArray from p) ?_
    refine ⟨s1.heap.objs.size, [s1.heap.objs.size], _, _, H1, rfl, I1.kept (t' := s1.toks) fun b o e => Heap.get?_push_of_some _ e, turn_tuple a _, ⟨_, Heap.get?_push_size _ rfl, rfl, rfl⟩, fun b hb => ?_, q⟩
    have e : b = s1.heap.objs.size := by simpa using hb
    subst e
    exact I1.fpOk (Nat.le_refl _) (I1.hok.fresh (Nat.le_refl _))
theorem mi_seq {tg e : Expr} {t : C} (h : Me X cl W c e t) : Mi X cl W c tg e .seq [t] := by
  refine PI.imp (pi_seq h) fun σ H Q h => ?_
  obtain ⟨ρ, en, μ, h1, h2, h3⟩ := h
  dsimp only at h3
  rw [itemsR_one] at h3
  refine tE.go ⟨h1, h2⟩ h3 fun x H1 ρ1 dx μ1 t1 a1 r1 h4 => ?_
  cases dx with
  | lst xs =>
    cases r1 with
    | lst k1 k2 => exact ⟨_, rfl, .inl ⟨⟨_, k1.sq⟩, RG.val h4 a1.mem ⟨_, walk_lst, .inl ⟨k1.1, .inl k1.2⟩, k2⟩⟩⟩
  | tup xs =>
    cases r1 with
    | tup k1 k2 => exact ⟨_, rfl, .inr ⟨⟨_, k1.sq⟩, RG.val h4 a1.mem ⟨_, walk_tup, k1, k2⟩⟩⟩
  | lck d =>
    cases d with
    | lst xs =>
      obtain ⟨a, vs, rfl, k1, k2⟩ := r1
      exact ⟨_, rfl, .inl ⟨⟨_, k1.sq⟩, RG.val h4 a1.mem ⟨_, walk_lst, k1, k2⟩⟩⟩
    | dtp kvs => exact nomatch r1
    | _ => exact h4.elim
  | _ => exact h4.elim
theorem okB_of {i : Int} (h : okB i = true) : -(2 ^ 62) ≤ i ∧ i < 2 ^ 62 := by
  unfold okB at h
  have := of_decide_eq_true h
  constructor <;> omega
theorem mi_rng1 {tg a : Expr} {t : C} {p pos : Pos} (hg : Gl X "range") (hm : X.mg "range" = none) (ha : Ma X cl W c [a] [t]) (hs : starEach [a] X.env = [(false, eval a X.env)]) : Mi X cl W c tg (.Call (.Name "range" p) [a] [] pos) .rng1 [t] := by
  refine PI.imp (pi_range1 hg hm ha hs) fun σ H Q h => ?_
  obtain ⟨ρ, en, μ, h1, h2, h3⟩ := h
  refine tA.go (f := fun ds m1 => match itemsOf .rng1 ds m1 with | none => .no | some xs => .ok xs m1) ⟨h1, h2⟩ h3 fun vs H1 ρ1 ds μ1 t1 a1 r1 h4 => ?_
  cases ds with
  | nil => exact h4.elim
  | cons d ds =>
    cases ds with
    | cons _ _ => cases d <;> exact h4.elim
    | nil =>
      cases d with
      | int n =>
        simp only [itemsOf] at h4
        by_cases ho : okB n = true
        · rw [if_pos ho] at h4
          obtain ⟨v, rfl, r⟩ := r1.one
          refine ⟨n, by rw [r.isI], (okB_of ho).1, (okB_of ho).2, RG.val h4 a1.mem ⟨_, walk_rng, trivial⟩⟩
        · rw [if_neg ho] at h4; exact h4.elim
      | _ => exact h4.elim
theorem mi_rng2 {tg a b : Expr} {t u : C} {p pos : Pos} (hg : Gl X "range") (hm : X.mg "range" = none) (ha : Ma X cl W c [a, b] [t, u]) (hs : starEach [a, b] X.env = [(false, eval a X.env), (false, eval b X.env)]) (hs2 : starEach [b] X.env = [(false, eval b X.env)]) : Mi X cl W c tg (.Call (.Name "range" p) [a, b] [] pos) .rng2 [t, u] := by
  refine PI.imp (pi_range2 hg hm ha hs hs2) fun σ H Q h => ?_
  obtain ⟨ρ, en, μ, h1, h2, h3⟩ := h
  refine tA.go (f := fun ds m1 => match itemsOf .rng2 ds m1 with | none => .no | some xs => .ok xs m1) ⟨h1, h2⟩ h3 fun vs H1 ρ1 ds μ1 t1 a1 r1 h4 => ?_
  have key : ∀ ds : List D, (∀ i j, ds ≠ [.int i, .int j]) → itemsOf .rng2 ds μ1 = none := fun ds hne => by
    unfold itemsOf
    split <;> first | rfl | (exfalso; first | exact hne _ _ rfl | contradiction)
  by_cases hd : ∃ i j, ds = [.int i, .int j]
  · obtain ⟨i, j, rfl⟩ := hd
    simp only [itemsOf] at h4
    by_cases ho : (okB i && okB j) = true
    · rw [if_pos ho] at h4
      rw [Bool.and_eq_true] at ho
      obtain ⟨v, w, rfl, r, r'⟩ := r1.two
      exact ⟨i, j, by rw [r.isI, r'.isI], ⟨(okB_of ho.1).1, (okB_of ho.1).2, (okB_of ho.2).1, (okB_of ho.2).2⟩, RG.val h4 a1.mem ⟨_, walk_rng, trivial⟩⟩
    · rw [if_neg ho] at h4; exact h4.elim
  · rw [key ds fun i j e => hd ⟨i, j, e⟩] at h4
    exact h4.elim
theorem mi_rng3 {tg a b d : Expr} {t u w : C} {p pos : Pos} (hg : Gl X "range") (hm : X.mg "range" = none) (ha : Ma X cl W c [a, b, d] [t, u, w]) (hs : starEach [a, b, d] X.env = (false, eval a X.env) :: starEach [b, d] X.env) (hpl : (backTo pos (starEach [b, d] X.env)).any (·.1) = false) : Mi X cl W c tg (.Call (.Name "range" p) [a, b, d] [] pos) .rng3 [t, u, w] := by
  refine PI.imp (pi_range3 hg hm ha hs hpl) fun σ H Q h => ?_
  obtain ⟨ρ, en, μ, h1, h2, h3⟩ := h
  refine tA.go (f := fun ds m1 => match itemsOf .rng3 ds m1 with | none => .no | some xs => .ok xs m1) ⟨h1, h2⟩ h3 fun vs H1 ρ1 ds μ1 t1 a1 r1 h4 => ?_
  have key : ∀ ds : List D, (∀ i j, ds ≠ [.int i, .int j, .int (-1)]) → itemsOf .rng3 ds μ1 = none := fun ds hne => by
    unfold itemsOf
    split <;> first | rfl | (exfalso; first | exact hne _ _ rfl | contradiction)
  by_cases hd : ∃ i j, ds = [.int i, .int j, .int (-1)]
  · obtain ⟨i, j, rfl⟩ := hd
    simp only [itemsOf] at h4
    by_cases ho : (okB i && okB j) = true
    · rw [if_pos ho] at h4
      rw [Bool.and_eq_true] at ho
      cases r1 with
      | cons r rs =>
        obtain ⟨v, w, rfl, r', r''⟩ := rs.two
        exact ⟨i, j, -1, _, by rw [r.isI, r'.isI, r''.isI], RgC.neg (okB_of ho.1).1 (okB_of ho.1).2 (okB_of ho.2).1 (okB_of ho.2).2, RG.val h4 a1.mem ⟨_, walk_down, trivial⟩⟩
    · rw [if_neg ho] at h4; exact h4.elim
  · rw [key ds fun i j e => hd ⟨i, j, e⟩] at h4
    exact h4.elim
/-! ### for -/
theorem ms_for {tg e : Expr} {body : List Stmt} {t : Tg} {k : IK} {its : List C} {tb : List S} {pos : Pos} (hp : PassesOwn (model X.prog X.w) X.A X.env X.xe) (hc : X.calm = true) (hi : Mi X cl W c tg e k its) (hg : Mg X tg t) (hb : Mb X cl W c body tb)
    (hs : ∀ x, foldedSetIterable e X.env x = pure x) : Ms X cl W c (.For tg e body [] pos) (.for_ t k its tb) := by
  refine PS.imp (ps_for hp hc hi hg hb hs) fun D σ H h => ?_
  obtain ⟨ρ, en, μ, h1, h2, h3⟩ := h
  dsimp only at h3
  have e1 : exec c (.for_ t k its tb) en μ = (itemsR c en k its μ).out en fun xs m1 => forL t (fun e m => execs c tb e m) xs en m1 := by
    rw [exec]
    unfold itemsR
    cases evs c en its μ with
    | ok ds m1 =>
      simp only [R.out_ok, R.bind_ok]
      cases itemsOf k ds m1 <;> rfl
    | ex _ _ => rfl
    | no => rfl
  rw [e1] at h3
  refine ⟨ρ, en, μ, h1, h2, (SG.out (Rm := RlW X.K) h3 h1).mono fun J H1 ⟨ρ1, xs, μ1, t1, ⟨P, wk, p1⟩, x1, q⟩ => ?_⟩
  refine ⟨fun i m σ H => m = xs.length - i ∧ i ≤ xs.length ∧ ∃ ρ e μ, EnvOk X.K ρ H e σ ∧ MemOk X.K ρ H μ ∧ P ρ H ∧ SG X.K cl W ρ H D (forL t (fun e m => execs c tb e m) (xs.drop i) e μ),
    ⟨xs.length, rfl, Nat.zero_le _, ρ1, en, μ1, h1.tr t1, x1, p1, q⟩, ?_⟩
  rintro i m σ2 H2 ⟨rfl, hi, ρ2, e2, μ2, g1, g2, g3, g4⟩
  by_cases hlt : i < xs.length
  · refine .inr ⟨wk.go ρ2 H2 i g3 hlt, fun σ H => i + 1 ≤ xs.length ∧ ∃ ρ e μ, EnvOk X.K ρ H e σ ∧ MemOk X.K ρ H μ ∧ P ρ H ∧ SG X.K cl W ρ H D (forL t (fun e m => execs c tb e m) (xs.drop (i + 1)) e μ), fun σ' H' ⟨q1, q2⟩ => ⟨xs.length - (i + 1), by omega, rfl, q1, q2⟩, fun x H' y => ?_⟩
    obtain ⟨d, hd, t3, x3, r3⟩ := wk.yld ρ2 H2 i x H' μ2 hlt g3 g2 y
    rw [List.drop_eq_getElem_cons hlt] at g4
    have ed : xs[i] = d := by rw [List.getElem?_eq_getElem hlt] at hd; exact Option.some.inj hd
    rw [ed] at g4
    rw [forL] at g4
    cases qb : bindT t d e2 with
    | none => rw [qb] at g4; exact g4.elim
    | some e3 =>
      rw [qb] at g4
      refine ⟨ρ2, e2, μ2, d, g1.tr t3, x3, r3, e3, qb, fun σ' E' _ => ?_⟩
      refine ⟨ρ2, e3, μ2, E', x3, ?_⟩
      exact SG.turn (SG.tr t3 g4) fun e4 m4 ρ4 H4 σ4 t4 E4 x4 q4 => ⟨hlt, ρ4, e4, m4, E4, x4, wk.keep _ _ _ _ (wk.keep _ _ _ _ g3 t3.mo) t4.mo, q4⟩
  · have e : i = xs.length := by omega
    subst e
    rw [List.drop_length, forL] at g4
    exact .inl ⟨wk.stop ρ2 H2 g3, g4 ρ2 H2 σ2 Tr.refl g1 g2⟩
end
end Py
end

section
set_option Elab.async false
set_option linter.all false
set_option maxRecDepth 100000
set_option maxHeartbeats 400000
/-! PyDit: a settled dict is walked. -/
namespace Py
open PySem L2 PyProof.Rows
open PySem (Str)
variable [Tabs]
def ItD (a : Addr) (es : Array DictEntry) (ep : Nat) : It :=
  ⟨fun i H => i < es.size ∧ (∃ o, H a = some (.frz o (DPhi a es)) ∧ o.data = .dict es ep) ∧ ∀ e, es[i]? = some e → ∃ b, e.key = .ref b,
   fun i H x H' => H' = H ∧ ∃ e b, es[i]? = some e ∧ e.key = .ref b ∧ x = .ref b,
   fun i H => es.size ≤ i ∧ ∃ o, H a = some (.frz o (DPhi a es)) ∧ o.data = .dict es ep⟩
theorem frz_raw {X : Cx} {pins : List (Addr × Obj)} {σ : L2.St} {H : Hp} {s : Shared} {a : Addr} {o : Obj} {es : Array DictEntry} {ep : Nat} (I : Inv X pins σ H s) (h : H a = some (.frz o (DPhi a es))) (hd : o.data = .dict es ep) : s.heap.DictRaw a es ep := by
  have h1 := (I.hok a _ h).1
  obtain ⟨ep', o', h3, h4, h5⟩ := (I.hok a _ h).2.1
  rw [h1] at h3
  cases h3
  exact ⟨o, h1, h4, hd⟩
theorem turn_dict {P : Program} {w : World} {K : PySem.W.Frag} {tg : Expr} (a it : Addr) (es : Array DictEntry) (ep : Nat) : Turn P w K tg (ItD a es ep) [it] it (fun i h => h.IsKeyIter it a i es.size ep) where
  mem := by simp
  obj := fun i h st b hb => by
    have e : b = it := by simpa using hb
    subst e
    obtain ⟨o, e, c, d⟩ := st
    exact ⟨o, e, fun v z => by rw [d] at z; cases z⟩
  keep := fun i h h' st k => by
    obtain ⟨o, e, c, d⟩ := st
    exact ⟨o, k it (by simp) o e, c, d⟩
  item := by
    intro X hP hw hK hc i pins s σ H E I hf st hg
    subst hP hw hK
    obtain ⟨hi, ⟨o, ho, hd⟩, hk⟩ := hg
    have raw := frz_raw I ho hd
    obtain ⟨b, hb⟩ := hk es[i] (Array.getElem?_eq_getElem hi)
    obtain ⟨f0, f1, f2, f3, f4, f5⟩ := hf it (by simp)
    refine wpAny_pyNext_keys_item_raw st raw hi fun h' st' sb => ?_
    have I1 : Inv X pins σ H { s with heap := h' } := I.turned (t' := s.toks) (fun b o hb e => (sb.2 b hb).trans e) f0 f1 f3 f4 f5
    obtain ⟨o2, e2, c2, d2⟩ := id st'
    refine ⟨es[i].key, rfl, go_of (s := { s with heap := h' }) e2 c2 d2 (by decide) ⟨.ref b, H, I1, ?_, ⟨rfl, es[i], b, Array.getElem?_eq_getElem hi, hb, rfl⟩, st', fun b hb => (hf b hb).1⟩⟩
    rw [hb]; rfl
  done := by
    intro X hP hw hK hc i pins s σ H E I hf st hg
    subst hP hw hK
    obtain ⟨hi, o, ho, hd⟩ := hg
    have raw := frz_raw I ho hd
    obtain ⟨f0, f1, f2, f3, f4, f5⟩ := hf it (by simp)
    exact wpAny_pyNext_keys_end_raw (I.ok.hd hc) st raw hi fun h' eb => ⟨rfl, I.turned (t' := s.toks) (fun b o hb e => eb b o hb e) f0 f1 f3 f4 f5⟩
  self := fun _ _ _ _ _ st h => PySem.wpAny_pyIter_keyiter st h
section
variable {X : Cx} {cl : Nat → Addr} {W : WX} {c : Cfg}
/-- a dict, settled as it is walked -/
def iDct (tl : TE) : TI := fun σ H R => tl σ H fun x H1 => ∃ a es, x = .ref a ∧ (a == sysModules) = false ∧ H1 a = some (DPhi a es) ∧ ∀ o ep, o.data = .dict es ep → R (ItD a es ep) (upd H1 a (.frz o (DPhi a es)))
theorem pi_dict {tg l : Expr} {tl : TE} (hl : PE X l tl) : PI X tg l (iDct tl) := by
  refine ⟨fun pins s σ H R I h => ?_⟩
  refine thn (hl.run pins s σ H _ I h) fun v s1 ⟨x, H1, I1, r1, q1⟩ => ?_
  obtain ⟨a, es, e, hs, ha, q1⟩ := q1
  subst e
  cases r1
  obtain ⟨od, I2⟩ := I1.lock ha (by trivial)
  have k1 := (I2.hok a _ (upd_same)).1
  obtain ⟨ep, raw⟩ := (I1.hok a _ ha).1
  have hd : od.data = .dict es ep := by
    obtain ⟨o', h3, h4, h5⟩ := id raw
    rw [k1] at h3; cases h3; exact h5
  refine wpAny_pyIter_dict_raw hs raw ?_
  refine ⟨s1.heap.objs.size, [s1.heap.objs.size], _, _, upd H1 a (.frz od (DPhi a es)), rfl, I2.kept (t' := s1.toks) fun b o e => Heap.get?_push_of_some _ e, turn_dict a _ es ep, ⟨_, Heap.get?_push_size _ rfl, rfl, rfl⟩, fun b hb => ?_, q1 od ep hd⟩
  have e : b = s1.heap.objs.size := by simpa using hb
  subst e
  exact I2.fpOk (Nat.le_refl _) (I2.hok.fresh (Nat.le_refl _))
theorem EntRs.len {K : PySem.W.Frag} {ρ : Rho} {H : Hp} : ∀ {ps : List (D × D)} {es : List DictEntry}, EntRs K ρ H ps es → ps.length = es.length
  | _, _, .nil => rfl
  | _, _, .cons _ hs => by simp [hs.len]
theorem EntRs.get {K : PySem.W.Frag} {ρ : Rho} {H : Hp} : ∀ {ps : List (D × D)} {es : List DictEntry} {i : Nat} {e : DictEntry}, EntRs K ρ H ps es → es[i]? = some e → ∃ p, ps[i]? = some p ∧ EntR K ρ H p e
  | _, _, _, _, .nil, h => by simp at h
  | _, _, 0, _, .cons r _, h => by simp at h; subst h; exact ⟨_, rfl, r⟩
  | _, _, i + 1, _, .cons _ hs, h => by simp at h; exact hs.get h
theorem walk_dict {K : PySem.W.Frag} {a : Addr} {es : Array DictEntry} {ep : Nat} {kvs : List (D × D)} : Walk K (ItD a es ep) (fun ρ H => Fz ρ a ∧ (∃ o, H a = some (.frz o (DPhi a es)) ∧ o.data = .dict es ep) ∧ Ents K ρ H a kvs es) (kvs.map (·.1)) where
  keep := fun ρ ρ' H H' p t => by
    obtain ⟨f, ⟨o, h1, h2⟩, e⟩ := p
    have := t a _ f h1 noT_frz
    exact ⟨this.2, ⟨o, this.1, h2⟩, e.mono t⟩
  go := fun ρ H i p hi => by
    obtain ⟨f, h, e⟩ := p
    have hl := e.ents.len
    refine ⟨by simp at hi hl; omega, h, fun en he => ?_⟩
    obtain ⟨q, _, r⟩ := e.ents.get (i := i) (e := en) (by simpa using he)
    obtain ⟨b, hb, _⟩ := r.key
    exact ⟨b, hb⟩
  yld := fun ρ H i x H' μ hi p mo y => by
    obtain ⟨f, h, e⟩ := p
    obtain ⟨rfl, en, b, he, hk, rfl⟩ := y
    obtain ⟨q, hq, r⟩ := e.ents.get (i := i) (e := en) (by simpa using he)
    obtain ⟨b', hb, rb⟩ := r.key
    rw [hk] at hb; cases hb
    exact ⟨q.1, by simp [hq], Tr.refl, mo, rb.rep⟩
  stop := fun ρ H p => by
    obtain ⟨f, h, e⟩ := p
    have hl := e.ents.len
    exact ⟨by simp at hl ⊢; omega, h⟩
theorem mi_dict {tg e : Expr} {t : C} (h : Me X cl W c e t) : Mi X cl W c tg e .seq [.dkeys t] := by
  refine PI.imp (pi_dict h) fun σ H Q h => ?_
  obtain ⟨ρ, en, μ, h1, h2, h3⟩ := h
  dsimp only at h3
  rw [itemsR_one, ev, R.bind_assoc] at h3
  refine tE.go ⟨h1, h2⟩ h3 fun x H1 ρ1 dx μ1 t1 a1 r1 h4 => ?_
  cases dx with
  | ref l =>
    simp only [lockD] at h4
    split at h4
    · rename_i kvs hm
      obtain ⟨a, es, e1, e2, ents⟩ := a1.mem.cell l _ hm
      obtain ⟨o, q1, q2⟩ := r1
      rw [e1] at q1
      have ex := q2 a (Option.some.inj q1).symm
      refine ⟨a, es, ex, ents.sys, e2, fun ob ep hd => ?_⟩
      have tw := tr_write (o := .frz ob (DPhi a es)) a1.mem e1
      have mw := mem_writeC (u := .frz ob (DPhi a es)) (d' := .lck (.dtp kvs)) a1.mem e1 e2 noT_dphi ⟨a, es, ob, e1, upd_same, ents.mono (mo_write a1.mem e1)⟩
      have md := mem_drop (l := l) mw
      rw [List.set_set] at md
      refine h4 (ItD a es ep) _ _ (tw.trans (tr_drop (l := l))) ⟨_, walk_dict (ep := ep), ⟨fun i e' => ?_, a1.mem.apart l a e1⟩, ⟨ob, upd_same, hd⟩, (ents.mono (mo_write a1.mem e1)).mono mo_drop⟩ md
      obtain ⟨f1, f2⟩ := lo_set_ne e'
      exact f2 (a1.mem.one i l a f1 e1)
    · exact h4.elim
  | _ => exact h4.elim
end
end Py
end

section
set_option Elab.async false
set_option linter.all false
set_option maxRecDepth 100000
set_option maxHeartbeats 400000
/-! PyComp: list comprehensions. -/
namespace Py
open PySem L2 PyProof.Rows
open PySem (Str)
variable [Tabs]
/-- no exception wished -/
abbrev Wn : WX := fun _ _ _ _ => False
theorem tests_nil {c : Cfg} {en : Env} {μ : Mem} : tests c en [] μ = .ok true μ := by rw [tests]
theorem tests_one {c : Cfg} {en : Env} {t : C} {μ : Mem} : tests c en [t] μ = asBool (ev c en t μ) := by
  rw [tests]
  cases asBool (ev c en t μ) with
  | ok b m =>
    cases b with
    | true => simp only [R.bind_ok, if_true]; rw [tests]
    | false => simp only [R.bind_ok]; rfl
  | ex _ _ => rfl
  | no => rfl
theorem noEx_bind {α β : Type} (r : R α) (f : α → Mem → R β) : noEx (r.bind f) = (noEx r).bind fun a m => noEx (f a m) := by cases r <;> rfl
section
variable {K : PySem.W.Frag} {cl : Nat → Addr} {W : XK} {ρ : Rho} {H : Hp} {Q : VK}
/-- a part of a block's run: no exception -/
theorem RGF.part {α β γ : Type} {Rm : Rho → Hp → α → β → Prop} {r : R α} {g : α → Mem → R γ} {h : γ → Mem → R D} (hh : RGF K cl W ρ H Q ((noEx (r.bind g)).bind h)) (ρ' : Rho) (H' : Hp) :
    RG Rm K cl (fun _ _ _ => False) ρ' H' (fun v H1 => ∃ ρ1 a m1, Tr ρ' ρ1 H' H1 ∧ Rm ρ1 H1 a v ∧ MemOk K ρ1 H1 m1 ∧ RGF K cl W ρ H Q ((noEx (g a m1)).bind h)) r := by
  cases r with
  | ok a m => exact fun v ρ1 H1 t r x => ⟨ρ1, a, m, t, r, x, hh⟩
  | ex _ _ => exact hh.elim
  | no => exact hh.elim
end
section
variable {X : Cx} {cl : Nat → Addr} {W : WX} {c : Cfg}
theorem tE.goN {K' : PySem.W.Frag} {WF : XK} {ρ0 : Rho} {H0 : Hp} {Q : VK} {γ : Type} {m : Env → Mem → R D} {g : D → Mem → R γ} {h : γ → Mem → R D} {σ : L2.St} {ρ : Rho} {H : Hp} {e : Env} {μ : Mem} (a : At X σ ρ H e μ)
    (hh : RGF X.K cl WF ρ0 H0 Q ((noEx ((m e μ).bind g)).bind h)) {k : VK}
    (hk : ∀ v H1 ρ1 d μ1, Tr ρ ρ1 H H1 → At X σ ρ1 H1 e μ1 → Rep X.K ρ1 H1 d v → RGF X.K cl WF ρ0 H0 Q ((noEx (g d μ1)).bind h) → k v H1) : tE X cl Wn m σ H k :=
  ⟨ρ, e, μ, a.env, a.mem, (RGF.part (Rm := Rep X.K) hh ρ H).mono fun v H1 ⟨ρ1, d, m1, t, r, x, q⟩ => hk v H1 ρ1 d m1 t ⟨a.env.tr t, x⟩ r q⟩
theorem tT.goN {WF : XK} {ρ0 : Rho} {H0 : Hp} {Q : VK} {γ : Type} {m : Env → Mem → R Bool} {g : Bool → Mem → R γ} {h : γ → Mem → R D} {σ : L2.St} {ρ : Rho} {H : Hp} {e : Env} {μ : Mem} (a : At X σ ρ H e μ)
    (hh : RGF X.K cl WF ρ0 H0 Q ((noEx ((m e μ).bind g)).bind h)) {k : Bool → Hp → Prop}
    (hk : ∀ b H1 ρ1 μ1, Tr ρ ρ1 H H1 → At X σ ρ1 H1 e μ1 → RGF X.K cl WF ρ0 H0 Q ((noEx (g b μ1)).bind h) → k b H1) : tT X cl Wn m σ H k :=
  ⟨ρ, e, μ, a.env, a.mem, (RGF.part (Rm := fun _ _ a b => a = b) hh ρ H).mono fun v H1 ⟨ρ1, d, m1, t, r, x, q⟩ => by
    have r' : d = v := r
    subst r'
    exact hk d H1 ρ1 m1 t ⟨a.env.tr t, x⟩ q⟩
abbrev Mc (X : Cx) (cl : Nat → Addr) (c : Cfg) (ifs : List Expr) (ts : List C) : Prop := PTs X ifs (tT X cl Wn fun en μ => tests c en ts μ)
theorem PTs.imp {ifs : List Expr} {t t' : TT} (h : PTs X ifs t) (k : ∀ σ H Q, t' σ H Q → t σ H Q) : PTs X ifs t' := ⟨fun pins s σ H Q I q => h.run pins s σ H Q I (k σ H Q q)⟩
theorem mc_nil : Mc X cl c [] [] := by
  refine PTs.imp pts_nil fun σ H Q h => ?_
  obtain ⟨ρ, en, μ, h1, h2, h3⟩ := h
  dsimp only at h3
  rw [tests_nil] at h3
  exact RG.val h3 h2 rfl
theorem mc_one {e : Expr} {t : C} (h : Mt X cl Wn c e t) : Mc X cl c [e] [t] := by
  refine PTs.imp (pts_one h) fun σ H Q h => ?_
  obtain ⟨ρ, en, μ, h1, h2, h3⟩ := h
  dsimp only at h3
  rw [tests_one] at h3
  exact ⟨ρ, en, μ, h1, h2, h3⟩
/-- a hidden list is written -/
theorem mo_hid {ρ : Rho} {H : Hp} {D : Addr} {o : HO} (h : D ∈ ρ.hi) : Mo ρ ρ H (upd H D o) := fun b u f e _ => ⟨by rw [upd_ne fun z => f.2 (by rw [z]; exact h)]; exact e, f⟩
theorem mem_hid {K : PySem.W.Frag} {ρ : Rho} {H : Hp} {D : Addr} {o : HO} {m : Mem} {ws : List V} (x : MemOk K ρ H m) (h : D ∈ ρ.hi) (hD : H D = some (.lst ws)) : MemOk K ρ (upd H D o) m := by
  have hd : ∀ b o', H b = some o' → ∃ o'', upd H D o b = some o'' := fun b o' e => by
    by_cases q : b = D
    · exact ⟨_, by rw [q]; exact upd_same⟩
    · exact ⟨o', by rw [upd_ne q]; exact e⟩
  refine ⟨x.len, x.one, x.apart, fun i b e => let ⟨o, q⟩ := x.live i b e; hd b o q, fun b e => let ⟨o, q⟩ := x.hid b e; hd b o q, fun i d e => ?_, fun P hP => let ⟨ps, e, t⟩ := x.tab P hP; ⟨ps, by rw [upd_ne fun z => by rw [z, hD] at e; cases e]; exact e, t⟩⟩
  exact (x.cell i d e).mo (fun _ e => e) (fun b o g1 g2 _ => by rw [upd_ne fun q => x.apart i b g1 (by rw [q]; exact h)]; exact g2) (mo_hid h)
/-- behind a part of the block: the new list stays hidden -/
theorem hide_back {ρ ρ2 : Rho} {H H2 : Hp} {D : Addr} (t : Tr (ρ.hide D) ρ2 H H2) : ρ2 = (⟨ρ2.lo, ρ.hi⟩ : Rho).hide D := by
  have h := t.hi
  obtain ⟨lo, hi⟩ := ρ2
  have h : hi = D :: ρ.hi := h
  subst h
  rfl
theorem mo_nh {ρ : Rho} {H : Hp} {L : Addr} {o : HO} (hL : H L = none) : Mo ρ (ρ.hide L) H (upd H L o) := fun b u f e _ => by
  have hb : b ≠ L := fun z => by rw [z, hL] at e; cases e
  refine ⟨by rw [upd_ne hb]; exact e, f.1, fun z => ?_⟩
  rcases List.mem_cons.mp z with z | z
  · exact hb z
  · exact f.2 z
/-- Rep by what is frozen and where the cells stand -/
theorem Rep.mo {K : PySem.W.Frag} {ρ ρ1 : Rho} {H H1 : Hp} (m : Mo ρ ρ1 H H1) (hl : ρ1.lo = ρ.lo) : ∀ {d : D} {v : V}, Rep K ρ H d v → Rep K ρ1 H1 d v := fun {d v} h => by
  cases d with
  | ref l =>
    obtain ⟨o, e, q⟩ := h
    exact ⟨o, by rw [hl]; exact e, q⟩
  | lck d =>
    cases d with
    | lst ds =>
      obtain ⟨a, vs, e, q, k⟩ := h
      exact ⟨a, vs, e, q.imp (fun q => m.rd q.1 q.2 noT_lst) id, k.mono m⟩
    | _ => exact RepP.mono m h
  | _ => exact RepP.mono m h
theorem EnvOk.mo {K : PySem.W.Frag} {ρ ρ1 : Rho} {H H1 : Hp} {e : Env} {σ : L2.St} (m : Mo ρ ρ1 H H1) (hl : ρ1.lo = ρ.lo) (x : EnvOk K ρ H e σ) : EnvOk K ρ1 H1 e σ :=
  ⟨x.len, fun i d h => let ⟨v, a, b⟩ := x.at_ i d h; ⟨v, a, Rep.mo m hl b⟩⟩
theorem mem_nh {K : PySem.W.Frag} {ρ : Rho} {H : Hp} {L : Addr} {o : HO} {m : Mem} (x : MemOk K ρ H m) (hL : H L = none) : MemOk K (ρ.hide L) (upd H L o) m := by
  have fz := x.fz hL
  have y := x.new1 (o := o) hL
  refine ⟨x.len, x.one, fun l a e z => ?_, y.live, fun a z => ?_, fun l d e => ?_, y.tab⟩
  · rcases List.mem_cons.mp z with z | z
    · exact fz.1 l (by rw [← z]; exact e)
    · exact x.apart l a e z
  · rcases List.mem_cons.mp z with z | z
    · exact ⟨_, by rw [z]; exact upd_same⟩
    · exact y.hid a z
  · exact (x.cell l d e).mo (fun _ e => e) (fun b o g1 g2 _ => by rw [upd_ne (ne_of_none g2 hL)]; exact g2) (mo_nh hL)
/-- what holds through a comprehension: the list as it grows at L -/
structure LcAt (K : PySem.W.Frag) (ρ0 : Rho) (H0 : Hp) (L : Addr) (ρ : Rho) (H : Hp) (acc : List D) (μ : Mem) : Prop where
  tr : Tr ρ0 ρ H0 H
  lo : ∀ l : Nat, ρ.lo[l]? ≠ some (some L)
  hi : L ∉ ρ.hi
  list : ∃ vs, H L = some (.lst vs) ∧ RepPs K (ρ.hide L) H acc vs
  mem : MemOk K (ρ.hide L) H μ
theorem LcAt.ex {K : PySem.W.Frag} {ρ0 : Rho} {H0 : Hp} {L : Addr} {ρ : Rho} {H : Hp} {acc : List D} {μ : Mem} (x : LcAt K ρ0 H0 L ρ H acc μ) : ∃ o, H L = some o := let ⟨vs, h, _⟩ := x.list; ⟨_, h⟩
/-- a part of the block has run -/
theorem LcAt.step {K : PySem.W.Frag} {ρ0 : Rho} {H0 : Hp} {L : Addr} {ρ ρ2 : Rho} {H H2 : Hp} {acc : List D} {μ μ2 : Mem} (x : LcAt K ρ0 H0 L ρ H acc μ) (h0 : H0 L = none) (t : Tr (ρ.hide L) ρ2 H H2) (m : MemOk K ρ2 H2 μ2) :
    LcAt K ρ0 H0 L ⟨ρ2.lo, ρ.hi⟩ H2 acc μ2 ∧ ρ2 = (⟨ρ2.lo, ρ.hi⟩ : Rho).hide L := by
  have e := hide_back t
  have hfree : ∀ l : Nat, ρ2.lo[l]? ≠ some (some L) := fun l z => by
    obtain ⟨o, q⟩ := x.ex
    exact t.none1 q (fun i y => x.lo i y) l z
  refine ⟨⟨?_, hfree, x.hi, ?_, by rw [← e]; exact m⟩, e⟩
  · refine x.tr.trans ⟨t.len, rfl, t.old, t.new, t.keep, t.dom⟩
  · obtain ⟨vs, h1, h2⟩ := x.list
    refine ⟨vs, t.keep L _ h1 noT_lst x.lo, ?_⟩
    rw [← e]
    exact h2.mono t.mo
/-- an item is appended -/
theorem LcAt.app {K : PySem.W.Frag} {ρ0 : Rho} {H0 : Hp} {L : Addr} {ρ : Rho} {H : Hp} {acc : List D} {μ μ2 : Mem} {y z : D} {v : V} (x : LcAt K ρ0 H0 L ρ H acc μ) (h0 : H0 L = none) (r : Rep K (ρ.hide L) H y v) (hs : settle y μ = some (z, μ2)) {vs : List V} (hv : H L = some (.lst vs)) :
    ∃ ρ2, LcAt K ρ0 H0 L ρ2 (upd H L (.lst (vs ++ [v]))) (acc ++ [z]) μ2 ∧ Tr (ρ.hide L) (ρ2.hide L) H H := by
  obtain ⟨ρ1, t1, x1, p1⟩ := settle_ok x.mem r hs
  obtain ⟨s1, e1⟩ := x.step h0 t1 x1
  rw [e1] at p1 x1
  obtain ⟨vs', g1, g2⟩ := s1.list
  rw [hv] at g1
  cases g1
  have hm : L ∈ ((⟨ρ1.lo, ρ.hi⟩ : Rho).hide L).hi := List.mem_cons_self
  refine ⟨⟨ρ1.lo, ρ.hi⟩, ⟨?_, s1.lo, s1.hi, ⟨_, upd_same, (g2.append (.cons p1 .nil)).mono (mo_hid hm)⟩, mem_hid x1 hm hv⟩, by rw [← e1]; exact t1⟩
  have t := s1.tr
  refine ⟨t.len, t.hi, t.old, t.new, fun b o e n q => ?_, fun b e => ?_⟩
  · rw [upd_ne fun z => by rw [z, h0] at e; cases e]
    exact t.keep b o e n q
  · by_cases q : b = L
    · rw [q]; exact h0
    · rw [upd_ne q] at e; exact t.dom b e
theorem wipe_sub {σ : L2.St} {ws : List Nat} : ∀ {vs : List Nat}, (∀ i ∈ vs, i ∈ ws) → L2.wipe (L2.wipe σ vs) ws = L2.wipe σ ws
  | [], _ => rfl
  | v :: vs, h => by
    simp only [L2.wipe]
    rw [wipe_set (h v List.mem_cons_self)]
    exact wipe_sub fun i hi => h i (List.mem_cons_of_mem _ hi)
theorem wipe_wipe (σ : L2.St) (ws : List Nat) : L2.wipe (L2.wipe σ ws) ws = L2.wipe σ ws := wipe_sub fun _ h => h
def lcF (c : Cfg) (e : Env) (own : List Nat) (t : Tg) (ifs : List C) (el : C) (x : D) (acc : List D) (m : Mem) : R (List D) := match bindT t x (wipeE e own) with
  | none => .no
  | some e' => (tests c e' ifs m).bind fun b m2 => if b then (ev c e' el m2).bind fun y m3 => (match settle y m3 with
      | some (z, m4) => if fits acc.length then .ok (acc ++ [z]) m4 else .no
      | none => .no)
    else .ok acc m2
theorem ev_comp {e : Env} {own : List Nat} {t : Tg} {k : IK} {its ifs : List C} {el : C} {m : Mem} : ev c e (.comp own t k its ifs el) m = (itemsR c e k its m).bind fun xs m1 => (noEx (compL (lcF c e own t ifs el) xs [] m1)).bind fun acc m2 => .ok (.lst acc) m2 := by
  rw [ev]
  unfold itemsR
  cases evs c e its m with
  | ok ds m1 =>
    simp only [R.bind_ok]
    cases itemsOf k ds m1 <;> rfl
  | ex _ _ => rfl
  | no => rfl
theorem noEx_isOk {α : Type} {r : R α} {f : α → Mem → R D} {d : D} {m : Mem} (h : (noEx r).bind f = .ok d m) : ∃ a m1, r = .ok a m1 ∧ f a m1 = .ok d m := by
  cases r with
  | ok a m1 => exact ⟨a, m1, rfl, h⟩
  | ex _ _ => cases h
  | no => cases h
theorem R.bind_isOk {α β : Type} {r : R α} {f : α → Mem → R β} {d : β} {m : Mem} (h : r.bind f = .ok d m) : ∃ a m1, r = .ok a m1 ∧ f a m1 = .ok d m := by
  cases r with
  | ok a m1 => exact ⟨a, m1, rfl, h⟩
  | ex _ _ => cases h
  | no => cases h
theorem comp_isLst {own : List Nat} {t : Tg} {k : IK} {its ifs : List C} {el : C} : ∀ en μ d μ', ev c en (.comp own t k its ifs el) μ = .ok d μ' → isLst d := by
  intro en μ d μ' h
  rw [ev_comp] at h
  obtain ⟨xs, m1, _, h⟩ := R.bind_isOk h
  obtain ⟨acc, m2, _, h⟩ := noEx_isOk h
  cases h
  exact True.intro
/-- the loop of a comprehension: its reading -/
theorem lc_end {own : List Nat} {t : Tg} {k : IK} {its ifs : List C} {el : C} {σ : L2.St} {H : Hp} {Q : VK} (hown : ∀ i ∈ tgN t, i ∈ own) (h : tF X cl W (fun en μ => ev c en (.comp own t k its ifs el) μ) σ H Q) :
    tLc (tI X cl W fun en μ => itemsR c en k its μ) (gB X.K t) (tT X cl Wn fun en μ => tests c en ifs μ) (tE X cl Wn fun en μ => ev c en el μ) own σ H Q := by
  obtain ⟨ρ, en, μ, h1, h2, h3⟩ := h
  dsimp only at h3
  rw [ev_comp] at h3
  refine ⟨ρ, en, μ, h1, h2, (RGF.seq (Rm := RlW X.K) h3).mono fun J H1 ⟨ρ1, xs, μ1, t1, ⟨P, wk, p1⟩, x1, q⟩ => ?_⟩
  intro L hL
  have e1 := h1.tr t1
  have fz := x1.fz hL
  have start : LcAt X.K ρ1 H1 L ρ1 (upd H1 L (.lst [])) [] μ1 := ⟨Tr.new1 hL, fz.1, fz.2, ⟨[], upd_same, .nil⟩, mem_nh x1 hL⟩
  have startE : EnvOk X.K (ρ1.hide L) (upd H1 L (.lst [])) (wipeE en own) (L2.wipe σ own) := (e1.mo (mo_nh hL) rfl).wipe own
  have startP : P (ρ1.hide L) (upd H1 L (.lst [])) := wk.keep _ _ _ _ p1 (mo_nh hL)
  refine ⟨fun i m H => m = xs.length - i ∧ i ≤ xs.length ∧ ∃ ρ acc μ, LcAt X.K ρ1 H1 L ρ H acc μ ∧ P (ρ.hide L) H ∧ EnvOk X.K (ρ.hide L) H (wipeE en own) (L2.wipe σ own) ∧
    RGF X.K cl (fun c d => W c d σ) ρ1 H1 Q ((noEx (compL (lcF c en own t ifs el) (xs.drop i) acc μ)).bind fun acc m2 => .ok (.lst acc) m2), ⟨xs.length, rfl, Nat.zero_le _, ρ1, [], μ1, start, startP, startE, q⟩, ?_⟩
  rintro i m H2 ⟨rfl, hi, ρ2, acc, μ2, s2, p2, e2, q2⟩
  by_cases hlt : i < xs.length
  · rw [List.drop_eq_getElem_cons hlt, compL] at q2
    refine .inr ⟨wk.go _ _ i p2 hlt, fun H => i + 1 ≤ xs.length ∧ ∃ ρ acc μ, LcAt X.K ρ1 H1 L ρ H acc μ ∧ P (ρ.hide L) H ∧ EnvOk X.K (ρ.hide L) H (wipeE en own) (L2.wipe σ own) ∧
      RGF X.K cl (fun c d => W c d σ) ρ1 H1 Q ((noEx (compL (lcF c en own t ifs el) (xs.drop (i + 1)) acc μ)).bind fun acc m2 => .ok (.lst acc) m2), fun H' ⟨k1, k2⟩ => ⟨xs.length - (i + 1), by omega, rfl, k1, k2⟩, fun x H3 y => ?_⟩
    obtain ⟨d, hd, t3, x3, r3⟩ := wk.yld _ _ i x H3 μ2 hlt p2 s2.mem y
    have ed : xs[i] = d := by rw [List.getElem?_eq_getElem hlt] at hd; exact Option.some.inj hd
    rw [ed] at q2
    have s3 := (s2.step hL t3 x3).1
    have s3 : LcAt X.K ρ1 H1 L ρ2 H3 acc μ2 := s3
    have p3 := wk.keep _ _ _ _ p2 t3.mo
    have E3 := e2.tr t3
    rw [lcF] at q2
    cases qb : bindT t d (wipeE en own) with
    | none => rw [qb] at q2; exact q2.elim
    | some e' =>
      rw [qb] at q2
      dsimp only at q2
      rw [R.bind_assoc] at q2
      refine ⟨ρ2.hide L, wipeE en own, μ2, d, E3, x3, r3, e', qb, fun σ' E' oo => ⟨(oo own hown).trans (wipe_wipe σ own), ?_⟩⟩
      refine tT.goN (X := X) ⟨E', x3⟩ q2 fun b H4 ρ4 μ4 t4 a4 q4 => ?_
      have s4' := s3.step hL t4 a4.mem
      have p4 := wk.keep _ _ _ _ p3 t4.mo
      have E4 := E3.tr t4
      cases b with
      | false =>
        rw [if_neg Bool.false_ne_true] at q4 ⊢
        rw [s4'.2] at p4 E4
        exact ⟨hlt, _, acc, μ4, s4'.1, p4, E4, q4⟩
      | true =>
        rw [if_pos rfl] at q4 ⊢
        rw [R.bind_assoc] at q4
        refine tE.goN (X := X) (K' := X.K) a4 q4 fun v H5 ρ5 dy μ5 t5 a5 r5 q5 => ?_
        have t45 : Tr (ρ2.hide L) ρ5 H3 H5 := t4.trans t5
        have s5' := s3.step hL t45 a5.mem
        have p5 := wk.keep _ _ _ _ p3 t45.mo
        have E5 := E3.tr t45
        rw [s5'.2] at p5 E5 r5
        obtain ⟨vs, hv, rv⟩ := s5'.1.list
        cases qs : settle dy μ5 with
        | none => rw [qs] at q5; exact q5.elim
        | some z =>
          obtain ⟨z, μ6⟩ := z
          rw [qs] at q5
          dsimp only at q5
          by_cases hf : fits acc.length = true
          · rw [if_pos hf] at q5
            obtain ⟨ρ6, s6, t6⟩ := s5'.1.app hL r5 qs hv
            refine ⟨vs, hv, by rw [← rv.length]; exact fits_lt hf, hlt, ρ6, acc ++ [z], μ6, s6, ?_, ?_, q5⟩
            · exact wk.keep _ _ _ _ (wk.keep _ _ _ _ p5 t6.mo) (mo_hid List.mem_cons_self)
            · exact (E5.tr t6).mo (mo_hid List.mem_cons_self) rfl
          · rw [if_neg hf] at q5; exact q5.elim
  · have e : i = xs.length := by omega
    subst e
    rw [List.drop_length, compL] at q2
    obtain ⟨vs, hv, rv⟩ := s2.list
    exact .inl ⟨wk.stop _ _ p2, q2 acc rfl L vs ρ2 H2 s2.tr hL hv s2.lo s2.hi rv s2.mem⟩
theorem RGF.of_mut {K : PySem.W.Frag} {W : XK} {ρ : Rho} {H : Hp} {Q : VK} {t : C} {en : Env} {μ : Mem} (il : ∀ d μ', ev c en t μ = .ok d μ' → isLst d) (h : RG (Rep K) K cl W ρ H Q (ev c en (.mut t) μ)) : RGF K cl W ρ H Q (ev c en t μ) := by
  rw [ev] at h
  cases q : ev c en t μ with
  | ok d m =>
    rw [q] at h
    simp only [R.bind_ok] at h
    intro xs ed a vs ρ' H' t h0 k1 k2 k3 k4 k5
    subst ed
    refine h (.ref a) (ρ'.add a) H' (tr_add t h0) ?_ (mem_add k5 k1 k2 k3 k4)
    have : m.length = ρ'.lo.length := k5.len.symm
    rw [this]
    exact rep_add
  | ex _ _ => rw [q] at h; exact h
  | no => rw [q] at h; exact h
/-- the block's premises of a list comprehension -/
structure LcOk (X : Cx) (cl : Nat → Addr) (c : Cfg) (tg elt : Expr) (ifs : List Expr) (scope : Scope) (own : List (Str × Nat)) (t : Tg) (ts : List C) (te : C) : Prop where
  ok : BlkOk X.N X.env.scope scope own
  hg : ∀ (s : Shared) (H : Hp) (C : Addr) (cl' : List (Str × Addr)) (fp : List Addr), Mg (X.blk s H scope (compEnvC scope cl' C X.env) fp) tg t
  ht : ∀ (s : Shared) (H : Hp) (C : Addr) (cl' : List (Str × Addr)) (fp : List Addr), Mc (X.blk s H scope (compEnvC scope cl' C X.env) fp) cl c ifs ts
  he : ∀ (s : Shared) (H : Hp) (C : Addr) (cl' : List (Str × Addr)) (fp : List Addr), Me (X.blk s H scope (compEnvC scope cl' C X.env) fp) cl Wn c elt te
  own : ∀ i ∈ tgN t, i ∈ own.map (·.2)
theorem LcOk.g {tg elt : Expr} {ifs : List Expr} {scope : Scope} {own : List (Str × Nat)} {t : Tg} {ts : List C} {te : C} (B : LcOk X cl c tg elt ifs scope own t ts te) (s : Shared) (H : Hp) (C : Addr) (cl' : List (Str × Addr)) (fp : List Addr) : PG (X.blk s H scope (compEnvC scope cl' C X.env) fp) tg (gB X.K t) := B.hg s H C cl' fp
theorem LcOk.t {tg elt : Expr} {ifs : List Expr} {scope : Scope} {own : List (Str × Nat)} {t : Tg} {ts : List C} {te : C} (B : LcOk X cl c tg elt ifs scope own t ts te) (s : Shared) (H : Hp) (C : Addr) (cl' : List (Str × Addr)) (fp : List Addr) : PTs (X.blk s H scope (compEnvC scope cl' C X.env) fp) ifs (tT X cl Wn fun en μ => tests c en ts μ) := B.ht s H C cl' fp
theorem LcOk.e {tg elt : Expr} {ifs : List Expr} {scope : Scope} {own : List (Str × Nat)} {t : Tg} {ts : List C} {te : C} (B : LcOk X cl c tg elt ifs scope own t ts te) (s : Shared) (H : Hp) (C : Addr) (cl' : List (Str × Addr)) (fp : List Addr) : PE (X.blk s H scope (compEnvC scope cl' C X.env) fp) elt (tE X cl Wn fun en μ => ev c en te μ) := B.he s H C cl' fp
theorem mf_lc {tg elt iter : Expr} {ifs : List Expr} {scope : Scope} {own : List (Str × Nat)} {pos : Pos} {t : Tg} {k : IK} {its ts : List C} {te : C} (hc : X.calm = true) (hN : X.N.Nodup) (hi : Mi X cl W c tg iter k its) (B : LcOk X cl c tg elt ifs scope own t ts te) (hs : ∀ x, foldedSetIterable iter X.env x = pure x) :
    Mf X cl W c (.ListComp elt [⟨tg, iter, ifs, 0⟩] scope pos) (.comp (own.map (·.2)) t k its ts te) :=
  ⟨PE.imp (pe_lc hc hN hi B.ok B.g B.t B.e hs) fun σ H Q h => lc_end B.own h, comp_isLst⟩
theorem RGF.mono {K : PySem.W.Frag} {W : XK} {ρ : Rho} {H : Hp} {Q Q' : VK} {r : R D} (h : RGF K cl W ρ H Q r) (k : ∀ v H, Q v H → Q' v H) : RGF K cl W ρ H Q' r := by
  cases r with
  | ok d m => exact fun xs e a vs ρ' H' t h0 h1 h2 h3 h4 h5 => k _ _ (h xs e a vs ρ' H' t h0 h1 h2 h3 h4 h5)
  | ex c m => exact h
  | no => exact h
/-- what follows a stored value -/
theorem set_end {i : Nat} {t : C} {D : Ends} {σ : L2.St} {H : Hp} {ρ : Rho} {en : Env} {μ : Mem} (h1 : EnvOk X.K ρ H en σ) (h3 : SG X.K cl W ρ H D (exec c (.asg (.nm i) t) en μ)) :
    RG (Rep X.K) X.K cl (fun c d => W c d σ) ρ H (fun x H1 => gName i x σ H1 D.nx) (ev c en t μ) := by
  rw [exec] at h3
  refine (SG.out (Rm := Rep X.K) h3 h1).mono fun v H1 ⟨ρ1, d, μ1, t1, r1, x1, h4⟩ => ?_
  rw [bindT] at h4
  by_cases hl : i < en.length
  · rw [if_pos hl] at h4
    exact h4 ρ1 H1 _ Tr.refl ((h1.tr t1).set r1 i) x1
  · rw [if_neg hl] at h4; exact h4.elim
theorem ms_setLc {i : Nat} {y : Str} {py : Pos} {tg elt iter : Expr} {ifs : List Expr} {scope : Scope} {own : List (Str × Nat)} {pos spos : Pos} {t : Tg} {k : IK} {its ts : List C} {te : C} (hc : X.calm = true) (hN : X.N.Nodup) (hy : X.N[i]? = some y) (hyl : X.env.scope.names.lookup y = some .local)
    (hsw : swapsWith (.ListComp elt [⟨tg, iter, ifs, 0⟩] scope pos) (some (.Name y py)) spos.line X.env = pure true) (hi : Mi X cl W c tg iter k its) (B : LcOk X cl c tg elt ifs scope own t ts te) (hs : ∀ x, foldedSetIterable iter X.env x = pure x) :
    Ms X cl W c (.Assign [.Name y py] (.ListComp elt [⟨tg, iter, ifs, 0⟩] scope pos) spos) (.asg (.nm i) (.comp (own.map (·.2)) t k its ts te)) := by
  refine PS.imp (ps_setLc hc hN hy hyl hsw hi B.ok B.g B.t B.e hs) fun D σ H h => ?_
  obtain ⟨ρ, en, μ, h1, h2, h3⟩ := h
  exact lc_end B.own ⟨ρ, en, μ, h1, h2, (set_end h1 h3).fresh⟩
theorem ms_setLcM {i : Nat} {y : Str} {py : Pos} {tg elt iter : Expr} {ifs : List Expr} {scope : Scope} {own : List (Str × Nat)} {pos spos : Pos} {t : Tg} {k : IK} {its ts : List C} {te : C} (hc : X.calm = true) (hN : X.N.Nodup) (hy : X.N[i]? = some y) (hyl : X.env.scope.names.lookup y = some .local)
    (hsw : swapsWith (.ListComp elt [⟨tg, iter, ifs, 0⟩] scope pos) (some (.Name y py)) spos.line X.env = pure true) (hi : Mi X cl W c tg iter k its) (B : LcOk X cl c tg elt ifs scope own t ts te) (hs : ∀ x, foldedSetIterable iter X.env x = pure x) :
    Ms X cl W c (.Assign [.Name y py] (.ListComp elt [⟨tg, iter, ifs, 0⟩] scope pos) spos) (.asg (.nm i) (.mut (.comp (own.map (·.2)) t k its ts te))) := by
  refine PS.imp (ps_setLc hc hN hy hyl hsw hi B.ok B.g B.t B.e hs) fun D σ H h => ?_
  obtain ⟨ρ, en, μ, h1, h2, h3⟩ := h
  exact lc_end B.own ⟨ρ, en, μ, h1, h2, RGF.of_mut (fun d μ' q => comp_isLst _ _ _ _ q) (set_end h1 h3)⟩
end
end Py
end

section
set_option Elab.async false
set_option linter.all false
set_option maxRecDepth 100000
set_option maxHeartbeats 1000000
/-! PyDeq: {a: 1, b: 1} == {c: 1, d: 1}. -/
namespace Py
open PySem L2 PyProof.Rows
open PySem (Str)
variable [Tabs]
theorem one_of {ls : List (Key × V)} {k : Key} {x : V} (h1 : ∀ p ∈ ls, p.2 = V.int 1) (h : valV ls k = some x) : x = V.int 1 := by
  unfold valV at h
  obtain ⟨p, hp, e⟩ := Option.map_eq_some_iff.mp h
  rw [← e]; exact h1 p (List.mem_of_find?_eq_some hp)
theorem hits_ones {A : Around} {s : Shared} {ls : List (Key × V)} {vb : List (Key × Value)} (rb : KV ls vb) (h1 : ∀ p ∈ ls, p.2 = V.int 1) {ks : List (Key × V)} {va : List (Key × Value)} (ra : KV ks va) :
    (∀ p ∈ ks, p.2 = V.int 1) → PySem.W.KeqHits A s vb va (ks.all fun p => (valV ls p.1).isSome) := by
  unfold KV at ra
  induction ra with
  | nil => intro _; exact .nil
  | @cons p q ps qs h t ih =>
    intro hp
    obtain ⟨e1, h2⟩ := h
    obtain ⟨k, v⟩ := q
    have e1 : p.1 = k := e1
    have ihh := ih fun p' hm => hp p' (List.mem_cons_of_mem _ hm)
    rw [List.all_cons]
    have rr := rb.val p.1
    cases hv : valV ls p.1 with
    | none =>
      have q := rr.isSome_eq
      rw [hv, e1] at q
      exact .miss (by cases hh : valueAt vb k with
        | none => rfl
        | some _ => rw [hh] at q; cases q)
    | some x =>
      rw [hv] at rr
      obtain ⟨y, hy, ry⟩ := rr.some_of
      have ex := one_of h1 hv
      have ep := hp p List.mem_cons_self
      rw [e1] at hy
      subst ex
      rw [ep] at h2
      exact .hit hy (eqAt_same h2 ry rfl) ihh
def rEqD1 : R2 := fun x y H Q => ∃ a b ks ls, x = .ref a ∧ y = .ref b ∧ H a = some (.dK ks) ∧ H b = some (.dK ls) ∧ (∀ p ∈ ks, p.2 = V.int 1) ∧ (∀ p ∈ ls, p.2 = V.int 1) ∧ Q (.bl (ks.length == ls.length && ks.all fun p => (valV ls p.1).isSome)) H
theorem op_eq_d1 {X : Cx} (hu : X.A.units < cLine) : OpR X (compareOp .Eq) rEqD1 := by
  intro pins s σ H x y v u Q I rx ry h
  obtain ⟨a, b, ks, ls, rfl, rfl, ea, eb, h1, h2, q⟩ := h
  obtain rfl : v = Value.ref a := rx
  obtain rfl : u = Value.ref b := ry
  obtain ⟨_, ya, va, ra, da⟩ := (show ObjOk X.prog X.w H s.heap a (.dK ks) from I.hok a _ ea)
  obtain ⟨_, yb, vb, rb, db⟩ := (show ObjOk X.prog X.w H s.heap b (.dK ls) from I.hok b _ eb)
  exact PySem.W.keq_eq (knd := mixKind X.prog X.w) (r := ks.all fun p => (valV ls p.1).isSome) ya yb da db hu (fun _ => hits_ones rb h2 ra h1) (fin_bl I q (by rw [ra.length, rb.length]))
/-! ### a run from a base, with hidden objects -/
theorem MemOk.less {K : PySem.W.Frag} {ρ : Rho} {hi : List Addr} {H : Hp} {m : Mem} (x : MemOk K ρ H m) (h : ∀ a ∈ hi, a ∈ ρ.hi) : MemOk K ⟨ρ.lo, hi⟩ H m where
  len := x.len
  one := x.one
  apart := fun l b e z => x.apart l b e (h b z)
  live := x.live
  hid := fun b e => x.hid b (h b e)
  cell := fun l d e => (x.cell l d e).mo (fun _ e => e) (fun _ _ _ e _ => e) fun b o f g _ => ⟨g, f.1, fun z => f.2 (h b z)⟩
  tab := x.tab
structure Bs (K : PySem.W.Frag) (ρ : Rho) (H : Hp) (ρs : Rho) (Hs : Hp) (m : Mem) : Prop where
  tr : Tr ρ ⟨ρs.lo, ρ.hi⟩ H Hs
  hi : ∀ a ∈ ρ.hi, a ∈ ρs.hi
  mem : MemOk K ρs Hs m
theorem Tr.inside {ρ ρs ρ2 : Rho} {H Hs H2 : Hp} (t : Tr ρ ⟨ρs.lo, ρ.hi⟩ H Hs) (u : Tr ρs ρ2 Hs H2) : Tr ρ ⟨ρ2.lo, ρ.hi⟩ H H2 :=
  t.trans ⟨u.len, rfl, u.old, u.new, u.keep, u.dom⟩
theorem Bs.start {K : PySem.W.Frag} {ρ : Rho} {H : Hp} {m : Mem} (x : MemOk K ρ H m) : Bs K ρ H ρ H m := ⟨Tr.refl, fun _ h => h, x⟩
theorem Bs.run {K : PySem.W.Frag} {cl : Nat → Addr} {W : XK} {α β : Type} {Rl : Rho → Hp → α → β → Prop} {ρ ρs : Rho} {H Hs : Hp} {m : Mem} {Q : β → Hp → Prop} {r : R D} {f : D → Mem → R α} (h : RG Rl K cl W ρ H Q (r.bind f)) (b : Bs K ρ H ρs Hs m) :
    RG (Rep K) K cl W ρs Hs (fun v H1 => ∃ ρ1 a m1, Bs K ρ H ρ1 H1 m1 ∧ Tr ρs ρ1 Hs H1 ∧ Rep K ρ1 H1 a v ∧ RG Rl K cl W ρ H Q (f a m1)) r := by
  cases r with
  | ok a m1 => exact fun v ρ' H' t rr x => ⟨ρ', a, m1, ⟨b.tr.inside t, fun z hz => by rw [t.hi]; exact b.hi z hz, x⟩, t, rr, h⟩
  | ex c m1 => exact fun ρ' H' t x => h ⟨ρ'.lo, ρ.hi⟩ H' (b.tr.inside t) (x.less fun z hz => by rw [t.hi]; exact b.hi z hz)
  | no => exact h
/-- a new hidden object -/
theorem Bs.new {K : PySem.W.Frag} {ρ ρs : Rho} {H Hs : Hp} {m : Mem} (b : Bs K ρ H ρs Hs m) {p : Addr} {o : HO} (hp : Hs p = none) : Bs K ρ H (ρs.hide p) (upd Hs p o) m :=
  ⟨b.tr.trans (Tr.new1 hp), fun a h => List.mem_cons_of_mem _ (b.hi a h), mem_nh b.mem hp⟩
theorem mem_hidN {K : PySem.W.Frag} {ρ : Rho} {H : Hp} {D : Addr} {o u : HO} {m : Mem} (x : MemOk K ρ H m) (h : D ∈ ρ.hi) (hD : H D = some u) (hu : NoT u) : MemOk K ρ (upd H D o) m := by
  have hd : ∀ b o', H b = some o' → ∃ o'', upd H D o b = some o'' := fun b o' e => by
    by_cases q : b = D
    · exact ⟨_, by rw [q]; exact upd_same⟩
    · exact ⟨o', by rw [upd_ne q]; exact e⟩
  refine ⟨x.len, x.one, x.apart, fun i b e => let ⟨o, q⟩ := x.live i b e; hd b o q, fun b e => let ⟨o, q⟩ := x.hid b e; hd b o q, fun i d e => ?_, fun P hP => let ⟨ps, e, t⟩ := x.tab P hP; ⟨ps, by rw [upd_ne fun z => by rw [z, hD] at e; exact hu ps (Option.some.inj e)]; exact e, t⟩⟩
  exact (x.cell i d e).mo (fun _ e => e) (fun b o g1 g2 _ => by rw [upd_ne fun q => x.apart i b g1 (by rw [q]; exact h)]; exact g2) (mo_hid h)
theorem tr_upd {ρ ρ1 : Rho} {H H1 : Hp} {p : Addr} {o : HO} (t : Tr ρ ρ1 H H1) (h0 : H p = none) : Tr ρ ρ1 H (upd H1 p o) :=
  ⟨t.len, t.hi, t.old, t.new, fun b o e n q => by
    rw [upd_ne fun z => by rw [z, h0] at e; cases e]
    exact t.keep b o e n q, fun b e => by
    by_cases q : b = p
    · rw [q]; exact h0
    · rw [upd_ne q] at e; exact t.dom b e⟩
/-- a hidden object, new since the base, is written -/
theorem Bs.put {K : PySem.W.Frag} {ρ ρs : Rho} {H Hs : Hp} {m : Mem} (b : Bs K ρ H ρs Hs m) {p : Addr} {o u : HO} (h0 : H p = none) (hm : p ∈ ρs.hi) (he : Hs p = some u) (hu : NoT u) : Bs K ρ H ρs (upd Hs p o) m :=
  ⟨tr_upd b.tr h0, b.hi, mem_hidN b.mem hm he hu⟩
section
variable {X : Cx} {cl : Nat → Addr} {W : WX} {c : Cfg}
theorem noT_dK {ks : List (Key × V)} : NoT (.dK ks) := fun _ q => by cases q
/-- one display within a run -/
theorem disp2 {ta tb : C} {α β : Type} {Rl : Rho → Hp → α → β → Prop} {f : D → D → Mem → R α} {σ : L2.St} {ρ ρs : Rho} {H Hs : Hp} {e : Env} {μ : Mem} {Q : β → Hp → Prop} (b : Bs X.K ρ H ρs Hs μ) (en : EnvOk X.K ρs Hs e σ)
    (h : RG Rl X.K cl (fun c d => W c d σ) ρ H Q ((ev c e ta μ).bind fun x m1 => (ev c e tb m1).bind fun y m2 => f x y m2)) {k : VK}
    (hf : ∀ x y m, (∀ i j, x = .int i → y = .int j → False) → f x y m = .no)
    (hk : ∀ i j p ρ2 H2 μ2, Bs X.K ρ H ρ2 H2 μ2 → EnvOk X.K ρ2 H2 e σ → H2 p = some (.dK (mergeK [] [(.inl i, .int 1), (.inl j, .int 1)])) → p ∈ ρ2.hi → (∀ a o, Hs a = some o → NoT o → a ∈ ρs.hi → (∀ l : Nat, ρs.lo[l]? ≠ some (some a)) → H2 a = some o) → RG Rl X.K cl (fun c d => W c d σ) ρ H Q (f (.int i) (.int j) μ2) → k (.ref p) H2) :
    tDisp [(tE X cl W fun en μ => ev c en ta μ, tC (.int 1)), (tE X cl W fun en μ => ev c en tb μ, tC (.int 1))] σ Hs k := by
  intro p hp
  have hp0 : H p = none := b.tr.dom p hp
  have b0 := b.new (o := .dK []) hp
  have fz := b.mem.fz hp
  have en0 : EnvOk X.K (ρs.hide p) (upd Hs p (.dK [])) e σ := en.mo (mo_nh hp) rfl
  refine ⟨ρs.hide p, e, μ, en0, b0.mem, (Bs.run h b0).mono fun x H1 ⟨ρ1, a1, m1, b1, t1, r1, h1⟩ => ?_⟩
  refine ⟨ρ1, e, m1, en0.tr t1, b1.mem, (Bs.run h1 b1).mono fun y H2 ⟨ρ2, a2, m2, b2, t2, r2, h2⟩ => ?_⟩
  have t12 := t1.trans t2
  have kp : H2 p = some (.dK []) := t12.keep p _ upd_same noT_dK fz.1
  by_cases hi : ∃ i j, a1 = .int i ∧ a2 = .int j
  · obtain ⟨i, j, rfl, rfl⟩ := hi
    have e1 : x = .int i := (r1.isI)
    have e2 : y = .int j := (r2.isI)
    subst e1; subst e2
    refine ⟨kp, [(.inl i, .int 1), (.inl j, .int 1)], rfl, by simp, ?_⟩
    have hm : p ∈ ρ2.hi := by rw [t12.hi]; exact List.mem_cons_self
    have b3 := b2.put (o := .dK (mergeK [] [(.inl i, .int 1), (.inl j, .int 1)])) hp0 hm kp noT_dK
    refine hk i j p ρ2 _ m2 b3 ((en0.tr t12).mo (mo_hid hm) rfl) upd_same hm (fun a o ha hn hh hl => ?_) h2
    have hne : a ≠ p := fun z => by rw [z, hp] at ha; cases ha
    rw [upd_ne hne]
    exact t12.keep a o (by rw [upd_ne hne]; exact ha) hn hl
  · rw [hf a1 a2 m2 fun i j z1 z2 => hi ⟨i, j, z1, z2⟩] at h2
    exact h2.elim
theorem mk2 (a b : Int) : mergeK [] [((.inl a : Key), V.int 1), (.inl b, .int 1)] = if a = b then [((.inl a : Key), V.int 1)] else [(.inl a, .int 1), (.inl b, .int 1)] := by
  by_cases h : a = b <;> simp [mergeK, putK, h]
theorem vs2 (x k l : Int) : (valV (if k = l then [((.inl k : Key), V.int 1)] else [(.inl k, .int 1), (.inl l, .int 1)]) (.inl x)).isSome = decide (x = k ∨ x = l) := by
  by_cases h : k = l
  · subst h
    by_cases h2 : k = x
    · subst h2; simp [valV]
    · have : ¬ x = k := fun e => h2 e.symm
      simp [valV, h2, this]
  · by_cases h2 : k = x
    · subst h2; simp [valV, h]
    · have n2 : ¬ x = k := fun e => h2 e.symm
      by_cases h3 : l = x
      · subst h3; simp [valV, h, h2, List.find?_cons]
      · have n3 : ¬ x = l := fun e => h3 e.symm
        simp [valV, h, h2, h3, n2, n3, List.find?_cons]
theorem deq_calc (i j k l : Int) : ((mergeK [] [((.inl i : Key), V.int 1), (.inl j, .int 1)]).length == (mergeK [] [((.inl k : Key), V.int 1), (.inl l, .int 1)]).length && (mergeK [] [((.inl i : Key), V.int 1), (.inl j, .int 1)]).all fun p => (valV (mergeK [] [((.inl k : Key), V.int 1), (.inl l, .int 1)]) p.1).isSome) = decide ((i = k ∧ j = l) ∨ (i = l ∧ j = k)) := by
  rw [mk2 i j, mk2 k l, Bool.eq_iff_iff]
  by_cases h1 : i = j <;> by_cases h2 : k = l
  · have := vs2 i k l
    simp only [if_pos h2] at this
    simp only [if_pos h1, if_pos h2, List.all_cons, List.all_nil, this]
    simp; omega
  · simp [h1, h2]; omega
  · simp [h1, h2]; omega
  · have a := vs2 i k l
    have b := vs2 j k l
    simp only [if_neg h2] at a b
    simp only [if_neg h1, if_neg h2, List.all_cons, List.all_nil, a, b]
    simp; omega
theorem me_deq {a b d g : Expr} {ta tb td tg : C} {j1 j2 j3 j4 : Nat} {p1 p2 p3 p4 pa pb pos : Pos} (hu : X.A.units < cLine) (ha : Me X cl W c a ta) (hb : Me X cl W c b tb) (hd : Me X cl W c d td) (hg : Me X cl W c g tg)
    (hm : behindInMarks .Eq (.Dict [some d, some g] [.Constant (.int 1) j3 p3, .Constant (.int 1) j4 p4] pb) = false) :
    Me X cl W c (.Compare (.Dict [some a, some b] [.Constant (.int 1) j1 p1, .Constant (.int 1) j2 p2] pa) [.Eq] [.Dict [some d, some g] [.Constant (.int 1) j3 p3, .Constant (.int 1) j4 p4] pb] pos) (.deq ta tb td tg) := by
  refine PE.imp (pe_cmpR (op_eq_d1 hu) (pe_disp (pps_cons ha pe_int (pps_cons hb pe_int pps_nil)) rfl rfl (by simp) (by simp)) (pe_disp (pps_cons hd pe_int (pps_cons hg pe_int pps_nil)) rfl rfl (by simp) (by simp)) hm) fun σ H Q h => ?_
  obtain ⟨ρ, en, μ, h1, h2, h3⟩ := h
  dsimp only at h3
  rw [ev] at h3
  refine disp2 (Bs.start h2) h1 h3 (fun x y m hn => ?_) fun i j p ρ2 H2 μ2 b2 en2 e2 m2 _ h4 => ?_
  · exact deqR_no x y hn _
  refine disp2 b2 en2 h4 (fun x y m hn => ?_) fun k l q ρ3 H3 μ3 b3 en3 e3 m3 kp h5 => ?_
  · exact deqB_no i j x y m hn
  have hl : ∀ l : Nat, ρ2.lo[l]? ≠ some (some p) := fun l z => b2.mem.apart l p z m2
  have e2' := kp p _ e2 noT_dK m2 hl
  refine ⟨p, q, _, _, rfl, rfl, e2', e3, ?_, ?_, ?_⟩
  · intro z hz
    simp only [mergeK, List.foldl, putK] at hz
    by_cases hij : i = j <;> simp [hij] at hz
    · rw [hz]
    · rcases hz with rfl | rfl <;> rfl
  · intro z hz
    simp only [mergeK, List.foldl, putK] at hz
    by_cases hij : k = l <;> simp [hij] at hz
    · rw [hz]
    · rcases hz with rfl | rfl <;> rfl
  · have hx := deq_calc i j k l
    rw [hx]
    exact h5 (.bl _) ⟨ρ3.lo, ρ.hi⟩ H3 b3.tr (RepP.bl _) (b3.mem.less b3.hi)
end
end Py
end

section
set_option Elab.async false
set_option linter.all false
set_option maxRecDepth 100000
set_option maxHeartbeats 1000000
/-! PyGen: all, any of a generator expression. -/
namespace Py
open PySem PySem.Spec PyProof.Rows L2 GxR GenW
open PySem (Str)

/-- the context of a generator expression's block -/
abbrev genX (X : Cx) (A' : Around) (s : Shared) (H : Hp) (cenv : PySem.Env) (fp : List Addr) (pn : List (Addr × Obj)) : Cx :=
  { X with A := A', s_0 := s, H_0 := H, env := cenv, outer := X.stack, stack := cenv :: X.stack, ex := fp, fn := fun _ => false, calm := true, pn := pn, xe := fun _ _ => False }
/-- the block's names -/
structure GenOk (N : List Str) (sc scope : Scope) (own : List (Str × Nat)) : Prop where
  blk : BlkOk N sc scope own
  co : scope.isCoroutine = false
  cell : ∀ y ∈ scope.names, y.2 ≠ .cell
  dot : scope.names.lookup (".0" : Str) = some NameKind.local
abbrev gEnv (X : Cx) (scope : Scope) (C : Addr) (code : Value) : PySem.Env := genEnv scope (cloFrom X.env.cells scope.names []) C code builtinsNs X.env
section
variable {X : Cx} {pins : List (Addr × Obj)} {σ : L2.St} {H : Hp} {s : Shared}
theorem gen_start {scope : Scope} {own : List (Str × Nat)} {fp : List Addr} {a : Addr} {go : Obj} {A' : Around} {code : Value} {G : Array GenState} {t : Nat} {h5 : Heap} {m : Str → Option Value} (I : Inv X pins σ H s) (ok : GenOk X.N X.env.scope scope own) (hN : X.N.Nodup)
    (hfp : ∀ b ∈ fp, FpOk X pins H b ∧ b < s.heap.objs.size) (hA : A'.handled = none) (hF : A'.frames = some (gEnv X scope s.heap.objs.size code :: X.stack))
    (k : ∀ b o, s.heap.get? b = some o → h5.get? b = some o) (hm : h5.Ns s.heap.objs.size m) (ha : s.heap.objs.size < a) (hga : h5.get? a = some go) (hgd : ∀ v, go.data ≠ .cell v) (hG : AllBare G) :
    Inv (genX X A' s H (gEnv X scope s.heap.objs.size code) fp [(a, go)]) [] (L2.wipe σ (own.map (·.2))) H { s with heap := h5, gens := G, toks := t } := by
  have hfree : ∀ y ∈ scope.names, y.2 = .free → ∃ c, X.env.cells.lookup y.1 = some c := fun y hy e => by
    rcases ok.blk.free y hy e with k | k
    · exact I.ok.has _ (.inl k)
    · exact I.ok.has _ (.inr k)
  have cm : ∀ {y c}, (y, c) ∈ cloFrom X.env.cells scope.names [] → X.env.cells.lookup y = some c ∧ c < s.heap.objs.size := fun {y c} hm => by
    rcases cloFrom_mem hm with hm | ⟨h1, rfl⟩
    · cases hm
    · obtain ⟨c, hc⟩ := hfree _ h1 rfl
      rw [hc]
      obtain ⟨w, z⟩ := I.cell _ _ hc
      exact ⟨rfl, z.lt⟩
  have mem : ∀ {y c}, (gEnv X scope s.heap.objs.size code).cells.lookup y = some c → X.env.cells.lookup y = some c ∧ c < s.heap.objs.size := fun {y c} e => cm (PySem.mem_of_lookup e)
  have look : ∀ {y}, scope.names.lookup y = some .free → ∃ c, (gEnv X scope s.heap.objs.size code).cells.lookup y = some c ∧ X.env.cells.lookup y = some c := fun {y} hl => by
    have hy : (y, NameKind.free) ∈ scope.names := PySem.mem_of_lookup hl
    obtain ⟨c', e'⟩ := mem_lookup (cloFrom_has (cells := X.env.cells) (acc := []) hy)
    exact ⟨c', e', (mem e').1⟩
  have okB : (genX X A' s H (gEnv X scope s.heap.objs.size code) fp [(a, go)]).Ok := by
    refine ⟨I.ok.mod, ok.blk.kind, I.ok.glob, rfl, Nat.le_refl _, fun y z c e1 e2 => I.ok.inj y z c (mem e1).1 (mem e2).1, fun y hy => ?_, fun y c z e => absurd z (by simp), fun _ => hA, hF, .inr ⟨rfl, rfl⟩, fun b hb => ⟨Nat.ne_of_lt (hfp b hb).2, fun y c e z => ?_⟩, I.bs, Nat.le_trans I.ok.bsz I.sz, fun b o e hb => ?_, fun b hb z => ?_, I.stack, I.stkFree⟩
    · show ∃ c, (gEnv X scope s.heap.objs.size code).cells.lookup y = some c
      rcases hy with hy | hy
      · exact absurd rfl (ok.cell _ (PySem.mem_of_lookup (show scope.names.lookup y = some .cell from hy)))
      · obtain ⟨c, h1, _⟩ := look hy
        exact ⟨c, h1⟩
    · exact (hfp b hb).1.2.2.2.2.1 y c (mem e).1 z
    · rcases (hfp b hb).1.2.2.2.1 with z | z
      · exact I.ok.noex b o e z
      · exact absurd (Nat.lt_of_lt_of_le (Heap.lt_size e) (Nat.le_trans I.ok.bsz z)) (Nat.lt_irrefl _)
    · rcases List.mem_cons.mp (I.stkSub b z) with z | z
      · exact (hfp b hb).1.2.1 z
      · exact (hfp b hb).1.2.2.1 z
  refine ⟨okB, rfl, hG, Un.kept k, ⟨m, hm, fun i y av e1 e2 e3 => ?_⟩, fun y c e => ?_, I.hok.fresh (Nat.le_refl _), fun y c e => I.freeC y c (mem e).1, fun p hp => ?_, I.hok.kept k, by rw [wipe_length]; exact I.len⟩
  · obtain ⟨e2, hne⟩ := wipe_some e2
    have hfr : scope.names.lookup y = some .free := by
      have no : ∀ k', scope.names.lookup y = some k' → ¬ (k' = .local ∨ k' = .cell) := fun k' e hh => by
        rcases ok.blk.own _ (PySem.mem_of_lookup e) hh with e' | e'
        · obtain ⟨p, hp, hpy⟩ := List.mem_map.mp e'
          have e3 := ok.blk.ix p hp
          have : p.1 = y := hpy
          rw [this] at e3
          exact hne (List.mem_map.mpr ⟨p, hp, nodup_ix hN e3 e1⟩)
        · exact e' (List.mem_of_getElem? e1)
      have e3 : Vis scope y := e3
      rcases e3 with e3 | e3 | e3
      · exact absurd (.inl rfl) (no _ e3)
      · exact absurd (.inr rfl) (no _ e3)
      · exact e3
    obtain ⟨m', hn, hl⟩ := I.loc
    have hvis : Vis X.env.scope y := (ok.blk.free _ (PySem.mem_of_lookup hfr) rfl).elim (fun k => .inr (.inl k)) (fun k => .inr (.inr k))
    obtain ⟨w, r, q⟩ := hl i y av e1 e2 hvis
    refine ⟨w, r, .inr ⟨.inr hfr, ?_⟩⟩
    obtain ⟨c, h1, h2⟩ := look hfr
    rcases q with ⟨k, _⟩ | ⟨_, c', e', z⟩
    · have k : X.env.scope.names.lookup y = some .local := k
      rcases ok.blk.free _ (PySem.mem_of_lookup hfr) rfl with k' | k' <;> rw [show X.env.scope.names.lookup y = _ from k'] at k <;> cases k
    · rw [h2] at e'; cases e'
      exact ⟨c, h1, z.keeps k⟩
  · obtain ⟨v, z⟩ := I.cell y c (mem e).1
    exact ⟨v, z.keeps k⟩
  · have ep : p = (a, go) := by simpa using hp
    subst ep
    exact ⟨hga, I.hok.fresh (Nat.le_of_lt ha), Nat.ne_of_gt ha, fun z => by
      rcases List.mem_cons.mp (I.stkSub a z) with z | z
      · exact absurd (Nat.lt_trans I.lt ha) (by rw [show a = X.env.locals from z]; exact Nat.lt_irrefl _)
      · exact I.nofs (Nat.le_of_lt ha) z, hgd⟩
end

/-! ### the walk of all (st = false), any (st = true): W as in a comprehension, with a measure -/
def tGen (st : Bool) (P : Addr) (wi : TI) (g : TG) (te : TE) (vs : List Nat) : TE := fun σ H Q => wi σ H fun J H1 => TabG H1 P ∧ ∀ H2, Tabbed P H1 H2 → ∃ W : Nat → Nat → Hp → Prop, (∃ m, W 0 m H2) ∧ ∀ i m H, W i m H →
  (J.stop i H ∧ Q (.bl (!st)) H) ∨ (J.go i H ∧ ∃ Nx : Hp → Prop, (∀ H', Nx H' → ∃ m', m' < m ∧ W (i + 1) m' H') ∧ ∀ x H', J.yld i H x H' → g x (L2.wipe σ vs) H' fun σ2 H2 => L2.wipe σ2 vs = L2.wipe σ vs ∧ te σ2 H2 fun y H3 => ∃ b : Bool, y = .bl b ∧ if b = st then Q (.bl st) H3 else Nx H3)
abbrev gCode (elt tg iter : Expr) (scope : Scope) (pos : Pos) (it : Addr) (cenv : PySem.Env) : Code := .compLoop (.GeneratorExp elt [⟨tg, iter, [], 0⟩] scope pos) 0 (.ref it) .none cenv
/-- what the consumer knows of an item -/
def YG (st : Bool) (a : Addr) (g : Nat) (Fin : Shared → Prop) : Protocol := fun n s₀ v s kap => ∃ b : Bool, v = .bool b ∧ s.heap.IsGen a g ∧ s.heap.NoLimit ∧ AllBare s.gens ∧ if b = st then Fin s else ∀ G, AllBare G → kap (.send .none) { s with gens := G }
theorem inv_gens {Y : Cx} {pins : List (Addr × Obj)} {σ : L2.St} {H : Hp} {s : Shared} {G : Array GenState} (I : Inv Y pins σ H s) (h : AllBare G) : Inv Y pins σ H { s with gens := G } :=
  I.call (h' := s.heap) (g' := G) (t' := s.toks) (d' := s.drawn) (ch := []) Un.refl I.hok h fun b z => absurd z (by simp)
section
variable {Y : Cx} {A0 : Around} {elt tg iter : Expr} {scope : Scope} {pos : Pos} {it a : Addr} {g : Nat} {fp : List Addr} {tn : Nat → Heap → Prop} {J : It} {gt : TG} {te : TE} {σ : L2.St} {vs : List Nat} {st : Bool} {W : Nat → Nat → Hp → Prop} {Fin End : Hp → Prop} {go : Obj}
theorem gen_loop (hYA : Y.A = A0.over (gCode elt tg iter scope pos it Y.env) []) (hex : Y.ex = fp) (hpn : Y.pn = [(a, go)]) (hgo : ∀ h : Heap, h.get? a = some go → h.IsGen a g) (hna : ∀ b ∈ fp, b ≠ a) (hc : Y.calm = true) (hco : Y.env.scope.isCoroutine = false) (hxe : Y.xe = fun _ _ => False)
    (T : Turn Y.prog Y.w Y.K tg J fp it tn) (hg : PG Y tg gt) (he : PE Y elt te)
    (turn : ∀ i m H, W i m H → (J.stop i H ∧ End H) ∨ (J.go i H ∧ ∃ Nx : Hp → Prop, (∀ H', Nx H' → ∃ m', m' < m ∧ W (i + 1) m' H') ∧ ∀ x H', J.yld i H x H' → gt x (L2.wipe σ vs) H' fun σ2 H2 => L2.wipe σ2 vs = L2.wipe σ vs ∧ te σ2 H2 fun y H3 => ∃ b : Bool, y = .bl b ∧ if b = st then Fin H3 else Nx H3)) :
    ∀ (m n i : Nat) (s₀ s : Shared) (H : Hp), m < n → W i m H → Inv Y [] (L2.wipe σ vs) H s → tn i s.heap → (∀ b ∈ fp, H b = none) →
      Seg (model Y.prog Y.w) A0 (fun _ _ r s₁ => r = .ok .next ∧ ∃ H', Inv Y [] (L2.wipe σ vs) H' s₁ ∧ End H') (YG st a g fun s₁ => ∃ σ' H' pl, Inv Y pl σ' H' s₁ ∧ Fin H') n s₀ (gCode elt tg iter scope pos it Y.env)
        ((model Y.prog Y.w).den (gCode elt tg iter scope pos it Y.env)) [] s := by
  intro m
  induction m using Nat.strongRecOn with
  | ind m ih =>
    intro n i s₀ s H hmn w I st0 n0
    have stat : ∀ {σ' : L2.St} {H' : Hp} {s' : Shared}, Inv Y [] σ' H' s' → (∀ b ∈ fp, H' b = none) → ∀ b ∈ fp, FpOk Y [] H' b := fun {σ' H' s'} I' hn b hb =>
      ⟨hn b hb, (I'.ok.exf b (by rw [hex]; exact hb)).1, I'.ok.exfs b (by rw [hex]; exact hb), .inl (by rw [hex]; exact hb), fun x c e => (I'.ok.exf b (by rw [hex]; exact hb)).2 x c e, fun p hp => by
        rw [hpn] at hp
        have : p = (a, go) := by simpa using hp
        rw [this]
        exact Ne.symm (hna b hb)⟩
    have igen : ∀ {pl : List (Addr × Obj)} {σ' : L2.St} {H' : Hp} {s' : Shared}, Inv Y pl σ' H' s' → s'.heap.IsGen a g := fun {pl σ' H' s'} I' => hgo _ (I'.pin (a, go) (List.mem_append_left _ (by rw [hpn]; exact List.mem_singleton.mpr rfl))).1
    show Seg _ A0 _ _ n s₀ _ ((compTurn (.GeneratorExp elt [⟨tg, iter, [], 0⟩] scope pos) 0 (.ref it) .none Y.env).onRaise (leaving Y.env)) [] s
    rw [compTurn_gen, Sem.onRaise_eq_wrap]
    refine seg_bind_wrap (wpAny_standAt ?_)
    rcases turn i m H w with ⟨stop, qe⟩ | ⟨go', Nx, hNx, step⟩
    · refine seg_bind_wrap ?_
      rw [← hYA]
      refine thn (T.done Y rfl rfl rfl hc i [] s _ H _ I (stat I n0) st0 stop) fun r s6 ⟨hr, I6⟩ => ?_
      subst hr
      exact seg_end (.ok .next) ⟨rfl, H, I6, qe⟩
    · refine seg_bind_wrap ?_
      rw [← hYA]
      refine thn (T.item Y rfl rfl rfl hc i [] s _ H _ I (stat I n0) st0 go') fun r s6 ⟨u, hr, h6⟩ => ?_
      subst hr
      refine seg_bind_wrap ?_
      rw [← hYA]
      refine thn h6 fun _ s7 ⟨x, H7, I7, r7, y7, st7, n7⟩ => ?_
      have I7' := I7.pinned (stat I7 n7) (T.obj _ _ st7)
      refine seg_bind_wrap ?_
      rw [← hYA]
      have hgr := hg.run _ s7 _ H7 x u _ I7' r7 (step x H7 y7)
      rw [hxe] at hgr
      refine thnF hgr fun _ s8 ⟨σ8, H8, I8, hw8, q8⟩ => ?_
      refine seg_bind_wrap ?_
      simp only [List.forIn_nil]
      refine wpAny_pure ?_
      simp only [if_true]
      have hy : ∀ v, yieldOut Y.env v = yieldValue v := fun v => by simp only [yieldOut, hco, Bool.false_eq_true, if_false]
      simp only [hy]
      rw [Sem.bind_eq_wrap', Sem.bind_eq_wrap', Sem.wrap_wrap, Sem.wrap_wrap]
      refine seg_wrap ?_
      rw [← hYA]
      have her := he.run _ s8 σ8 H8 _ I8 q8
      rw [hxe] at her
      refine thnF her fun v s9 ⟨yv, H9, I9, r9, b, ev, q9⟩ => ?_
      subst ev
      obtain rfl : v = Value.bool b := r9
      obtain ⟨n', rfl⟩ : ∃ n', n = n' + 1 := ⟨n - 1, by omega⟩
      refine seg_at (seg_yield rfl rfl rfl ⟨b, rfl, igen I9, I9.nolimit, I9.bare, ?_⟩)
      by_cases hb : b = st
      · rw [if_pos hb] at q9 ⊢
        exact ⟨σ8, H9, _, I9, q9⟩
      · rw [if_neg hb] at q9 ⊢
        intro G hG
        obtain ⟨m', hm', w'⟩ := hNx H9 q9
        have I10 := inv_gens I9 hG
        have pin' : ∀ b ∈ fp, ∀ o, s7.heap.get? b = some o → s9.heap.get? b = some o ∧ H9 b = none := fun b hb o e =>
          let z := I9.pin (b, o) (List.mem_append_right _ (List.mem_append_right _ (mem_pinsAt hb e)))
          ⟨z.1, z.2.1⟩
        have hl : (L2.wipe σ vs).length = σ8.length := by rw [← hw8, wipe_length]
        refine seg_again rfl (ih m' hm' n' (i + 1) _ _ H9 (by omega) w' ((I10.unpinned (pins := [])).weak hl fun j v e => ?_) (T.keep _ _ _ st7 fun b hb o e => (pin' b hb o e).1) fun b hb => ?_)
        · rw [← hw8] at e
          exact (wipe_some e).1
        · obtain ⟨o, e, _⟩ := T.obj _ _ st7 b hb
          exact (pin' b hb o e).2
theorem gen_begin {s₀ s : Shared} {n : Nat} {R : GenEnd} {Yp : Protocol} {cenv : PySem.Env} {M : Program} {w : World} {K : PySem.W.Frag} (T : Turn M w K tg J fp it tn) (st0 : tn 0 s.heap)
    (loop : Seg (model M w) A0 R Yp n s₀ (gCode elt tg iter scope pos it cenv) ((model M w).den (gCode elt tg iter scope pos it cenv)) [] s) :
    Seg (model M w) A0 R Yp n s₀ (.compStart (.GeneratorExp elt [⟨tg, iter, [], 0⟩] scope pos) 0 (.ref it) .none cenv) ((model M w).den (.compStart (.GeneratorExp elt [⟨tg, iter, [], 0⟩] scope pos) 0 (.ref it) .none cenv)) [] s := by
  show Seg _ A0 _ _ _ s₀ _ ((compStart (.GeneratorExp elt [⟨tg, iter, [], 0⟩] scope pos) 0 (.ref it) .none cenv).onRaise (leaving cenv)) [] s
  unfold compStart
  rw [Sem.onRaise_eq_wrap]
  show Seg _ A0 _ _ _ s₀ _ ((ask >>= _).wrap _ _ _ _) [] s
  refine seg_bind_wrap (wpAny_askSetting ?_)
  split
  · exact seg_again rfl loop
  · first
      | exact seg_bind_wrap (wpAny_rule (seg_bind_wrap (wpAny_standAt (seg_bind_wrap (T.self _ 0 s _ _ st0 (seg_again rfl loop))))))
      | (refine seg_bind_wrap (wpAny_rule ?_); show Seg _ A0 _ _ _ s₀ _ ((standAt iter.pos >>= _).wrap _ _ _ _) [] s; exact seg_bind_wrap (wpAny_standAt (seg_bind_wrap (T.self _ 0 s _ _ st0 (seg_again rfl loop)))))
end

/-! ### the consumers -/
section
variable {P : Program} {w : World} {A : Around} {a : Addr} {g : Nat} {Fin End : Shared → Prop} {R : Result → Shared → Prop}
theorem gen_all (hh : A.handled = none) (hd : A.depth < recursionLimit) (hF : ∀ s, Fin s → ∀ G, AllBare G → R (.ok (.ret (.bool false))) { s with gens := G })
    (hE : ∀ s, End s → AllBare s.gens → ∀ G h', AllBare G → (∀ b o, s.heap.get? b = some o → h'.get? b = some o) → R (.ok (.ret (.bool true))) { s with gens := G, heap := h' }) (hEb : ∀ s, End s → AllBare s.gens) :
    ∀ (n : Nat) (s : Shared), s.heap.IsGen a g → s.heap.NoLimit → (∃ gs, s.gens[g]? = some gs ∧ gs.Goes (model P w) A.in1.in1 (fun _ _ r s₁ => r = .ok .next ∧ End s₁) (YG false a g Fin) n (.send .none) (s.setGen g .running)) →
      codeAny (model P w) A (.builtin "all.loop" ⟨[.ref a], []⟩) R s := by
  intro n
  induction n with
  | zero =>
    intro s hg hl ⟨gs, hgs, hgo⟩
    refine codeAny_builtin F.entry_all_loop ?_
    rw [Around.under_plainId F.plain_all_loop _]
    show wpAny _ A.in1 (pyNext (.ref a) >>= _) _ _ s
    refine wpAny_bind (wpAny_pyNext_genexpQ (A := A.in1) hh hl hd hg hgs (P := fun _ _ s₁ => End s₁) hgo (fun v s₁ gs' hbare hv => ?_) fun s₁ hp h' hk => ?_)
    · obtain ⟨b, rfl, hg1, hl1, hb1, hk⟩ := hv
      refine wpAny_bind (wpAny_holding (wpAny_truthy_bool ?_))
      refine wpAny_bind (wpAny_letGo ?_)
      cases b with
      | true => exact (hk s₁.gens hb1).elim
      | false =>
        simp only [Bool.false_eq_true, if_false]
        refine wpAny_bind (wpAny_rule (wpAny_pure ?_))
        exact hF s₁ hk _ (allBare_setGen hb1 hbare)
    · refine wpAny_bind (wpAny_rule (wpAny_pure ?_))
      exact hE s₁ hp (hEb _ hp) _ h' (allBare_setGen (hEb _ hp) rfl) hk
  | succ n ih =>
    intro s hg hl ⟨gs, hgs, hgo⟩
    have hgl : g < s.gens.size := (Array.getElem?_eq_some_iff.mp hgs).1
    refine codeAny_builtin F.entry_all_loop ?_
    rw [Around.under_plainId F.plain_all_loop _]
    show wpAny _ A.in1 (pyNext (.ref a) >>= _) _ _ s
    refine wpAny_bind (wpAny_gsz (n := g + 1) hgl (wpAny_pyNext_genexpQ (A := A.in1) hh hl hd hg hgs (P := fun _ _ s₁ => End s₁) hgo (fun v s₁ gs' hbare hv => ?_) fun s₁ hp h' hk => ?_))
    · intro hsz
      obtain ⟨b, rfl, hg1, hl1, hb1, hk⟩ := hv
      refine wpAny_bind (wpAny_holding (wpAny_truthy_bool ?_))
      refine wpAny_bind (wpAny_letGo ?_)
      have hsz1 : g < s₁.gens.size := by
        have q : (s₁.setGen g gs').gens.size = s₁.gens.size := setGen_size _ _ _
        have hsz' : g + 1 ≤ (s₁.setGen g gs').gens.size := hsz
        omega
      cases b with
      | true =>
        simp only [if_true]
        refine wpAny_pure ⟨plainId_quiet F.plain_all_loop _, ih (s₁.setGen g gs') hg1 hl1 ⟨gs', setGen_at hsz1, ?_⟩⟩
        have hb2 : AllBare (s₁.setGen g gs').gens := allBare_setGen hb1 hbare
        have z := hk ((s₁.setGen g gs').setGen g .running).gens (allBare_setGen (s := s₁.setGen g gs') hb2 rfl)
        exact z
      | false =>
        simp only [Bool.false_eq_true, if_false]
        refine wpAny_bind (wpAny_rule (wpAny_pure ?_))
        exact hF s₁ hk _ (allBare_setGen hb1 hbare)
    · intro _
      refine wpAny_bind (wpAny_rule (wpAny_pure ?_))
      exact hE s₁ hp (hEb _ hp) _ h' (allBare_setGen (hEb _ hp) rfl) hk
theorem gen_any (hh : A.handled = none) (hd : A.depth < recursionLimit) (hF : ∀ s, Fin s → ∀ G, AllBare G → R (.ok (.ret (.bool true))) { s with gens := G })
    (hE : ∀ s, End s → AllBare s.gens → ∀ G h', AllBare G → (∀ b o, s.heap.get? b = some o → h'.get? b = some o) → R (.ok (.ret (.bool false))) { s with gens := G, heap := h' }) (hEb : ∀ s, End s → AllBare s.gens) :
    ∀ (n : Nat) (s : Shared), s.heap.IsGen a g → s.heap.NoLimit → (∃ gs, s.gens[g]? = some gs ∧ gs.Goes (model P w) A.in1.in1 (fun _ _ r s₁ => r = .ok .next ∧ End s₁) (YG true a g Fin) n (.send .none) (s.setGen g .running)) →
      codeAny (model P w) A (.builtin "any.loop" ⟨[.ref a], []⟩) R s := by
  intro n
  induction n with
  | zero =>
    intro s hg hl ⟨gs, hgs, hgo⟩
    refine codeAny_builtin F.entry_any_loop ?_
    rw [Around.under_plainId F.plain_any_loop _]
    show wpAny _ A.in1 (pyNext (.ref a) >>= _) _ _ s
    refine wpAny_bind (wpAny_pyNext_genexpQ (A := A.in1) hh hl hd hg hgs (P := fun _ _ s₁ => End s₁) hgo (fun v s₁ gs' hbare hv => ?_) fun s₁ hp h' hk => ?_)
    · obtain ⟨b, rfl, hg1, hl1, hb1, hk⟩ := hv
      refine wpAny_bind (wpAny_holding (wpAny_truthy_bool ?_))
      refine wpAny_bind (wpAny_letGo ?_)
      cases b with
      | false => exact (hk s₁.gens hb1).elim
      | true =>
        simp only [if_true]
        refine wpAny_bind (wpAny_rule (wpAny_pure ?_))
        exact hF s₁ hk _ (allBare_setGen hb1 hbare)
    · refine wpAny_bind (wpAny_rule (wpAny_pure ?_))
      exact hE s₁ hp (hEb _ hp) _ h' (allBare_setGen (hEb _ hp) rfl) hk
  | succ n ih =>
    intro s hg hl ⟨gs, hgs, hgo⟩
    have hgl : g < s.gens.size := (Array.getElem?_eq_some_iff.mp hgs).1
    refine codeAny_builtin F.entry_any_loop ?_
    rw [Around.under_plainId F.plain_any_loop _]
    show wpAny _ A.in1 (pyNext (.ref a) >>= _) _ _ s
    refine wpAny_bind (wpAny_gsz (n := g + 1) hgl (wpAny_pyNext_genexpQ (A := A.in1) hh hl hd hg hgs (P := fun _ _ s₁ => End s₁) hgo (fun v s₁ gs' hbare hv => ?_) fun s₁ hp h' hk => ?_))
    · intro hsz
      obtain ⟨b, rfl, hg1, hl1, hb1, hk⟩ := hv
      refine wpAny_bind (wpAny_holding (wpAny_truthy_bool ?_))
      refine wpAny_bind (wpAny_letGo ?_)
      have hsz1 : g < s₁.gens.size := by
        have q : (s₁.setGen g gs').gens.size = s₁.gens.size := setGen_size _ _ _
        have hsz' : g + 1 ≤ (s₁.setGen g gs').gens.size := hsz
        omega
      cases b with
      | false =>
        simp only [Bool.false_eq_true, if_false]
        refine wpAny_pure ⟨plainId_quiet F.plain_any_loop _, ih (s₁.setGen g gs') hg1 hl1 ⟨gs', setGen_at hsz1, ?_⟩⟩
        have hb2 : AllBare (s₁.setGen g gs').gens := allBare_setGen hb1 hbare
        have z := hk ((s₁.setGen g gs').setGen g .running).gens (allBare_setGen (s := s₁.setGen g gs') hb2 rfl)
        exact z
      | true =>
        simp only [if_true]
        refine wpAny_bind (wpAny_rule (wpAny_pure ?_))
        exact hF s₁ hk _ (allBare_setGen hb1 hbare)
    · intro _
      refine wpAny_bind (wpAny_rule (wpAny_pure ?_))
      exact hE s₁ hp (hEb _ hp) _ h' (allBare_setGen (hEb _ hp) rfl) hk
end

/-! ### made, then walked -/
section
variable {X : Cx} {pins : List (Addr × Obj)} {σ : L2.St} {H : Hp} {s : Shared}
/-- a generator expression as it was made in the state s3, in s5 -/
structure Made (X : Cx) (pins : List (Addr × Obj)) (σ : L2.St) (elt tg iter : Expr) (scope : Scope) (pos : Pos) (J : It) (H2 : Hp) (a : Addr) (s5 : Shared) : Prop where
  ex : ∃ (s3 : Shared) (it : Addr) (fp : List Addr) (tn : Nat → Heap → Prop) (g : Nat) (go : Obj) (code : Value) (m : Str → Option Value), Inv X pins σ H2 s3 ∧ Turn X.prog X.w X.K tg J fp it tn ∧ tn 0 s5.heap ∧ (∀ b ∈ fp, FpOk X pins H2 b ∧ b < s3.heap.objs.size) ∧
    (∀ b o, s3.heap.get? b = some o → s5.heap.get? b = some o) ∧ s5.heap.Ns s3.heap.objs.size m ∧ s3.heap.objs.size < a ∧ s5.heap.get? a = some go ∧ (∀ v, go.data ≠ .cell v) ∧ (∀ h : Heap, h.get? a = some go → h.IsGen a g) ∧
    s5.gens[g]? = some (.fresh (.compStart (.GeneratorExp elt [⟨tg, iter, [], 0⟩] scope pos) 0 (.ref it) .none (gEnv X scope s3.heap.objs.size code))) ∧ AllBare s5.gens ∧ s5 = { s3 with heap := s5.heap, gens := s5.gens, toks := s5.toks }
theorem gen_made {c P : Addr} {elt tg iter : Expr} {gpos : Pos} {scope : Scope} {own : List (Str × Nat)} {wi : TI} {Q' : Value → Shared → Prop} {Rr : It → Hp → Prop}
    (hd : X.A.depth < recursionLimit) (TB : TabB X.base X.mg c P) (hcode : X.env.code = .ref c) (S : GenOk X.N X.env.scope scope own) (hi : PI X tg iter wi)
    (hs : ∀ v, genFold iter X.env v = pure v) (I : Inv X pins σ H s) (h : wi σ H fun J H1 => TabG H1 P ∧ Rr J H1)
    (hQ : ∀ J H1 H2 a s5, Rr J H1 → Tabbed P H1 H2 → Made X pins σ elt tg iter scope gpos J H2 a s5 → Q' (.ref a) s5) :
    wpAny (model X.prog X.w) X.A (eval (.GeneratorExp elt [⟨tg, iter, [], 0⟩] scope gpos) X.env) Q' X.xe s := by
  have hfree : ∀ y ∈ scope.names, y.2 = .free → ∃ c, X.env.cells.lookup y.1 = some c := fun y hy e => by
    rcases S.blk.free y hy e with k | k
    · exact I.ok.has _ (.inl k)
    · exact I.ok.has _ (.inr k)
  refine wpAny_GeneratorExp_make S.co (closure_ok hfree) S.cell S.dot S.blk.kind hd ?_ hs
  refine thn (hi.run pins s σ H _ I h) fun v s1 h1 => thn h1 fun itv s2 h2 => ?_
  obtain ⟨it, fp, tn, J, H1, e, I2, T, st2, f2, ⟨ps, hP, ht⟩, q⟩ := h2
  subst e
  have hPs : s2.heap.get? P = some { cls := .none, data := .fields ps } := I2.hok P _ hP
  have cd : PySem.W.CodeHd s2.heap c P := TB.code.keeps fun b u e => I2.bk b u e
  have cont : ∀ (code : Value) (h3 : Heap) (tk : Nat) (ps' : Array Value), Heap.ExtBut P s2.heap h3 → s2.heap.objs.size ≤ h3.objs.size → h3.get? P = some { cls := .none, data := .fields ps' } → (∃ more, ps' = ps ++ more) → TriplesOk ps'.toList →
      wpAny (model X.prog X.w) X.A (builtinsFor X.env.globals X.env.builtins) (fun bi s₄ =>
        ∀ h', h'.Ns s₄.heap.objs.size (fun y => if y = ".0" then some (.ref it) else none) → Heap.SameBut s₄.heap.objs.size (s₄.heap.push { cls := .type "frame", data := .dict #[] }) h' →
          Q' (.ref h'.objs.size) { s₄ with
            gens := s₄.gens.push (.fresh (.compStart (.GeneratorExp elt [⟨tg, iter, [], 0⟩] scope gpos) 0 (.ref it) .none (genEnv scope (cloFrom X.env.cells scope.names []) s₄.heap.objs.size code bi X.env))),
            toks := s₄.toks + 1 + 1 + 1,
            heap := h'.push { cls := .type "generator", data := .fields #[.int s₄.gens.size 0, .str "<genexpr>" (s₄.toks + 1), .str (X.env.qual ++ "<genexpr>") (s₄.toks + 1 + 1)] } }) X.xe { s2 with heap := h3, toks := tk } := by
    intro code h3 tk ps' hx hsz hP3 hmore ht3
    obtain ⟨bm, ob, e1, e2, e3, e4, e5, e6, e7, e8⟩ := TB.bm
    have keep3 : ∀ b u, b ≠ P → s2.heap.get? b = some u → h3.get? b = some u := fun b u hb e => hx b u hb e
    refine wpAny_builtinsFor (m := X.mg) (by rw [I2.ok.glob]; exact ((I2.mod.glob.keeps I2.bk)).extBut hx TB.gP) e1 e2 (keep3 _ _ e4 (I2.bk _ _ e5)) e6 e7 e8 ?_
    intro h' hn' hs'
    obtain ⟨more, em⟩ := hmore
    have I3 := inv_tab (more := more) (h' := h3) (g' := s2.gens) (d' := s2.drawn) (t' := tk) I2 hP keep3 (by rw [← em]; exact hP3) I2.bare
    have hszh : h'.objs.size = h3.objs.size + 1 := by rw [hs'.1, Heap.size_push]
    have keep' : ∀ b o, h3.get? b = some o → h'.get? b = some o := fun b o e => hs'.extBut b o (Nat.ne_of_lt (Heap.lt_size e)) (Heap.get?_push_of_some _ e)
    have fpP : ∀ b ∈ fp, b ≠ P := fun b hb z => by
      have := (f2 b hb).1
      rw [z, hP] at this
      cases this
    have fps : ∀ b ∈ fp, ∃ o, h3.get? b = some o := fun b hb => by
      obtain ⟨o, e, _⟩ := T.obj _ _ st2 b hb
      exact ⟨o, keep3 b o (fpP b hb) e⟩
    refine hQ J H1 (upd H1 P (.tbl (ps ++ more))) _ _ q ⟨⟨ps ++ more, upd_same, by rw [← em]; exact ht3⟩, fun b hb => upd_ne hb⟩ ⟨{ s2 with heap := h3, toks := tk }, it, fp, tn, s2.gens.size, _, code, _, I3, T, T.keep _ _ _ st2 fun b hb o e => Heap.get?_push_of_some _ (keep' b o (keep3 b o (fpP b hb) e)), fun b hb => ⟨⟨?_, (f2 b hb).2⟩, ?_⟩,
      fun b o e => Heap.get?_push_of_some _ (keep' b o e), hn'.push _, by rw [hszh]; exact Nat.lt_succ_self _, Heap.get?_push_size _ rfl, fun v z => (by cases z), fun h e => ⟨_, _, _, e, rfl, rfl, rfl⟩, Array.getElem?_push_size .., I2.bare.push rfl, rfl⟩
    · rw [upd_ne (fpP b hb)]; exact (f2 b hb).1
    · obtain ⟨o, e⟩ := fps b hb
      exact Heap.lt_size e
  refine ⟨I2.nolimit, ?_⟩
  cases hf : codeAmong gpos ps.toList with
  | none =>
    refine wpAny_genexprCodeX hcode (cd.code hPs ht) (cd.tab hPs) hf fun c' h' tk hx hge hlt hco' _ htab' _ => ?_
    obtain ⟨o1, vs, f1, tf, fl, tg, inF, tx, tt, op, _, _, _, _, _, _, _, _, _, htr, _⟩ := hco'
    exact cont _ h' tk _ hx (Nat.le_trans hge (Nat.le_of_lt hlt)) htab'.2 ⟨_, rfl⟩ htr
  | some cv =>
    refine wpAny_genexprCode_hit hcode (cd.code hPs ht) hf ?_
    exact cont cv s2.heap s2.toks ps (Heap.ExtBut.refl _ _) (Nat.le_refl _) hPs ⟨#[], by simp⟩ ht

/-- the consumer's around -/
theorem over_units {A : Around} {elt tg iter : Expr} {scope : Scope} {pos : Pos} {it : Addr} {cenv : PySem.Env} : (A.over (gCode elt tg iter scope pos it cenv) []).depth = A.depth + 1 ∧ (A.over (gCode elt tg iter scope pos it cenv) []).units = A.units + 3 ∧ (A.over (gCode elt tg iter scope pos it cenv) []).handled = A.handled := ⟨rfl, rfl, rfl⟩
theorem over_frames {A : Around} {elt tg iter : Expr} {scope : Scope} {pos : Pos} {it : Addr} {cenv : PySem.Env} {l : List PySem.Env} (h : A.frames = some l) : (A.over (gCode elt tg iter scope pos it cenv) []).frames = some (cenv :: l) := by
  unfold Around.over
  dsimp only
  rw [h]
  rfl
/-- the block's premises -/
structure GenB (X : Cx) (st : Bool) (k : Nat) (tg elt : Expr) (scope : Scope) (own : List (Str × Nat)) (g : TG) (te : TE) : Prop where
  ok : GenOk X.N X.env.scope scope own
  hg : ∀ (A' : Around) (s : Shared) (H : Hp) (C : Addr) (code : Value) (fp : List Addr) (pn : List (Addr × Obj)), Room k A' → PG (genX X A' s H (gEnv X scope C code) fp pn) tg g
  he : ∀ (A' : Around) (s : Shared) (H : Hp) (C : Addr) (code : Value) (fp : List Addr) (pn : List (Addr × Obj)), Room k A' → PE (genX X A' s H (gEnv X scope C code) fp pn) elt te
/-- the end of a walk that is made -/
theorem made_walk {st : Bool} {k : Nat} {elt tg iter : Expr} {scope : Scope} {own : List (Str × Nat)} {gpos : Pos} {J : It} {H2 : Hp} {a : Addr} {s5 : Shared} {gt : TG} {te : TE} {Q : VK} (hr : Room (k + 1) X.A) (hfr : X.A.frames = some X.stack) (hN : X.N.Nodup) (B : GenB X st k tg elt scope own gt te) (M : Made X pins σ elt tg iter scope gpos J H2 a s5)
    (hW : ∃ W : Nat → Nat → Hp → Prop, (∃ m, W 0 m H2) ∧ ∀ i m H, W i m H → (J.stop i H ∧ Q (.bl (!st)) H) ∨ (J.go i H ∧ ∃ Nx : Hp → Prop, (∀ H', Nx H' → ∃ m', m' < m ∧ W (i + 1) m' H') ∧ ∀ x H', J.yld i H x H' → gt x (L2.wipe σ (own.map (·.2))) H' fun σ2 H2 => L2.wipe σ2 (own.map (·.2)) = L2.wipe σ (own.map (·.2)) ∧ te σ2 H2 fun y H3 => ∃ b : Bool, y = .bl b ∧ if b = st then Q (.bl st) H3 else Nx H3)) :
    ∃ (g n : Nat) (Fin End : Shared → Prop), s5.heap.IsGen a g ∧ s5.heap.NoLimit ∧ (∃ gs, s5.gens[g]? = some gs ∧ gs.Goes (model X.prog X.w) X.A.in1.in1 (fun _ _ r s₁ => r = .ok .next ∧ End s₁) (YG st a g Fin) n (.send .none) (s5.setGen g .running)) ∧
      (∀ s, Fin s → ∀ G, AllBare G → EP X pins σ Q (.bool st) { s with gens := G }) ∧ (∀ s, End s → AllBare s.gens) ∧
      ∀ s, End s → AllBare s.gens → ∀ G h', AllBare G → (∀ b o, s.heap.get? b = some o → h'.get? b = some o) → EP X pins σ Q (.bool (!st)) { s with gens := G, heap := h' } := by
  obtain ⟨s3, it, fp, tn, g, go, code, mm, I3, T, st5, f3, kp, hns, hlt, hga, hgd, hgen, hgs, hb5, e5⟩ := M.ex
  obtain ⟨W, ⟨m0, w0⟩, turn⟩ := hW
  let cenv := gEnv X scope s3.heap.objs.size code
  let Ag : Around := X.A.in1.in1.over (gCode elt tg iter scope gpos it cenv) []
  have hAg : Ag.handled = none := hr.hd
  have rAg : Room k Ag := ⟨hr.hd, by have := hr.dp; show X.A.depth + 1 + 3 * k + 5 < _; omega, by have := hr.un; show X.A.units + 1 + 1 + 3 + 16 * k + 200 < _; omega⟩
  have hF : Ag.frames = some (cenv :: X.stack) := over_frames (show X.A.in1.in1.frames = some X.stack from hfr)
  let Y : Cx := genX X Ag s3 H2 cenv fp [(a, go)]
  have J0 : Inv Y [] (L2.wipe σ (own.map (·.2))) H2 { s3 with heap := s5.heap, gens := (s5.setGen g .running).gens, toks := s5.toks } :=
    gen_start (t := s5.toks) I3 B.ok hN f3 hAg hF kp hns hlt hga hgd (allBare_setGen hb5 rfl)
  have e6 : ({ s3 with heap := s5.heap, gens := (s5.setGen g .running).gens, toks := s5.toks } : Shared) = s5.setGen g .running := by
    rw [e5]
    rfl
  rw [e6] at J0
  have back : ∀ {pl : List (Addr × Obj)} {σ' : L2.St} {H' : Hp} {s' : Shared}, Inv Y pl σ' H' s' → Inv X pins σ H' s' := fun {pl σ' H' s'} I' =>
    I3.call' (ch := fp) I'.os I'.base I'.hok I'.bare fun b hb => ⟨(f3 b hb).1.2.2.2.1, (f3 b hb).1.2.1, (f3 b hb).1.2.2.2.2.1, (f3 b hb).1.2.2.2.2.2⟩
  have hna : ∀ b ∈ fp, b ≠ a := fun b hb => Nat.ne_of_lt (Nat.lt_trans (f3 b hb).2 hlt)
  have loop := gen_loop (Y := Y) (A0 := X.A.in1.in1) (elt := elt) (tg := tg) (iter := iter) (scope := scope) (pos := gpos) (it := it) (a := a) (g := g) (fp := fp) (tn := tn) (J := J) (gt := gt) (te := te) (σ := σ) (vs := own.map (·.2)) (st := st) (W := W) (Fin := fun H' => Q (.bl st) H') (End := fun H' => Q (.bl (!st)) H') (go := go)
    rfl rfl rfl hgen hna rfl B.ok.co rfl T (B.hg Ag s3 H2 _ code fp _ rAg) (B.he Ag s3 H2 _ code fp _ rAg) turn
    m0 (m0 + 1) 0 (s5.setGen g .running) (s5.setGen g .running) H2 (Nat.lt_succ_self _) w0 J0 st5 (fun b hb => (f3 b hb).1.1)
  refine ⟨g, m0 + 1, _, _, hgen _ hga, I3.nolimit.keeps kp, ⟨_, hgs, rfl, gen_begin T st5 loop⟩, fun s hs G hG => ?_, fun s hs => ?_, fun s hs hb G h' hG hk => ?_⟩
  · obtain ⟨σ', H', pl, I', q⟩ := hs
    exact ⟨.bl st, H', back (inv_gens I' hG), rfl, q⟩
  · obtain ⟨H', I', q⟩ := hs
    exact I'.bare
  · obtain ⟨H', I', q⟩ := hs
    have I2 := back (inv_gens I' hG)
    exact ⟨.bl (!st), H', Inv.kept (h' := h') (t' := s.toks) I2 hk, rfl, q⟩
theorem pe_genAll {c P : Addr} {elt tg iter : Expr} {p pos gpos : Pos} {scope : Scope} {own : List (Str × Nat)} {wi : TI} {gt : TG} {te : TE} {k : Nat}
    (hr : Room (k + 1) X.A) (hfr : ∀ {pins σ H s}, Inv X pins σ H s → X.A.frames = some X.stack) (hN : X.N.Nodup) (hg : Gl X "all") (hm : X.mg "all" = none) (hb : bootBuiltins "all" = some (.builtin "all")) (TB : TabB X.base X.mg c P) (hcode : X.env.code = .ref c) (B : GenB X false k tg elt scope own gt te) (hi : PI X tg iter wi)
    (hs : ∀ v, genFold iter X.env v = pure v)
    (he : starEach [.GeneratorExp elt [⟨tg, iter, [], 0⟩] scope gpos] X.env = (false, eval (.GeneratorExp elt [⟨tg, iter, [], 0⟩] scope gpos) X.env) :: starEach [] X.env) :
    PE X (.Call (.Name "all" p) [.GeneratorExp elt [⟨tg, iter, [], 0⟩] scope gpos] [] pos) (tGen false P wi gt te (own.map (·.2))) := by
  refine ⟨fun pins s σ H Q I h => ?_⟩
  refine wpAny_Call_Name_kw (ld_blt I hg hm hb ?_)
  refine PyProof.Rows.callWith_builtin1 ?_ he (by rfl)
  rw [he]
  show wpAny _ _ (spliced ((false, eval (.GeneratorExp elt [⟨tg, iter, [], 0⟩] scope gpos) X.env) :: backTo pos (starEach [] X.env))) _ _ s
  refine Calls.spliced_cons (gen_made (by have := hr.dp; omega) TB hcode B.ok hi hs I h fun J H1 H2 a s5 hR hT hM => ?_)
  refine Calls.spliced_nil ?_
  obtain ⟨g, n, Fin, End, q1, q2, q3, q4, q5, q6⟩ := made_walk hr (hfr I) hN B hM (hR H2 hT)
  refine call_function_tree F.kind_all F.plain_all F.entry_all (F.args_all1 _) ?_
  unfold Builtin.«all»
  refine wpAny_bind (m := oneArg "all" _) (wpAny_pure ?_)
  refine wpAny_bind (wpAny_pyIter_gen q1 ?_)
  exact wpAny_pure ⟨plainId_quiet F.plain_all_loop _, gen_all hr.hd (by have := hr.dp; show X.A.depth < _; omega) q4 q6 q5 n s5 q1 q2 q3⟩
theorem pe_genAny {c P : Addr} {elt tg iter : Expr} {p pos gpos : Pos} {scope : Scope} {own : List (Str × Nat)} {wi : TI} {gt : TG} {te : TE} {k : Nat}
    (hr : Room (k + 1) X.A) (hfr : ∀ {pins σ H s}, Inv X pins σ H s → X.A.frames = some X.stack) (hN : X.N.Nodup) (hg : Gl X "any") (hm : X.mg "any" = none) (hb : bootBuiltins "any" = some (.builtin "any")) (TB : TabB X.base X.mg c P) (hcode : X.env.code = .ref c) (B : GenB X true k tg elt scope own gt te) (hi : PI X tg iter wi)
    (hs : ∀ v, genFold iter X.env v = pure v)
    (he : starEach [.GeneratorExp elt [⟨tg, iter, [], 0⟩] scope gpos] X.env = (false, eval (.GeneratorExp elt [⟨tg, iter, [], 0⟩] scope gpos) X.env) :: starEach [] X.env) :
    PE X (.Call (.Name "any" p) [.GeneratorExp elt [⟨tg, iter, [], 0⟩] scope gpos] [] pos) (tGen true P wi gt te (own.map (·.2))) := by
  refine ⟨fun pins s σ H Q I h => ?_⟩
  refine wpAny_Call_Name_kw (ld_blt I hg hm hb ?_)
  refine PyProof.Rows.callWith_builtin1 ?_ he (by rfl)
  rw [he]
  show wpAny _ _ (spliced ((false, eval (.GeneratorExp elt [⟨tg, iter, [], 0⟩] scope gpos) X.env) :: backTo pos (starEach [] X.env))) _ _ s
  refine Calls.spliced_cons (gen_made (by have := hr.dp; omega) TB hcode B.ok hi hs I h fun J H1 H2 a s5 hR hT hM => ?_)
  refine Calls.spliced_nil ?_
  obtain ⟨g, n, Fin, End, q1, q2, q3, q4, q5, q6⟩ := made_walk hr (hfr I) hN B hM (hR H2 hT)
  refine call_function_tree F.kind_any F.plain_any F.entry_any (F.args_any1 _) ?_
  unfold Builtin.«any»
  refine wpAny_bind (m := oneArg "any" _) (wpAny_pure ?_)
  refine wpAny_bind (wpAny_pyIter_gen q1 ?_)
  exact wpAny_pure ⟨plainId_quiet F.plain_any_loop _, gen_any hr.hd (by have := hr.dp; show X.A.depth < _; omega) q4 q6 q5 n s5 q1 q2 q3⟩
end
end Py
end

section
set_option Elab.async false
set_option linter.all false
set_option maxRecDepth 100000
set_option maxHeartbeats 400000
/-! PyGen2: all, any as core terms. -/
namespace Py
open PySem PySem.Spec PyProof.Rows L2 GxR
open PySem (Str)
variable [Tabs]
section
variable {X : Cx} {cl : Nat → Addr} {W : WX} {c : Cfg}
/-- a table has grown -/
theorem tabbed_tr {ρ : Rho} {H1 H2 : Hp} {P : Addr} (h1 : TabG H1 P) (h : Tabbed P H1 H2) : Tr ρ ρ H1 H2 := by
  obtain ⟨ps, hP, _⟩ := h1
  obtain ⟨⟨ps2, hP2, _⟩, hk⟩ := h
  refine ⟨Nat.le_refl _, rfl, fun _ _ e _ => e, fun l a e q => (by rw [List.getElem?_eq_none q] at e; cases e), fun a o e n f => ?_, fun a e => ?_⟩
  · by_cases q : a = P
    · rw [q, hP] at e
      cases e
      exact absurd rfl (n ps)
    · rw [hk a q]; exact e
  · by_cases q : a = P
    · rw [q, hP2] at e; cases e
    · rw [hk a q] at e; exact e
theorem tabbed_mem {K : PySem.W.Frag} {ρ : Rho} {H1 H2 : Hp} {P : Addr} {m : Mem} (x : MemOk K ρ H1 m) (h1 : TabG H1 P) (h : Tabbed P H1 H2) : MemOk K ρ H2 m := by
  have t := tabbed_tr (ρ := ρ) h1 h
  obtain ⟨ps, hP, _⟩ := h1
  have hd : ∀ a o, H1 a = some o → ∃ o', H2 a = some o' := fun a o e => by
    cases q : H2 a with
    | none => rw [t.dom a q] at e; cases e
    | some o' => exact ⟨o', rfl⟩
  have mo : Mo ρ ρ H1 H2 := t.mo
  refine ⟨x.len, x.one, x.apart, fun l a e => let ⟨o, q⟩ := x.live l a e; hd a o q, fun a e => let ⟨o, q⟩ := x.hid a e; hd a o q, fun l d e => ?_, fun P' hP' => ?_⟩
  · exact (x.cell l d e).mo (fun _ e => e) (fun b o g1 g2 nt => by
      rw [h.2 b fun q => by rw [q, hP] at g2; cases g2; exact nt _ rfl]
      exact g2) mo
  · by_cases q : P' = P
    · rw [q]; exact h.1
    · rw [h.2 P' q]; exact x.tab P' hP'
def genF (c : Cfg) (e : Env) (own : List Nat) (t : Tg) (el : C) (x : D) (m : Mem) : R Bool := match bindT t x (wipeE e own) with
  | none => .no
  | some e' => boolR (ev c e' el m)
def genL (st : Bool) (f : D → Mem → R Bool) : List D → Mem → R Bool := if st then anyL f else allL f
theorem genL_nil {st : Bool} {f : D → Mem → R Bool} {m : Mem} : genL st f [] m = .ok (!st) m := by cases st <;> rfl
theorem genL_cons {st : Bool} {f : D → Mem → R Bool} {x : D} {xs : List D} {m : Mem} : genL st f (x :: xs) m = (f x m).bind fun b m' => if b = st then .ok st m' else genL st f xs m' := by
  cases st
  · show allL f (x :: xs) m = _
    rw [allL]
    cases f x m with
    | ok b m' => cases b <;> rfl
    | ex _ _ => rfl
    | no => rfl
  · show anyL f (x :: xs) m = _
    rw [anyL]
    cases f x m with
    | ok b m' => cases b <;> rfl
    | ex _ _ => rfl
    | no => rfl
theorem ev_all {e : Env} {own : List Nat} {t : Tg} {k : IK} {its : List C} {el : C} {m : Mem} : ev c e (.all own t k its el) m = (itemsR c e k its m).bind fun xs m1 => (noEx (genL false (genF c e own t el) xs m1)).bind fun b m2 => .ok (.bl b) m2 := by
  rw [ev]
  unfold itemsR
  cases evs c e its m with
  | ok ds m1 =>
    simp only [R.bind_ok]
    cases itemsOf k ds m1 <;> rfl
  | ex _ _ => rfl
  | no => rfl
theorem ev_any {e : Env} {own : List Nat} {t : Tg} {k : IK} {its : List C} {el : C} {m : Mem} : ev c e (.any own t k its el) m = (itemsR c e k its m).bind fun xs m1 => (noEx (genL true (genF c e own t el) xs m1)).bind fun b m2 => .ok (.bl b) m2 := by
  rw [ev]
  unfold itemsR
  cases evs c e its m with
  | ok ds m1 =>
    simp only [R.bind_ok]
    cases itemsOf k ds m1 <;> rfl
  | ex _ _ => rfl
  | no => rfl
/-- a part of a block's run -/
theorem RG.partN {K : PySem.W.Frag} {WF : XK} {ρ : Rho} {H : Hp} {Q : VK} {α β γ : Type} {Rm : Rho → Hp → α → β → Prop} {r : R α} {g : α → Mem → R γ} {h : γ → Mem → R D} (hh : RG (Rep K) K cl WF ρ H Q ((noEx (r.bind g)).bind h)) (ρ' : Rho) (H' : Hp) :
    RG Rm K cl (fun _ _ _ => False) ρ' H' (fun v H1 => ∃ ρ1 a m1, Tr ρ' ρ1 H' H1 ∧ Rm ρ1 H1 a v ∧ MemOk K ρ1 H1 m1 ∧ RG (Rep K) K cl WF ρ H Q ((noEx (g a m1)).bind h)) r := by
  cases r with
  | ok a m => exact fun v ρ1 H1 t r x => ⟨ρ1, a, m, t, r, x, hh⟩
  | ex _ _ => exact hh.elim
  | no => exact hh.elim
theorem gen_end {st : Bool} {P : Addr} (hP : P ∈ Tabs.tb) {own : List Nat} {t : Tg} {k : IK} {its : List C} {el : C} {σ : L2.St} {H : Hp} {Q : VK} (hown : ∀ i ∈ tgN t, i ∈ own)
    (h : tE X cl W (fun en μ => (itemsR c en k its μ).bind fun xs m1 => (noEx (genL st (genF c en own t el) xs m1)).bind fun b m2 => .ok (.bl b) m2) σ H Q) :
    tGen st P (tI X cl W fun en μ => itemsR c en k its μ) (gB X.K t) (tE X cl Wn fun en μ => ev c en el μ) own σ H Q := by
  obtain ⟨ρ, en, μ, h1, h2, h3⟩ := h
  dsimp only at h3
  refine ⟨ρ, en, μ, h1, h2, (RG.seq (Rm := RlW X.K) h3).mono fun J H1 ⟨ρ1, xs, μ1, t1, ⟨Pw, wk, p1⟩, x1, q⟩ => ⟨x1.tab P hP, fun H2 hT => ?_⟩⟩
  have tT := tabbed_tr (ρ := ρ1) (x1.tab P hP) hT
  have x2 := tabbed_mem x1 (x1.tab P hP) hT
  have E2 : EnvOk X.K ρ1 H2 (wipeE en own) (L2.wipe σ own) := ((h1.tr t1).tr tT).wipe own
  have q2 := RG.tr tT q
  refine ⟨fun i m H => m = xs.length - i ∧ i ≤ xs.length ∧ ∃ ρ μ, Tr ρ1 ρ H2 H ∧ MemOk X.K ρ H μ ∧ Pw ρ H ∧ EnvOk X.K ρ H (wipeE en own) (L2.wipe σ own) ∧
    RG (Rep X.K) X.K cl (fun c d => W c d σ) ρ1 H2 Q ((noEx (genL st (genF c en own t el) (xs.drop i) μ)).bind fun b m2 => .ok (.bl b) m2), ⟨xs.length, rfl, Nat.zero_le _, ρ1, μ1, Tr.refl, x2, wk.keep _ _ _ _ p1 tT.mo, E2, q2⟩, ?_⟩
  rintro i m H3 ⟨rfl, hi, ρ3, μ3, t3, x3, p3, e3, q3⟩
  by_cases hlt : i < xs.length
  · rw [List.drop_eq_getElem_cons hlt, genL_cons] at q3
    refine .inr ⟨wk.go _ _ i p3 hlt, fun H => i + 1 ≤ xs.length ∧ ∃ ρ μ, Tr ρ1 ρ H2 H ∧ MemOk X.K ρ H μ ∧ Pw ρ H ∧ EnvOk X.K ρ H (wipeE en own) (L2.wipe σ own) ∧
      RG (Rep X.K) X.K cl (fun c d => W c d σ) ρ1 H2 Q ((noEx (genL st (genF c en own t el) (xs.drop (i + 1)) μ)).bind fun b m2 => .ok (.bl b) m2), fun H' ⟨k1, k2⟩ => ⟨xs.length - (i + 1), by omega, rfl, k1, k2⟩, fun x H4 y => ?_⟩
    obtain ⟨d, hd, t4, x4, r4⟩ := wk.yld _ _ i x H4 μ3 hlt p3 x3 y
    have ed : xs[i] = d := by rw [List.getElem?_eq_getElem hlt] at hd; exact Option.some.inj hd
    rw [ed] at q3
    have E4 := e3.tr t4
    rw [genF] at q3
    cases qb : bindT t d (wipeE en own) with
    | none => rw [qb] at q3; exact q3.elim
    | some e' =>
      rw [qb] at q3
      dsimp only at q3
      unfold boolR at q3
      rw [R.bind_assoc] at q3
      refine ⟨ρ3, wipeE en own, μ3, d, E4, x4, r4, e', qb, fun σ' E' oo => ⟨(oo own hown).trans (wipe_wipe σ own), ?_⟩⟩
      refine ⟨ρ3, e', μ3, E', x4, (RG.partN (Rm := Rep X.K) q3 ρ3 H4).mono fun v H5 ⟨ρ5, dy, μ5, t5, r5, x5, q5⟩ => ?_⟩
      cases dy with
      | bl b =>
        refine ⟨b, r5.isB, ?_⟩
        dsimp only at q5
        simp only [R.bind_ok] at q5
        have t35 : Tr ρ1 ρ5 H2 H5 := (t3.trans t4).trans t5
        by_cases hb : b = st
        · rw [if_pos hb] at q5 ⊢
          simp only [noEx_ok, R.bind_ok] at q5
          exact q5 _ ρ5 H5 t35 (RepP.bl _) x5
        · rw [if_neg hb] at q5 ⊢
          exact ⟨hlt, ρ5, μ5, t35, x5, wk.keep _ _ _ _ (wk.keep _ _ _ _ p3 t4.mo) t5.mo, E4.tr t5, q5⟩
      | _ => exact q5.elim
  · have e : i = xs.length := by omega
    subst e
    rw [List.drop_length, genL_nil] at q3
    simp only [noEx_ok, R.bind_ok] at q3
    exact .inl ⟨wk.stop _ _ p3, q3 _ ρ3 H3 t3 (RepP.bl _) x3⟩
/-- the block's premises -/
structure GnOk (X : Cx) (cl : Nat → Addr) (c : Cfg) (k : Nat) (tg elt : Expr) (scope : Scope) (own : List (Str × Nat)) (t : Tg) (te : C) : Prop where
  ok : GenOk X.N X.env.scope scope own
  hg : ∀ (A' : Around) (s : Shared) (H : Hp) (C : Addr) (code : Value) (fp : List Addr) (pn : List (Addr × Obj)), Room k A' → Mg (genX X A' s H (gEnv X scope C code) fp pn) tg t
  he : ∀ (A' : Around) (s : Shared) (H : Hp) (C : Addr) (code : Value) (fp : List Addr) (pn : List (Addr × Obj)), Room k A' → Me (genX X A' s H (gEnv X scope C code) fp pn) cl Wn c elt te
  own : ∀ i ∈ tgN t, i ∈ own.map (·.2)
theorem GnOk.b {st : Bool} {k : Nat} {tg elt : Expr} {scope : Scope} {own : List (Str × Nat)} {t : Tg} {te : C} (B : GnOk X cl c k tg elt scope own t te) : GenB X st k tg elt scope own (gB X.K t) (tE X cl Wn fun en μ => ev c en te μ) := ⟨B.ok, B.hg, B.he⟩
theorem me_all {cc P : Addr} (hP : P ∈ Tabs.tb) {elt tg iter : Expr} {p pos gpos : Pos} {scope : Scope} {own : List (Str × Nat)} {t : Tg} {ik : IK} {its : List C} {te : C} {k : Nat}
    (hr : Room (k + 1) X.A) (hN : X.N.Nodup) (hg : Gl X "all") (hm : X.mg "all" = none) (TB : TabB X.base X.mg cc P) (hcode : X.env.code = .ref cc) (B : GnOk X cl c k tg elt scope own t te) (hi : Mi X cl W c tg iter ik its)
    (hs : ∀ v, genFold iter X.env v = pure v)
    (he : starEach [.GeneratorExp elt [⟨tg, iter, [], 0⟩] scope gpos] X.env = (false, eval (.GeneratorExp elt [⟨tg, iter, [], 0⟩] scope gpos) X.env) :: starEach [] X.env) :
    Me X cl W c (.Call (.Name "all" p) [.GeneratorExp elt [⟨tg, iter, [], 0⟩] scope gpos] [] pos) (.all (own.map (·.2)) t ik its te) := by
  refine PE.imp (pe_genAll hr (fun I => I.ok.frames) hN hg hm (by decide +kernel) TB hcode B.b hi hs he) fun σ H Q h => gen_end hP B.own ?_
  obtain ⟨ρ, en, μ, h1, h2, h3⟩ := h
  exact ⟨ρ, en, μ, h1, h2, by dsimp only at h3; rw [ev_all] at h3; exact h3⟩
theorem me_any {cc P : Addr} (hP : P ∈ Tabs.tb) {elt tg iter : Expr} {p pos gpos : Pos} {scope : Scope} {own : List (Str × Nat)} {t : Tg} {ik : IK} {its : List C} {te : C} {k : Nat}
    (hr : Room (k + 1) X.A) (hN : X.N.Nodup) (hg : Gl X "any") (hm : X.mg "any" = none) (TB : TabB X.base X.mg cc P) (hcode : X.env.code = .ref cc) (B : GnOk X cl c k tg elt scope own t te) (hi : Mi X cl W c tg iter ik its)
    (hs : ∀ v, genFold iter X.env v = pure v)
    (he : starEach [.GeneratorExp elt [⟨tg, iter, [], 0⟩] scope gpos] X.env = (false, eval (.GeneratorExp elt [⟨tg, iter, [], 0⟩] scope gpos) X.env) :: starEach [] X.env) :
    Me X cl W c (.Call (.Name "any" p) [.GeneratorExp elt [⟨tg, iter, [], 0⟩] scope gpos] [] pos) (.any (own.map (·.2)) t ik its te) := by
  refine PE.imp (pe_genAny hr (fun I => I.ok.frames) hN hg hm (by decide +kernel) TB hcode B.b hi hs he) fun σ H Q h => gen_end hP B.own ?_
  obtain ⟨ρ, en, μ, h1, h2, h3⟩ := h
  exact ⟨ρ, en, μ, h1, h2, by dsimp only at h3; rw [ev_any] at h3; exact h3⟩
end
end Py
end

section
set_option Elab.async false
set_option linter.all false
set_option maxRecDepth 100000
set_option maxHeartbeats 400000
/-! PyComp2: list comprehensions with two for. -/
namespace Py
open PySem L2 PyProof.Rows
open PySem (Str)
variable [Tabs]
section
variable {X : Cx} {cl : Nat → Addr} {W : WX} {c : Cfg}
def lc2F (c : Cfg) (e : Env) (own own1 : List Nat) (t : Tg) (ifs : List C) (t2 : Tg) (k2 : IK) (its2 ifs2 : List C) (el : C) (x : D) (acc : List D) (m : Mem) : R (List D) := match bindT t x (wipeE e own) with
  | none => .no
  | some e' => (tests c e' ifs m).bind fun b m2 => if b then (itemsR c e' k2 its2 m2).bind fun ys m3 => compL (lcF c e' own1 t2 ifs2 el) ys acc m3 else .ok acc m2
theorem ev_comp2 {e : Env} {own own1 : List Nat} {t t2 : Tg} {k k2 : IK} {its ifs its2 ifs2 : List C} {el : C} {m : Mem} : ev c e (.comp2 own own1 t k its ifs t2 k2 its2 ifs2 el) m = (itemsR c e k its m).bind fun xs m1 => (noEx (compL (lc2F c e own own1 t ifs t2 k2 its2 ifs2 el) xs [] m1)).bind fun acc m2 => .ok (.lst acc) m2 := by
  rw [ev]
  unfold itemsR
  have hF : (fun x acc m => match bindT t x (wipeE e own) with
        | none => .no
        | some e' => (tests c e' ifs m).bind fun b m2 => if b then (evs c e' its2 m2).bind fun ds2 m3 => (match itemsOf k2 ds2 m3 with
            | none => .no
            | some ys => compL (fun y acc m => match bindT t2 y (wipeE e' own1) with
              | none => .no
              | some e2 => (tests c e2 ifs2 m).bind fun b m2 => if b then (ev c e2 el m2).bind fun y m3 => (match settle y m3 with
                  | some (z, m4) => if fits acc.length then .ok (acc ++ [z]) m4 else .no
                  | none => .no)
                else .ok acc m2) ys acc m3)
          else .ok acc m2) = lc2F c e own own1 t ifs t2 k2 its2 ifs2 el := by
    funext x acc m
    unfold lc2F
    cases bindT t x (wipeE e own) with
    | none => rfl
    | some e' =>
      dsimp only
      congr 1
      funext b m2
      cases b with
      | false => rfl
      | true =>
        simp only [if_true]
        unfold itemsR
        cases evs c e' its2 m2 with
        | ok ds m3 =>
          simp only [R.bind_ok]
          cases itemsOf k2 ds m3 <;> rfl
        | ex _ _ => rfl
        | no => rfl
  cases evs c e its m with
  | ok ds m1 =>
    simp only [R.bind_ok]
    cases itemsOf k ds m1 with
    | none => rfl
    | some xs => simp only [R.bind_ok]; rw [← hF] <;> rfl
  | ex _ _ => rfl
  | no => rfl
theorem comp2_isLst {own own1 : List Nat} {t t2 : Tg} {k k2 : IK} {its ifs its2 ifs2 : List C} {el : C} : ∀ en μ d μ', ev c en (.comp2 own own1 t k its ifs t2 k2 its2 ifs2 el) μ = .ok d μ' → isLst d := by
  intro en μ d μ' h
  rw [ev_comp2] at h
  obtain ⟨xs, m1, _, h⟩ := R.bind_isOk h
  obtain ⟨acc, m2, _, h⟩ := noEx_isOk h
  cases h
  exact True.intro
theorem lc2_end {own own1 : List Nat} {t t2 : Tg} {k k2 : IK} {its ifs its2 ifs2 : List C} {el : C} {σ : L2.St} {H : Hp} {Q : VK} (hown : ∀ i ∈ tgN t, i ∈ own) (hown1 : ∀ i ∈ tgN t2, i ∈ own1) (h : tF X cl W (fun en μ => ev c en (.comp2 own own1 t k its ifs t2 k2 its2 ifs2 el) μ) σ H Q) :
    tLc2 (tI X cl W fun en μ => itemsR c en k its μ) (gB X.K t) (tT X cl Wn fun en μ => tests c en ifs μ) (tI X cl Wn fun en μ => itemsR c en k2 its2 μ) (gB X.K t2) (tT X cl Wn fun en μ => tests c en ifs2 μ) (tE X cl Wn fun en μ => ev c en el μ) own own1 σ H Q := by
  obtain ⟨ρ, en, μ, h1, h2, h3⟩ := h
  dsimp only at h3
  rw [ev_comp2] at h3
  refine ⟨ρ, en, μ, h1, h2, (RGF.seq (Rm := RlW X.K) h3).mono fun J H1 ⟨ρ1, xs, μ1, t1, ⟨P, wk, p1⟩, x1, q⟩ => ?_⟩
  intro L hL
  have e1 := h1.tr t1
  have fz := x1.fz hL
  have start : LcAt X.K ρ1 H1 L ρ1 (upd H1 L (.lst [])) [] μ1 := ⟨Tr.new1 hL, fz.1, fz.2, ⟨[], upd_same, .nil⟩, mem_nh x1 hL⟩
  have startE : EnvOk X.K (ρ1.hide L) (upd H1 L (.lst [])) (wipeE en own) (L2.wipe σ own) := (e1.mo (mo_nh hL) rfl).wipe own
  have startP : P (ρ1.hide L) (upd H1 L (.lst [])) := wk.keep _ _ _ _ p1 (mo_nh hL)
  refine ⟨fun i m H => m = xs.length - i ∧ i ≤ xs.length ∧ ∃ ρ acc μ, LcAt X.K ρ1 H1 L ρ H acc μ ∧ P (ρ.hide L) H ∧ EnvOk X.K (ρ.hide L) H (wipeE en own) (L2.wipe σ own) ∧
    RGF X.K cl (fun c d => W c d σ) ρ1 H1 Q ((noEx (compL (lc2F c en own own1 t ifs t2 k2 its2 ifs2 el) (xs.drop i) acc μ)).bind fun acc m2 => .ok (.lst acc) m2), ⟨xs.length, rfl, Nat.zero_le _, ρ1, [], μ1, start, startP, startE, q⟩, ?_⟩
  rintro i m H2 ⟨rfl, hi, ρ2, acc, μ2, s2, p2, e2, q2⟩
  by_cases hlt : i < xs.length
  · rw [List.drop_eq_getElem_cons hlt, compL] at q2
    refine .inr ⟨wk.go _ _ i p2 hlt, fun H => i + 1 ≤ xs.length ∧ ∃ ρ acc μ, LcAt X.K ρ1 H1 L ρ H acc μ ∧ P (ρ.hide L) H ∧ EnvOk X.K (ρ.hide L) H (wipeE en own) (L2.wipe σ own) ∧
      RGF X.K cl (fun c d => W c d σ) ρ1 H1 Q ((noEx (compL (lc2F c en own own1 t ifs t2 k2 its2 ifs2 el) (xs.drop (i + 1)) acc μ)).bind fun acc m2 => .ok (.lst acc) m2), fun H' ⟨k1, k2⟩ => ⟨xs.length - (i + 1), by omega, rfl, k1, k2⟩, fun x H3 y => ?_⟩
    obtain ⟨d, hd, t3, x3, r3⟩ := wk.yld _ _ i x H3 μ2 hlt p2 s2.mem y
    have ed : xs[i] = d := by rw [List.getElem?_eq_getElem hlt] at hd; exact Option.some.inj hd
    rw [ed] at q2
    have s3 : LcAt X.K ρ1 H1 L ρ2 H3 acc μ2 := (s2.step hL t3 x3).1
    have p3 := wk.keep _ _ _ _ p2 t3.mo
    have E3 := e2.tr t3
    rw [lc2F] at q2
    cases qb : bindT t d (wipeE en own) with
    | none => rw [qb] at q2; exact q2.elim
    | some e' =>
      rw [qb] at q2
      dsimp only at q2
      rw [R.bind_assoc] at q2
      refine ⟨ρ2.hide L, wipeE en own, μ2, d, E3, x3, r3, e', qb, fun σ' E' oo => ⟨(oo own hown).trans (wipe_wipe σ own), ?_⟩⟩
      refine tT.goN (X := X) ⟨E', x3⟩ q2 fun b H4 ρ4 μ4 t4 a4 q4 => ?_
      have s4' := s3.step hL t4 a4.mem
      have p4 := wk.keep _ _ _ _ p3 t4.mo
      have E4 := E3.tr t4
      cases b with
      | false =>
        rw [if_neg Bool.false_ne_true] at q4 ⊢
        rw [s4'.2] at p4 E4
        exact ⟨hlt, _, acc, μ4, s4'.1, p4, E4, q4⟩
      | true =>
        rw [if_pos rfl] at q4 ⊢
        rw [R.bind_assoc] at q4
        refine ⟨ρ4, e', μ4, a4.env, a4.mem, (RGF.part (Rm := RlW X.K) q4 ρ4 H4).mono fun J1 H5 ⟨ρ5, ys, μ5, t5, ⟨P1, wk1, p5'⟩, x5, q5⟩ => ?_⟩
        have t35 : Tr (ρ2.hide L) ρ5 H3 H5 := t4.trans t5
        have s5' := s3.step hL t35 x5
        have p5 := wk.keep _ _ _ _ p3 t35.mo
        have E5 := E3.tr t35
        have F5 : EnvOk X.K ρ5 H5 (wipeE e' own1) (L2.wipe σ' own1) := (a4.env.tr t5).wipe own1
        rw [s5'.2] at p5 E5 p5' F5
        refine ⟨fun j m H => m = ys.length - j ∧ j ≤ ys.length ∧ ∃ ρ acc μ, LcAt X.K ρ1 H1 L ρ H acc μ ∧ P (ρ.hide L) H ∧ EnvOk X.K (ρ.hide L) H (wipeE en own) (L2.wipe σ own) ∧ P1 (ρ.hide L) H ∧ EnvOk X.K (ρ.hide L) H (wipeE e' own1) (L2.wipe σ' own1) ∧
          RGF X.K cl (fun c d => W c d σ) ρ1 H1 Q ((noEx ((compL (lcF c e' own1 t2 ifs2 el) (ys.drop j) acc μ).bind fun acc' m' => compL (lc2F c en own own1 t ifs t2 k2 its2 ifs2 el) (xs.drop (i + 1)) acc' m')).bind fun acc m2 => .ok (.lst acc) m2),
          ⟨ys.length, rfl, Nat.zero_le _, _, acc, μ5, s5'.1, p5, E5, p5', F5, q5⟩, ?_⟩
        rintro j m' H6 ⟨rfl, hj, ρ6, acc6, μ6, s6, p6, e6, p6', f6, q6⟩
        by_cases hlt1 : j < ys.length
        · rw [List.drop_eq_getElem_cons hlt1, compL, R.bind_assoc] at q6
          refine .inr ⟨wk1.go _ _ j p6' hlt1, fun H => j + 1 ≤ ys.length ∧ ∃ ρ acc μ, LcAt X.K ρ1 H1 L ρ H acc μ ∧ P (ρ.hide L) H ∧ EnvOk X.K (ρ.hide L) H (wipeE en own) (L2.wipe σ own) ∧ P1 (ρ.hide L) H ∧ EnvOk X.K (ρ.hide L) H (wipeE e' own1) (L2.wipe σ' own1) ∧
            RGF X.K cl (fun c d => W c d σ) ρ1 H1 Q ((noEx ((compL (lcF c e' own1 t2 ifs2 el) (ys.drop (j + 1)) acc μ).bind fun acc' m' => compL (lc2F c en own own1 t ifs t2 k2 its2 ifs2 el) (xs.drop (i + 1)) acc' m')).bind fun acc m2 => .ok (.lst acc) m2),
            fun H' ⟨k1, k2⟩ => ⟨ys.length - (j + 1), by omega, rfl, k1, k2⟩, fun x7 H7 y7 => ?_⟩
          obtain ⟨d7, hd7, t7, x7', r7⟩ := wk1.yld _ _ j x7 H7 μ6 hlt1 p6' s6.mem y7
          have ed7 : ys[j] = d7 := by rw [List.getElem?_eq_getElem hlt1] at hd7; exact Option.some.inj hd7
          rw [ed7] at q6
          have s7 : LcAt X.K ρ1 H1 L ρ6 H7 acc6 μ6 := (s6.step hL t7 x7').1
          have p7 := wk.keep _ _ _ _ p6 t7.mo
          have p7' := wk1.keep _ _ _ _ p6' t7.mo
          have E7 := e6.tr t7
          have F7 := f6.tr t7
          rw [lcF] at q6
          cases qb7 : bindT t2 d7 (wipeE e' own1) with
          | none => rw [qb7] at q6; exact q6.elim
          | some e7 =>
            rw [qb7] at q6
            dsimp only at q6
            rw [R.bind_assoc] at q6
            refine ⟨ρ6.hide L, wipeE e' own1, μ6, d7, F7, x7', r7, e7, qb7, fun σ8 E8 oo8 => ⟨(oo8 own1 hown1).trans (wipe_wipe σ' own1), ?_⟩⟩
            refine tT.goN (X := X) ⟨E8, x7'⟩ q6 fun b9 H9 ρ9 μ9 t9 a9 q9 => ?_
            have s9' := s7.step hL t9 a9.mem
            have p9 := wk.keep _ _ _ _ p7 t9.mo
            have p9' := wk1.keep _ _ _ _ p7' t9.mo
            have E9 := E7.tr t9
            have F9 := F7.tr t9
            cases b9 with
            | false =>
              rw [if_neg Bool.false_ne_true] at q9 ⊢
              rw [s9'.2] at p9 E9 p9' F9
              exact ⟨hlt1, _, acc6, μ9, s9'.1, p9, E9, p9', F9, q9⟩
            | true =>
              rw [if_pos rfl] at q9 ⊢
              rw [R.bind_assoc] at q9
              refine tE.goN (X := X) (K' := X.K) a9 q9 fun v H10 ρ10 dy μ10 t10 a10 r10 q10 => ?_
              have t710 : Tr (ρ6.hide L) ρ10 H7 H10 := t9.trans t10
              have s10' := s7.step hL t710 a10.mem
              have p10 := wk.keep _ _ _ _ p7 t710.mo
              have p10' := wk1.keep _ _ _ _ p7' t710.mo
              have E10 := E7.tr t710
              have F10 := F7.tr t710
              rw [s10'.2] at p10 E10 r10 p10' F10
              obtain ⟨vs, hv, rv⟩ := s10'.1.list
              cases qs : settle dy μ10 with
              | none => rw [qs] at q10; exact q10.elim
              | some z =>
                obtain ⟨z, μ11⟩ := z
                rw [qs] at q10
                dsimp only at q10
                by_cases hf : fits acc6.length = true
                · rw [if_pos hf] at q10
                  obtain ⟨ρ11, s11, t11⟩ := s10'.1.app hL r10 qs hv
                  refine ⟨vs, hv, by rw [← rv.length]; exact fits_lt hf, hlt1, ρ11, acc6 ++ [z], μ11, s11, ?_, ?_, ?_, ?_, q10⟩
                  · exact wk.keep _ _ _ _ (wk.keep _ _ _ _ p10 t11.mo) (mo_hid List.mem_cons_self)
                  · exact (E10.tr t11).mo (mo_hid List.mem_cons_self) rfl
                  · exact wk1.keep _ _ _ _ (wk1.keep _ _ _ _ p10' t11.mo) (mo_hid List.mem_cons_self)
                  · exact (F10.tr t11).mo (mo_hid List.mem_cons_self) rfl
                · rw [if_neg hf] at q10; exact q10.elim
        · have e : j = ys.length := by omega
          subst e
          rw [List.drop_length, compL, R.bind_ok] at q6
          exact .inl ⟨wk1.stop _ _ p6', hlt, ρ6, acc6, μ6, s6, p6, e6, q6⟩
  · have e : i = xs.length := by omega
    subst e
    rw [List.drop_length, compL] at q2
    obtain ⟨vs, hv, rv⟩ := s2.list
    exact .inl ⟨wk.stop _ _ p2, q2 acc rfl L vs ρ2 H2 s2.tr hL hv s2.lo s2.hi rv s2.mem⟩
structure Lc2Ok (X : Cx) (cl : Nat → Addr) (c : Cfg) (tg elt tg1 iter1 : Expr) (ifs ifs1 : List Expr) (scope : Scope) (own : List (Str × Nat)) (own1 : List Nat) (t t2 : Tg) (ts : List C) (k2 : IK) (its2 ts2 : List C) (te : C) : Prop where
  ok : BlkOk X.N X.env.scope scope own
  hv : ∀ i ∈ own1, i ∈ own.map (·.2)
  hg : ∀ (s : Shared) (H : Hp) (C : Addr) (cl' : List (Str × Addr)) (fp : List Addr), Mg (X.blk s H scope (compEnvC scope cl' C X.env) fp) tg t
  ht : ∀ (s : Shared) (H : Hp) (C : Addr) (cl' : List (Str × Addr)) (fp : List Addr), Mc (X.blk s H scope (compEnvC scope cl' C X.env) fp) cl c ifs ts
  hi1 : ∀ (s : Shared) (H : Hp) (C : Addr) (cl' : List (Str × Addr)) (fp : List Addr), Mi (X.blk s H scope (compEnvC scope cl' C X.env) fp) cl Wn c tg1 iter1 k2 its2
  hg1 : ∀ (s : Shared) (H : Hp) (C : Addr) (cl' : List (Str × Addr)) (fp : List Addr), Mg (X.blk s H scope (compEnvC scope cl' C X.env) fp) tg1 t2
  ht1 : ∀ (s : Shared) (H : Hp) (C : Addr) (cl' : List (Str × Addr)) (fp : List Addr), Mc (X.blk s H scope (compEnvC scope cl' C X.env) fp) cl c ifs1 ts2
  he : ∀ (s : Shared) (H : Hp) (C : Addr) (cl' : List (Str × Addr)) (fp : List Addr), Me (X.blk s H scope (compEnvC scope cl' C X.env) fp) cl Wn c elt te
  own : ∀ i ∈ tgN t, i ∈ own.map (·.2)
  own1 : ∀ i ∈ tgN t2, i ∈ own1
section
variable {tg elt tg1 iter1 : Expr} {ifs ifs1 : List Expr} {scope : Scope} {own : List (Str × Nat)} {own1 : List Nat} {t t2 : Tg} {ts : List C} {k2 : IK} {its2 ts2 : List C} {te : C} (B : Lc2Ok X cl c tg elt tg1 iter1 ifs ifs1 scope own own1 t t2 ts k2 its2 ts2 te)
include B
theorem Lc2Ok.g (s : Shared) (H : Hp) (C : Addr) (cl' : List (Str × Addr)) (fp : List Addr) : PG (X.blk s H scope (compEnvC scope cl' C X.env) fp) tg (gB X.K t) := B.hg s H C cl' fp
theorem Lc2Ok.tt (s : Shared) (H : Hp) (C : Addr) (cl' : List (Str × Addr)) (fp : List Addr) : PTs (X.blk s H scope (compEnvC scope cl' C X.env) fp) ifs (tT X cl Wn fun en μ => tests c en ts μ) := B.ht s H C cl' fp
theorem Lc2Ok.i1 (s : Shared) (H : Hp) (C : Addr) (cl' : List (Str × Addr)) (fp : List Addr) : PI (X.blk s H scope (compEnvC scope cl' C X.env) fp) tg1 iter1 (tI X cl Wn fun en μ => itemsR c en k2 its2 μ) := B.hi1 s H C cl' fp
theorem Lc2Ok.g1 (s : Shared) (H : Hp) (C : Addr) (cl' : List (Str × Addr)) (fp : List Addr) : PG (X.blk s H scope (compEnvC scope cl' C X.env) fp) tg1 (gB X.K t2) := B.hg1 s H C cl' fp
theorem Lc2Ok.t1 (s : Shared) (H : Hp) (C : Addr) (cl' : List (Str × Addr)) (fp : List Addr) : PTs (X.blk s H scope (compEnvC scope cl' C X.env) fp) ifs1 (tT X cl Wn fun en μ => tests c en ts2 μ) := B.ht1 s H C cl' fp
theorem Lc2Ok.e (s : Shared) (H : Hp) (C : Addr) (cl' : List (Str × Addr)) (fp : List Addr) : PE (X.blk s H scope (compEnvC scope cl' C X.env) fp) elt (tE X cl Wn fun en μ => ev c en te μ) := B.he s H C cl' fp
end
theorem mf_lc2 {tg elt iter tg1 iter1 : Expr} {ifs ifs1 : List Expr} {scope : Scope} {own : List (Str × Nat)} {own1 : List Nat} {pos : Pos} {t t2 : Tg} {k k2 : IK} {its ts its2 ts2 : List C} {te : C} (hc : X.calm = true) (hN : X.N.Nodup) (hi : Mi X cl W c tg iter k its) (B : Lc2Ok X cl c tg elt tg1 iter1 ifs ifs1 scope own own1 t t2 ts k2 its2 ts2 te) (hs : ∀ x, foldedSetIterable iter X.env x = pure x) (hs1 : ∀ env x, foldedSetIterable iter1 env x = pure x) :
    Mf X cl W c (.ListComp elt [⟨tg, iter, ifs, 0⟩, ⟨tg1, iter1, ifs1, 0⟩] scope pos) (.comp2 (own.map (·.2)) own1 t k its ts t2 k2 its2 ts2 te) :=
  ⟨PE.imp (pe_lc2 hc hN hi B.ok B.hv B.g B.tt B.i1 B.g1 B.t1 B.e hs hs1) fun σ H Q h => lc2_end B.own B.own1 h, comp2_isLst⟩
theorem ms_setLc2 {i : Nat} {y : Str} {py : Pos} {tg elt iter tg1 iter1 : Expr} {ifs ifs1 : List Expr} {scope : Scope} {own : List (Str × Nat)} {own1 : List Nat} {pos spos : Pos} {t t2 : Tg} {k k2 : IK} {its ts its2 ts2 : List C} {te : C} (hc : X.calm = true) (hN : X.N.Nodup) (hy : X.N[i]? = some y) (hyl : X.env.scope.names.lookup y = some .local)
    (hsw : swapsWith (.ListComp elt [⟨tg, iter, ifs, 0⟩, ⟨tg1, iter1, ifs1, 0⟩] scope pos) (some (.Name y py)) spos.line X.env = pure true) (hi : Mi X cl W c tg iter k its) (B : Lc2Ok X cl c tg elt tg1 iter1 ifs ifs1 scope own own1 t t2 ts k2 its2 ts2 te) (hs : ∀ x, foldedSetIterable iter X.env x = pure x) (hs1 : ∀ env x, foldedSetIterable iter1 env x = pure x) :
    Ms X cl W c (.Assign [.Name y py] (.ListComp elt [⟨tg, iter, ifs, 0⟩, ⟨tg1, iter1, ifs1, 0⟩] scope pos) spos) (.asg (.nm i) (.comp2 (own.map (·.2)) own1 t k its ts t2 k2 its2 ts2 te)) := by
  refine PS.imp (ps_setLc2 hc hN hy hyl hsw hi B.ok B.hv B.g B.tt B.i1 B.g1 B.t1 B.e hs hs1) fun D σ H h => ?_
  obtain ⟨ρ, en, μ, h1, h2, h3⟩ := h
  exact lc2_end B.own B.own1 ⟨ρ, en, μ, h1, h2, (set_end h1 h3).fresh⟩
theorem ms_setLc2M {i : Nat} {y : Str} {py : Pos} {tg elt iter tg1 iter1 : Expr} {ifs ifs1 : List Expr} {scope : Scope} {own : List (Str × Nat)} {own1 : List Nat} {pos spos : Pos} {t t2 : Tg} {k k2 : IK} {its ts its2 ts2 : List C} {te : C} (hc : X.calm = true) (hN : X.N.Nodup) (hy : X.N[i]? = some y) (hyl : X.env.scope.names.lookup y = some .local)
    (hsw : swapsWith (.ListComp elt [⟨tg, iter, ifs, 0⟩, ⟨tg1, iter1, ifs1, 0⟩] scope pos) (some (.Name y py)) spos.line X.env = pure true) (hi : Mi X cl W c tg iter k its) (B : Lc2Ok X cl c tg elt tg1 iter1 ifs ifs1 scope own own1 t t2 ts k2 its2 ts2 te) (hs : ∀ x, foldedSetIterable iter X.env x = pure x) (hs1 : ∀ env x, foldedSetIterable iter1 env x = pure x) :
    Ms X cl W c (.Assign [.Name y py] (.ListComp elt [⟨tg, iter, ifs, 0⟩, ⟨tg1, iter1, ifs1, 0⟩] scope pos) spos) (.asg (.nm i) (.mut (.comp2 (own.map (·.2)) own1 t k its ts t2 k2 its2 ts2 te))) := by
  refine PS.imp (ps_setLc2 hc hN hy hyl hsw hi B.ok B.hv B.g B.tt B.i1 B.g1 B.t1 B.e hs hs1) fun D σ H h => ?_
  obtain ⟨ρ, en, μ, h1, h2, h3⟩ := h
  exact lc2_end B.own B.own1 ⟨ρ, en, μ, h1, h2, RGF.of_mut (fun d μ' q => comp2_isLst _ _ _ _ q) (set_end h1 h3)⟩
end
end Py
end

section
set_option Elab.async false
set_option linter.all false
set_option maxRecDepth 100000
set_option maxHeartbeats 1000000
/-! PyHot: within an except suite: a list comprehension over a list, a call of a def with the exception. -/
namespace Py
open PySem PySem.Spec PyProof.Rows L2 HotX
open PySem (Str)
variable [Tabs]
section
variable {prog : Program} {w : World} {A : Around} {E : Value → Shared → Prop} {s : Shared}
theorem pyNext_list_end_hot {it l x1 : Addr} {i : Nat} {items} {Q : Option Value → Shared → Prop} (hot : HotAt A x1 s.heap)
    (hit : s.heap.IsListIter it l i) (hl : s.heap.IsList l items) (hx : items[i]? = none) (hne : x1 ≠ it)
    (hQ : ∀ h', Heap.ExtBut it s.heap h' → Q none { s with heap := h' }) : wpAny (model prog w) A (pyNext (.ref it)) Q E s := by
  obtain ⟨o, ho, hc, hd⟩ := id hit
  obtain ⟨ol, hol, _, nl, hdl⟩ := hl
  obtain ⟨hh, o1, vs1, h1, d1, c1⟩ := hot
  unfold pyNext
  refine wpAny_bind (wpAny_attempt (wpAny_callSpecial?_slot (name := Str.ofString "__next__") hit.typeIs slot_listiter_next
    (wpAny_call_entry slot_listiter_next hit.typeIs entry_listiter_next ?_ (args_listiter_next _))))
  show wpAny _ _ (field (.ref it) 0 >>= _) _ _ s
  refine wpAny_bind (wpAny_field ho hd (x := .ref l) rfl ?_)
  show wpAny _ _ (if (Value.ref l == Value.none) = true then _ else _) _ _ s
  rw [if_neg (show ¬ ((Value.ref l == Value.none) = true) from Bool.false_ne_true)]
  show wpAny _ _ (field (.ref it) 1 >>= _) _ _ s
  refine wpAny_bind (wpAny_field ho hd (x := .int i 0) rfl ?_)
  show wpAny _ _ (seqItems? (.ref l) >>= _) _ _ s
  refine wpAny_bind (wpAny_seqItems hol hdl ?_)
  simp only [Int.toNat_natCast, hx]
  refine wpAny_bind (wpAny_rule (wpAny_bind (wpAny_setField ho hd (by simp) ?_)))
  show wpAny _ _ (newExc (.type "StopIteration") [] >>= _) _ _ _
  refine wpAny_bind ?_
  simp only [newExc, newTuple]
  refine wpAny_bind (wpAny_newObj_type ?_ (by size_fits))
  refine wpAny_bind (m := firstArgMember _ _) (wpAny_of_eq (a := Value.none) (by first | rfl | (simp only [firstArgMember]; rfl)) ?_)
  refine wpAny_newObj_type ?_ (by size_fits)
  refine raiseNew_hot ⟨hh, o1, vs1, Heap.get?_push_of_some _ (Heap.get?_push_of_some _ ((Heap.get?_update_other _ _ (Ne.symm hne)).trans h1)), d1, c1⟩ (Nat.ne_of_lt (Heap.lt_size (Heap.get?_push_of_some _ ((Heap.get?_update_other _ _ (Ne.symm hne)).trans h1)))) (Heap.get?_push_size _ rfl) rfl (by first | (simp; done) | (simp; omega) | (simp only [Array.size_append]; simp; omega)) ?_
  refine wpAny_bind (wpAny_isInstance (T := "StopIteration") (b := true) ⟨_, Heap.get?_update_self _ (Heap.get?_push_size _ rfl) rfl, rfl⟩ isSubtype_stop ?_)
  refine wpAny_pure (hQ _ fun b o hb e => ?_)
  have e1 := (Heap.get?_update_other s.heap (Obj.mapFields (·.setIfInBounds 0 .none)) (Ne.symm hb)).trans e
  rw [Heap.get?_update_other _ _ (Nat.ne_of_gt (Heap.lt_size (Heap.get?_push_of_some _ e1)))]
  exact Heap.get?_push_of_some _ (Heap.get?_push_of_some _ e1)
end

/-! ### a comprehension over a list -/
abbrev blkH (X : Cx) (s : Shared) (H : Hp) (scope : Scope) (cenv : PySem.Env) (fp : List Addr) : Cx := { X.blk s H scope cenv fp with pn := X.pn }
theorem inv_pn {Y : Cx} {pn : List (Addr × Obj)} {σ : L2.St} {H : Hp} {s : Shared} (I : Inv Y [] σ H s) (h : ∀ p ∈ pn, s.heap.get? p.1 = some p.2 ∧ H p.1 = none ∧ p.1 ≠ Y.env.locals ∧ p.1 ∉ Y.fs ∧ ∀ v, p.2.data ≠ .cell v) : Inv { Y with pn := pn } [] σ H s :=
  ⟨⟨I.ok.mod, I.ok.kind, I.ok.glob, I.ok.blt, I.ok.above, I.ok.inj, I.ok.has, I.ok.cab, I.ok.hd, I.ok.frames, I.ok.stk, I.ok.exf, I.ok.bs, I.ok.bsz, I.ok.noex, I.ok.exfs, I.ok.funs, I.ok.frf⟩, I.os, I.bare, I.base, I.loc, I.cell, I.free, I.freeC, fun p hp => h p (by rw [List.append_nil] at hp; exact hp), I.hok, I.len⟩
section
variable {X : Cx} {pins : List (Addr × Obj)} {σ : L2.St} {H : Hp} {s : Shared}
theorem pe_lcH {elt tg iter : Expr} {ifs : List Expr} {scope : Scope} {own : List (Str × Nat)} {pos : Pos} {ti : TE} {g : TG} {tt : TT} {te : TE} (hot : L2H.HotC X) (hN : X.N.Nodup) (hi : PE X iter ti) (ok : BlkOk X.N X.env.scope scope own)
    (hg : ∀ (s : Shared) (H : Hp) (C : Addr) (cl : List (Str × Addr)) (fp : List Addr), PG (blkH X s H scope (compEnvC scope cl C X.env) fp) tg g) (ht : ∀ (s : Shared) (H : Hp) (C : Addr) (cl : List (Str × Addr)) (fp : List Addr), PTs (blkH X s H scope (compEnvC scope cl C X.env) fp) ifs tt)
    (he : ∀ (s : Shared) (H : Hp) (C : Addr) (cl : List (Str × Addr)) (fp : List Addr), PE (blkH X s H scope (compEnvC scope cl C X.env) fp) elt te) (hs : ∀ x, foldedSetIterable iter X.env x = pure x) :
    PE X (.ListComp elt [⟨tg, iter, ifs, 0⟩] scope pos) (tLc (iList X.K ti) g tt te (own.map (·.2))) := by
  refine ⟨fun pins s σ H Q I h => ?_⟩
  have hfree : ∀ y ∈ scope.names, y.2 = .free → ∃ c, X.env.cells.lookup y.1 = some c := fun y hy e => by
    rcases ok.free y hy e with k | k
    · exact I.ok.has _ (.inl k)
    · exact I.ok.has _ (.inr k)
  rw [eval_ListComp]
  refine wpAny_comprehension_free (use := none) rfl hs (closure_ok hfree) ok.kind (fun y hy e => by rw [ok.uniq y hy, e])
    (thn (hi.run pins s σ H _ I h) fun xv s1 ⟨x, H2, I1, r1, a, ex, ⟨xs, hq⟩, q⟩ => ?_)
  subst ex
  cases r1
  obtain ⟨its, rv, pl, hz⟩ := I1.list hq
  refine wpAny_pyIter_list pl.isList ?_
  generalize hs2 : ({ s1 with heap := s1.heap.push { cls := .type "list_iterator", data := .fields #[.ref a, .int 0 0] } } : Shared) = s2
  have I2 : L2.Inv X pins σ H2 s2 := by rw [← hs2]; exact I1.kept (t' := s1.toks) fun b o e => Heap.get?_push_of_some _ e
  have st2 : s2.heap.IsListIter s1.heap.objs.size a 0 := by rw [← hs2]; exact ⟨_, Heap.get?_push_size _ rfl, rfl, rfl⟩
  generalize hit : s1.heap.objs.size = it at st2 ⊢
  have f2 : FpOk X pins H2 it := by rw [← hit]; exact I1.fpOk (Nat.le_refl _) (I1.hok.fresh (Nat.le_refl _))
  have hit2 : it < s2.heap.objs.size := by obtain ⟨o, e, _⟩ := st2; exact Heap.lt_size e
  refine wpAny_newObj_type (newEnv_comp ?_) (by show 0 ≤ sizeLine; decide)
  generalize hD : s2.heap.objs.size = D
  have hDn : H2 D = none := I2.hok.fresh (Nat.le_of_eq hD)
  obtain ⟨W, ⟨m0, w0⟩, turn⟩ := q D hDn
  generalize hs3 : ({ s2 with heap := s2.heap.push { cls := .type "list", data := .seq ([] : List Value).toArray } } : Shared) = s3
  have I3 : L2.Inv X pins σ (upd H2 D (.lst [])) s3 := by
    rw [← hs3]
    refine I2.laid (t' := s2.toks) (fun b o e => Heap.get?_push_of_some _ e) (Nat.le_of_eq hD) ⟨Nat.zero_le _, [], 0, .nil, ?_⟩
    rw [← hD]
    exact Heap.get?_push_size _ rfl
  have h3 : s3.heap = s2.heap.push { cls := .type "list", data := .seq ([] : List Value).toArray } := by rw [← hs3]
  have f3 : ∀ b ∈ [it], FpOk X pins (upd H2 D (.lst [])) b ∧ b < s3.heap.objs.size := fun b hb => by
    have eb : b = it := by simpa using hb
    subst eb
    refine ⟨⟨?_, f2.2⟩, by rw [h3, Heap.size_push]; exact Nat.lt_succ_of_lt hit2⟩
    rw [upd_ne (by rw [← hD]; exact Nat.ne_of_lt hit2)]
    exact f2.1
  have st3 : s3.heap.IsListIter it a 0 := st2.at fun o e => by rw [h3]; exact Heap.get?_push_of_some _ e
  have I4 := block_start I3 ok hN f3
  have pg := hg s3 (upd H2 D (.lst [])) s3.heap.objs.size (cellsFrom (s3.heap.objs.size + 1) scope.names (cloFrom X.env.cells scope.names [])) [it]
  have pt := ht s3 (upd H2 D (.lst [])) s3.heap.objs.size (cellsFrom (s3.heap.objs.size + 1) scope.names (cloFrom X.env.cells scope.names [])) [it]
  have pe := he s3 (upd H2 D (.lst [])) s3.heap.objs.size (cellsFrom (s3.heap.objs.size + 1) scope.names (cloFrom X.env.cells scope.names [])) [it]
  show codeAny _ _ (.compStart (.ListComp elt [⟨tg, iter, ifs, 0⟩] scope pos) 0 (.ref it) (.ref D) (compEnvC scope (cellsFrom (s3.heap.objs.size + 1) scope.names (cloFrom X.env.cells scope.names [])) s3.heap.objs.size X.env)) (compPost (model X.prog X.w) X.A X.xe none _ (.ref D) s3.heap.objs.size) { s3 with heap := pushCells (s3.heap.push { cls := .type "dict", data := .dict #[] }) scope.names }
  have nfp : (upd H2 D (.lst [])) it = none := (f3 it (by simp)).1.1
  generalize hce : compEnvC scope (cellsFrom (s3.heap.objs.size + 1) scope.names (cloFrom X.env.cells scope.names [])) s3.heap.objs.size X.env = ce at I4 pg pt pe ⊢
  have cL : ce.locals = s3.heap.objs.size := by subst hce; rfl
  generalize hH3 : upd H2 D (.lst []) = H3 at I3 I4 pg pt pe w0 nfp f3
  generalize hs4 : ({ s3 with heap := pushCells (s3.heap.push { cls := .type "dict", data := .dict #[] }) scope.names } : Shared) = s4 at I4 ⊢
  have kp4 : ∀ b o, s3.heap.get? b = some o → s4.heap.get? b = some o := fun b o e => by rw [← hs4]; exact pushCells_keeps _ _ _ _ (Heap.get?_push_of_some _ e)
  have st4 : s4.heap.IsListIter it a 0 := st3.at fun o e => kp4 _ o e
  have I4 : L2.Inv (blkH X s3 H3 scope ce [it]) [] (L2.wipe σ (own.map (·.2))) H3 s4 := inv_pn I4 fun p hp => by
    obtain ⟨p1, p2, p3, p4, p5⟩ := I3.pin p (List.mem_append_left _ hp)
    refine ⟨kp4 _ _ p1, p2, ?_, fun z => ?_, p5⟩
    · show p.1 ≠ ce.locals
      rw [cL]
      exact Nat.ne_of_lt (Heap.lt_size p1)
    · rcases List.mem_cons.mp (I3.stkSub p.1 z) with z | z
      · exact p3 z
      · exact p4 z
  have hotB : L2H.HotC (blkH X s3 H3 scope ce [it]) := hot
  have itpn : ∀ p ∈ X.pn, p.1 ≠ it := fun p hp => (f3 it (by simp)).1.2.2.2.2.2 p (List.mem_append_left _ hp)
  have stat : ∀ {σ' : L2.St} {H' : Hp} {s' : Shared}, L2.Inv (blkH X s3 H3 scope ce [it]) [] σ' H' s' → H' it = none → FpOk (blkH X s3 H3 scope ce [it]) [] H' it := fun {σ' H' s'} I' hn =>
    ⟨hn, (I'.ok.exf it (by simp)).1, I'.ok.exfs it (by simp), .inl (by simp), fun x c e => (I'.ok.exf it (by simp)).2 x c e, fun p hp => itpn p (by rw [List.append_nil] at hp; exact hp)⟩
  have loop : codeAny (model X.prog X.w) X.A (.compLoop (.ListComp elt [⟨tg, iter, ifs, 0⟩] scope pos) 0 (.ref it) (.ref D) ce) (compPost (model X.prog X.w) X.A X.xe none (EP X pins σ Q) (.ref D) s3.heap.objs.size) s4 := by
    refine compLoop_any (fun n s' => ∃ i H', L2.Inv (blkH X s3 H3 scope ce [it]) [] (L2.wipe σ (own.map (·.2))) H' s' ∧ s'.heap.IsListIter it a i ∧ H' it = none ∧ W i n H') ?_ m0 ⟨0, H3, I4, st4, nfp, w0⟩
    rintro n s5 ⟨i, H5, I5, st5, n5, w5⟩
    rcases turn i n H5 w5 with ⟨stop, qq⟩ | ⟨go, Nx, hNx, step⟩
    · obtain ⟨ys, hy, hle⟩ := stop
      obtain ⟨jts, rj, pj, hzj⟩ := I5.list hy
      obtain ⟨f0, f1, f2', f3', f4, f5⟩ := stat I5 n5
      obtain ⟨p, ⟨hh, v1, e1, c1⟩, hp⟩ := hotB
      have hpi := I5.pin p (List.mem_append_left _ hp)
      have hl := rj.length
      refine pyNext_list_end_hot (x1 := p.1) ⟨hh, p.2, v1, hpi.1, e1, c1⟩ st5 pj.isList (by simp; omega) (itpn p hp) fun h' eb => ?_
      have I6 : L2.Inv (blkH X s3 H3 scope ce [it]) [] (L2.wipe σ (own.map (·.2))) H5 { s5 with heap := h' } := I5.turned (t' := s5.toks) (fun b o hb e => eb b o hb e) f0 f1 f3' f4 f5
      have I7 : L2.Inv X pins σ H5 { s5 with heap := h' } := I3.call' (ch := [it]) I6.os I6.base I6.hok I6.bare fun b hb => ⟨(f3 b hb).1.2.2.2.1, (f3 b hb).1.2.1, (f3 b hb).1.2.2.2.2.1, (f3 b hb).1.2.2.2.2.2⟩
      have nC : H5 s3.heap.objs.size = none := by
        have z : H5 ce.locals = none := I6.free
        rw [cL] at z
        exact z
      obtain ⟨m, hn, _⟩ := I6.loc
      have hn : ({ s5 with heap := h' } : Shared).heap.Ns ce.locals m := hn
      rw [cL] at hn
      obtain ⟨g0, g1, g2, g3, g4, g5⟩ := I3.fpOk (H' := H5) (Nat.le_refl _) nC
      exact ⟨m, hn, fun h'' sb => ⟨.ref D, H5, I7.turned (t' := s5.toks) (fun b o hb e => (sb.2 b hb).trans e) g0 g1 g3 g4 g5, rfl, qq⟩⟩
    · obtain ⟨ys, x, hy, hx⟩ := go
      obtain ⟨jts, rj, pj, hzj⟩ := I5.list hy
      obtain ⟨u, hu, ru⟩ := rj.get hx
      obtain ⟨f0, f1, f2', f3', f4, f5⟩ := stat I5 n5
      refine wpAny_pyNext_list_item st5 pj.isList (x := u) (by simpa using hu) fun h' st' sb => ?_
      have I6 : L2.Inv (blkH X s3 H3 scope ce [it]) [] (L2.wipe σ (own.map (·.2))) H5 { s5 with heap := h' } := I5.turned (t' := s5.toks) (fun b o hb e => (sb.2 b hb).trans e) f0 f1 f3' f4 f5
      obtain ⟨oi, ei, ci, di⟩ := id st'
      refine go_of (s := { s5 with heap := h' }) ei ci di (by decide) ?_
      have yy : (Itl X.K a).yld i H5 x H5 := ⟨rfl, fun zs hz' => by rw [I5.list_inj hz' hy]; exact hx⟩
      have I7' : L2.Inv (blkH X s3 H3 scope ce [it]) [(it, oi)] (L2.wipe σ (own.map (·.2))) H5 { s5 with heap := h' } := I6.pins_of fun p hp => by
        have ep : p = (it, oi) := by simpa using hp
        subst ep
        exact ⟨ei, n5, f1, f2', fun v z => by rw [di] at z; cases z⟩
      refine thnF (pg.run _ _ _ H5 x u _ I7' ru (step x H5 yy)) fun _ s8 ⟨σ8, H8, I8, hw8, q8⟩ => ?_
      refine thnF (pt.run _ s8 σ8 H8 _ I8 q8) fun b s9 ⟨H9, I9, q9⟩ => ?_
      have fin : ∀ {s' : Shared} {H' : Hp}, L2.Inv (blkH X s3 H3 scope ce [it]) [(it, oi)] σ8 H' s' → Nx H' → ∃ m, m < n ∧ ∃ i H', L2.Inv (blkH X s3 H3 scope ce [it]) [] (L2.wipe σ (own.map (·.2))) H' s' ∧ s'.heap.IsListIter it a i ∧ H' it = none ∧ W i m H' := fun {s' H'} I' nx => by
        obtain ⟨m', hm, w'⟩ := hNx H' nx
        have z := I'.pin (it, oi) (List.mem_append_right _ (by simp))
        have hl : (L2.wipe σ (own.map (·.2))).length = σ8.length := by rw [← hw8, wipe_length]
        refine ⟨m', hm, i + 1, H', (I'.pins_of (pins' := []) fun p hp => absurd hp (by simp)).weak hl (fun j v e => ?_), ⟨oi, z.1, ci, di⟩, z.2.1, w'⟩
        rw [← hw8] at e
        exact (wipe_some e).1
      cases b with
      | false =>
        simp only [Bool.false_eq_true, if_false] at q9 ⊢
        exact fin I9 q9
      | true =>
        simp only [if_true] at q9 ⊢
        refine thnF (pe.run _ s9 σ8 H9 _ I9 q9) fun z s10 ⟨yv, H10, I10, r10, acc, hD10, hz10, nx⟩ => ?_
        exact app_ok (X := blkH X s3 H3 scope ce [it]) I10 hD10 hz10 r10 fun s11 I11 => fin I11 nx
  exact codeAny_compStart_list loop (wpAny_pyIter_listiter st4 loop)
end

/-! ### .. as a core term -/
section
variable {X : Cx} {cl : Nat → Addr} {W : WX} {c : Cfg}
theorem iList_of {t : C} {σ : L2.St} {H : Hp} {Q : It → Hp → Prop} (h : tI X cl W (fun en μ => itemsR c en .lseq [t] μ) σ H Q) : iList X.K (tE X cl W fun en μ => ev c en t μ) σ H Q := by
  obtain ⟨ρ, en, μ, h1, h2, h3⟩ := h
  dsimp only at h3
  rw [itemsR_one] at h3
  refine tE.go ⟨h1, h2⟩ h3 fun x H1 ρ1 dx μ1 t1 a1 r1 h4 => ?_
  cases dx with
  | lst xs =>
    cases r1 with
    | lst k1 k2 => exact ⟨_, rfl, ⟨_, k1.sq⟩, RG.val h4 a1.mem ⟨_, walk_lst, .inl ⟨k1.1, .inl k1.2⟩, k2⟩⟩
  | _ => exact h4.elim
/-- the block's premises, in a suite -/
structure LcHOk (X : Cx) (cl : Nat → Addr) (c : Cfg) (tg elt : Expr) (ifs : List Expr) (scope : Scope) (own : List (Str × Nat)) (t : Tg) (ts : List C) (te : C) : Prop where
  ok : BlkOk X.N X.env.scope scope own
  hg : ∀ (s : Shared) (H : Hp) (C : Addr) (cl' : List (Str × Addr)) (fp : List Addr), Mg (blkH X s H scope (compEnvC scope cl' C X.env) fp) tg t
  ht : ∀ (s : Shared) (H : Hp) (C : Addr) (cl' : List (Str × Addr)) (fp : List Addr), Mc (blkH X s H scope (compEnvC scope cl' C X.env) fp) cl c ifs ts
  he : ∀ (s : Shared) (H : Hp) (C : Addr) (cl' : List (Str × Addr)) (fp : List Addr), Me (blkH X s H scope (compEnvC scope cl' C X.env) fp) cl Wn c elt te
  own : ∀ i ∈ tgN t, i ∈ own.map (·.2)
theorem mf_lcH {tg elt iter : Expr} {ifs : List Expr} {scope : Scope} {own : List (Str × Nat)} {pos : Pos} {t : Tg} {ti : C} {ts : List C} {te : C} (hot : L2H.HotC X) (hN : X.N.Nodup) (hi : Me X cl W c iter ti) (B : LcHOk X cl c tg elt ifs scope own t ts te) (hs : ∀ x, foldedSetIterable iter X.env x = pure x) :
    Mf X cl W c (.ListComp elt [⟨tg, iter, ifs, 0⟩] scope pos) (.comp (own.map (·.2)) t .lseq [ti] ts te) := by
  have g : ∀ (s : Shared) (H : Hp) (C : Addr) (cl' : List (Str × Addr)) (fp : List Addr), PG (blkH X s H scope (compEnvC scope cl' C X.env) fp) tg (gB X.K t) := B.hg
  have tt : ∀ (s : Shared) (H : Hp) (C : Addr) (cl' : List (Str × Addr)) (fp : List Addr), PTs (blkH X s H scope (compEnvC scope cl' C X.env) fp) ifs (tT X cl Wn fun en μ => tests c en ts μ) := B.ht
  have ee : ∀ (s : Shared) (H : Hp) (C : Addr) (cl' : List (Str × Addr)) (fp : List Addr), PE (blkH X s H scope (compEnvC scope cl' C X.env) fp) elt (tE X cl Wn fun en μ => ev c en te μ) := B.he
  refine ⟨PE.imp (pe_lcH hot hN hi B.ok g tt ee hs) fun σ H Q h => ?_, comp_isLst⟩
  exact iList_of (lc_end B.own h)
end
end Py
end

section
set_option Elab.async false
set_option linter.all false
set_option maxRecDepth 100000
set_option maxHeartbeats 1000000
/-! PyWord: a def that tells the exception's class by a word, called in the suite; raise; try. -/
namespace Py
open PySem PySem.Spec PyProof.Rows L2 L2H
open PySem (Str)
variable [Tabs]

/-! ### the def's promise: p holds an exception of the class D; all that is frozen stays -/
structure After (H H' : Hp) : Prop where
  keep : ∀ b u, H b = some u → H' b = some u
theorem After.refl {H : Hp} : After H H := ⟨fun _ _ e => e⟩
theorem After.trans {H H1 H2 : Hp} (a : After H H1) (b : After H1 H2) : After H H2 := ⟨fun x u e => b.keep x u (a.keep x u e)⟩
theorem After.new {H : Hp} {p : Addr} {o : HO} (h : H p = none) : After H (upd H p o) := ⟨fun b u e => by rw [upd_ne (ne_of_none e h)]; exact e⟩
structure WordFn (P : Program) (w : World) (K : PySem.W.Frag) (mg : Str → Option Value) (base : Heap) (cl : Nat → Addr) (word : Nat → Option D) (k : Nat) (f : Addr) (fd : FuncData) (x : Str) : Prop where
  run : ∀ (A : Around) (outer : List PySem.Env) (s : Shared) (H : Hp) (args : Args) (Q : VK) (p : Addr × Obj) (q : Nat) (wd : Str), RoomH k A → Hot1 A p → PinOk outer H s p → Zc (.ref (cl q)) none p.2 → word q = some (.str wd) → MemOk K ⟨[], []⟩ H [] → Env0 P w K mg base A outer s H → BindsTo s fd args [(x, .ref p.1)] →
    (∀ H', Tr ⟨[], []⟩ ⟨[], []⟩ H H' → MemOk K ⟨[], []⟩ H' [] → Q (.str wd) H') → codeAny (model P w) A (.call (.ref f) args) (CR (L2N.CX P w) outer P w H s Q fun _ _ _ => False) s
theorem word_of {P : Program} {w : World} {K : PySem.W.Frag} {mg : Str → Option Value} {base : Heap} {cl : Nat → Addr} {word : Nat → Option D} {k : Nat} {f : Addr} {x : Str} {name qual : Str} {params : Arguments} {body : List Stmt} {scope : Scope} {dV kV doc pm cdv ct oc : Value} {an od : Option Addr}
    {osl : Array (Option Value)} {N : List Str} (lk : K.lookup f = some ⟨oc, od, .func (PySem.W.fnOf name qual params body scope dV kV doc pm an cdv ct), osl⟩) (hcd : PySem.W.codeIn K cdv qual = true) (S : FnScope N [x] scope)
    (hbody : ∀ (A : Around) (outer : List PySem.Env) (s : Shared) (H : Hp) (Q : VK) (p : Addr × Obj) (q : Nat) (wd : Str), Hot1 A p → RoomH k (A.deeper (envOfC qual scope s.heap.objs.size f cdv)) → Zc (.ref (cl q)) none p.2 → word q = some (.str wd) → MemOk K ⟨[], []⟩ H [] → (∀ H', Tr ⟨[], []⟩ ⟨[], []⟩ H H' → MemOk K ⟨[], []⟩ H' [] → Q (.str wd) H') →
      ∃ t, PSs (cxH (L2N.CX P w) P w K mg base N qual scope f cdv A outer s H (fun _ _ _ => False) p) body t ∧ t { nx := fun _ H' => Q .non H', rt := Q } (L2.start N [.ref p.1]) H) :
    WordFn P w K mg base cl word (k + 1) f (PySem.W.fnOf name qual params body scope dV kV doc pm an cdv ct) x := by
  refine ⟨fun A outer s H args Q p q wd hr hot hpin hz hw hm e0 hb hq => ?_⟩
  have KX : K.In s.heap := e0.mod.kin.keeps fun b o e => (e0.bs b o e).1
  have lim : s.heap.NoLimit := e0.mod.nolimit.keeps fun b o e => (e0.bs b o e).1
  have hkind : ∀ y ∈ [x].zip [Value.ref p.1], scope.names.lookup y.1 = some .local ∨ (scope.names.lookup y.1 = some .cell ∧ ((cellsFrom (s.heap.objs.size + 1) scope.names []).lookup y.1).isSome = true) := fun ⟨n, v⟩ hy => by
    rcases S.par n (List.of_mem_zip hy).1 with q | q
    · exact .inl q
    · exact .inr ⟨q, PySem.W.cellsFrom_some _ _ _ (.inl q)⟩
  refine codeAny_call_function hr.depth (KX _ _ lk) rfl S.co S.gen rfl (PySem.W.codeRec_of KX hcd) (hb _ _ _ _ ?_)
  refine wpAny_newFunctionEnv_cells S.kind hkind fun env he s1 xx => ?_
  subst he
  refine ⟨lim.keeps xx.toInCall.keep, codeAny_func ?_⟩
  obtain ⟨t, ht, hqt⟩ := hbody A outer s H Q p q wd hot (hr.deeper _) hz hw hm hq
  have I : L2.Inv (cxH (L2N.CX P w) P w K mg base N qual scope f cdv A outer s H (fun _ _ _ => False) p) [] (L2.start N [.ref p.1]) H s1 := inv_startH S hpin e0 rfl (.cons rfl .nil) xx
  refine wpAny_mono (ht.run [] s1 _ H _ I hqt) (fun fl s' hs => ?_) fun e s' hs => hs
  have fin : ∀ {σ' : L2.St} {H' : Hp} {v : V} {u : Value}, L2.Inv (cxH (L2N.CX P w) P w K mg base N qual scope f cdv A outer s H (fun _ _ _ => False) p) [] σ' H' s' → RelV v u → Q v H' → CE outer P w H s Q u s' :=
    fun {σ' H' v u} J rv q => ⟨v, H', J.os, J.bare, J.base, J.hok, rv, q⟩
  cases fl with
  | ret u =>
    obtain ⟨v, σ', H', J, rv, q⟩ := hs
    exact fin J rv q
  | next =>
    obtain ⟨σ', H', J, q⟩ := hs
    exact fin (v := V.non) (u := Value.none) J rfl q
  | brk =>
    obtain ⟨_, _, _, q⟩ := hs
    exact False.elim q
  | cont =>
    obtain ⟨_, _, _, q⟩ := hs
    exact False.elim q
/-- .. called in the suite -/
theorem pe_word {X : Cx} {cl : Nat → Addr} {word : Nat → Option D} {k : Nat} {f : Addr} {fd : FuncData} {x n y : Str} {i : Nat} {a : Addr} {oe : Obj} {q : Nat} {wd : Str} {pn : List (Addr × Obj)} {p1 p2 pos : Pos}
    (F : WordFn X.prog X.w X.K X.mg X.base cl word k f fd x) (hr : RoomH k (X.suite a ((a, oe) :: pn)).A) (hz : Zc (.ref (cl q)) none oe) (hv : ∃ vs : Array Value, oe.data = .fields vs ∧ vs[2]? = some .none) (hw : word q = some (.str wd)) (hg : Gl X y) (hm : X.mg y = some (.ref f)) (hk : PySem.W.keepIn X.K (.ref f) = true) (hb : Binds X.K fd [x] [])
    (hN : X.N[i]? = some n) (hvis : Vis X.env.scope n) (hd : (n == ("__debug__" : Str)) = false) (hcd : (n == ("__classdict__" : Str)) = false) (hdb : (y == ("__debug__" : Str)) = false)
    (he : starEach [.Name n p2] X.env = (false, eval (.Name n p2) X.env) :: starEach [] X.env) :
    PE (X.suite a ((a, oe) :: pn)) (.Call (.Name y p1) [.Name n p2] [] pos) (fun σ H Q => σ[i]? = some (some (.ref a)) ∧ MemOk X.K ⟨[], []⟩ H [] ∧ ∀ H', Tr ⟨[], []⟩ ⟨[], []⟩ H H' → MemOk X.K ⟨[], []⟩ H' [] → Q (.str wd) H') := by
  refine ⟨fun pins s σ H Q I h => ?_⟩
  obtain ⟨h1, h2, h3⟩ := h
  refine wpAny_Call_Name_kw (ld_glob (X := X.suite a ((a, oe) :: pn)) I hg hm ?_ hdb)
  have ha : PA (X.suite a ((a, oe) :: pn)) [.Name n p2] (tCons (tVar i) tNil) := pa_cons (pe_var hN hvis hd hcd) pa_nil he
  refine PySem.W.callWith_K (h₀ := X.base) I.ok.mod.kin hk (thn (ha.run pos pins s σ H (fun vs H1 => vs = [.ref a] ∧ H = H1) I ⟨_, h1, rfl, rfl⟩) fun us s1 ⟨vs, H1, I1, r, ev, eH⟩ => ⟨I1.kIn, ?_⟩) he rfl
  subst ev eH
  obtain ⟨u, rfl, ru⟩ := Vals.one r
  cases ru
  have P1 := I1.pin (a, oe) (List.mem_append_left _ List.mem_cons_self)
  have hpin : PinOk X.stack H s1 (a, oe) := ⟨P1.1, P1.2.1, fun hm => (List.mem_cons.mp (I1.stkSub a hm)).elim P1.2.2.1 P1.2.2.2.1, P1.2.2.2.2⟩
  have hot : Hot1 (X.suite a ((a, oe) :: pn)).A (a, oe) := ⟨rfl, hv⟩
  have b := hb s1 [.ref a] I1.kIn rfl
  refine wpAny_call (codeAny_mono (F.run _ X.stack s1 H ⟨[.ref a], []⟩ Q (a, oe) q wd hr hot hpin hz hw h2 I1.env0 b h3) fun r s' hq => ?_)
  cases r with
  | error e =>
    obtain ⟨_, _, _, _, _, _, _, _, _, _, _, _, w⟩ := hq
    exact w.elim
  | ok fl =>
    cases fl with
    | ret u => exact I1.after hq
    | next => exact False.elim hq
    | brk => exact False.elim hq
    | cont => exact False.elim hq

/-! ### raise -/
/-- an own exception class -/
structure ClsOk (X : Cx) (cl : Nat → Addr) (x : Str) (k : Nat) : Prop where
  ok : ∃ (B newId initId : String) (bmB : List Value), ExcBaseFacts B newId initId bmB ∧ PySem.W.excIn X.K (cl k) bmB newId = true
  mg : X.mg x = some (.ref (cl k))
  kp : PySem.W.keepIn X.K (.ref (cl k)) = true
  ra : Raises X (.ref (cl k))
section
variable {X : Cx} {cl : Nat → Addr} {W : WX} {c : Cfg}
theorem ms_raise {x m : Str} {k j : Nat} {p p2 pos pos' : Pos} (hc : X.calm = true) (tk : L2N.Takes X W) (C : ClsOk X cl x k) (hg : Gl X x) (hdb : (x == ("__debug__" : Str)) = false) : Ms X cl W c (.Raise (some (.Call (.Name x p) [.Constant (.str m) j p2] [] pos)) none pos') (.raise k) := by
  obtain ⟨B, newId, initId, bmB, F, q⟩ := C.ok
  refine PS.imp (L2N.ps_raise hc tk (L2N.pmk_own F q C.mg C.kp C.ra hg hdb)) fun D σ H h => ?_
  obtain ⟨ρ, e, μ, h1, h2, h3⟩ := h
  dsimp only at h3
  rw [exec] at h3
  exact h3 ρ H σ Tr.refl h1 h2
/-! ### try -/
theorem tr_any {ρ : Rho} {H H' : Hp} (t : Tr ⟨[], []⟩ ⟨[], []⟩ H H') : Tr ρ ρ H H' :=
  ⟨Nat.le_refl _, rfl, fun _ _ e _ => e, fun l a e q => (by rw [List.getElem?_eq_none q] at e; cases e), fun a o e n _ => t.keep a o e n (fun l z => by simp at z), t.dom⟩
theorem mem_any {K : PySem.W.Frag} {ρ : Rho} {H H' : Hp} {m : Mem} (t : Tr ⟨[], []⟩ ⟨[], []⟩ H H') (x : MemOk K ρ H m) (x' : MemOk K ⟨[], []⟩ H' []) : MemOk K ρ H' m := by
  have t' := tr_any (ρ := ρ) t
  have hd : ∀ a o, H a = some o → ∃ o', H' a = some o' := fun a o e => by
    cases q : H' a with
    | none => rw [t.dom a q] at e; cases e
    | some o' => exact ⟨o', rfl⟩
  refine ⟨x.len, x.one, x.apart, fun l a e => let ⟨o, q⟩ := x.live l a e; hd a o q, fun a e => let ⟨o, q⟩ := x.hid a e; hd a o q, fun l d e => ?_, x'.tab⟩
  exact (x.cell l d e).mo (fun _ e => e) (fun b o g1 g2 nt => t.keep b _ g2 nt (fun l z => by simp at z)) t'.mo
theorem mem_nil {K : PySem.W.Frag} {ρ : Rho} {H : Hp} {m : Mem} (x : MemOk K ρ H m) : MemOk K ⟨[], []⟩ H [] :=
  ⟨rfl, fun l l' a e => by simp at e, fun l a e => by simp at e, fun l a e => by simp at e, fun a e => by simp at e, fun l d e => by simp at e, x.tab⟩
/-- what the suite's call wants -/
structure WordOk (X : Cx) (cl : Nat → Addr) (c : Cfg) (y : Str) : Prop where
  ok : ∃ (k : Nat) (f : Addr) (fd : FuncData) (x : Str), WordFn X.prog X.w X.K X.mg X.base cl c.word k f fd x ∧ RoomH k X.A ∧ X.mg y = some (.ref f) ∧ PySem.W.keepIn X.K (.ref f) = true ∧ Binds X.K fd [x] []
def tWord (K : PySem.W.Frag) (cl : Nat → Addr) (c : Cfg) (i : Nat) : Addr → Value → Option Addr → TS := fun a cls d D σ H => ∃ (q : Nat) (wd : Str), cls = .ref (cl q) ∧ d = none ∧ c.word q = some (.str wd) ∧ (i < σ.length → σ[i]? = some (some (.ref a))) ∧ MemOk K ⟨[], []⟩ H [] ∧ ∀ H', Tr ⟨[], []⟩ ⟨[], []⟩ H H' → MemOk K ⟨[], []⟩ H' [] → D.rt (.str wd) H'
theorem ms_try {x n y : Str} {i k : Nat} {body : List Stmt} {tb : List S} {np p1 p2 rp rp2 pos pos' : Pos} (hs : X.stack = X.env :: X.outer) (hf : X.env.frame = some X.env.locals) (hN : X.N.Nodup) (hi : X.N[i]? = some n) (hln : X.env.kindOf n = some .local) (hc : Names X x (.ref (cl k))) (tk : L2N.Takes X W)
    (hb : ∀ (W : WX) (pn : List (Addr × Obj)) (xe : Value → Shared → Prop), L2N.Takes (X.tr pn xe) W → PassesOwn (model X.prog X.w) X.A X.env xe → Mb (X.tr pn xe) cl W c body tb)
    (hsub : ∀ q d, c.word q = some d → PySem.W.exmOne X.K (.ref (cl q)) (.ref (cl k)) = some (c.sub q k)) (hstr : ∀ q d, c.word q = some d → ∃ s, d = .str s ∧ StrOk s) (WO : WordOk X cl c y) (hg : Gl X y) (hvis : Vis X.env.scope n) (hd : (n == ("__debug__" : Str)) = false) (hcd : (n == ("__classdict__" : Str)) = false) (hdb : (y == ("__debug__" : Str)) = false)
    (he : starEach [.Name n p2] X.env = (false, eval (.Name n p2) X.env) :: starEach [] X.env) :
    Ms X cl W c (.Try body [.ExceptHandler (some (.Name x np)) (some n) [.Return (some (.Call (.Name y p1) [.Name n p2] [] rp)) rp2] pos'] [] [] pos) (.tryRet tb k) := by
  obtain ⟨kk, f, fd, px, F, hr, hm, hk, hbd⟩ := WO.ok
  have hb' : ∀ (W : WX) (pn : List (Addr × Obj)) (xe : Value → Shared → Prop), L2N.Takes (X.tr pn xe) W → PassesOwn (model X.prog X.w) X.A X.env xe → PSs (X.tr pn xe) body (tS X cl W fun e μ => execs c tb e μ) := hb
  refine PS.imp (L2N.ps_try_as (ts := tWord X.K cl c i) hs hf hN hi hln hc tk hb' (fun a oe cls d pn hz hv => ?_)) fun D σ H h => ?_
  · refine ⟨fun pins s σ H D I h => ?_⟩
    obtain ⟨q, wd, rfl, rfl, h1, h2, h3, h4⟩ := h
    obtain ⟨vs, hvs⟩ := hv
    have pe := pe_word (X := X) (pn := pn) (p1 := p1) (p2 := p2) (pos := rp) F (show RoomH kk (X.suite a ((a, oe) :: pn)).A from ⟨hr.dp, hr.un⟩) hz.zc ⟨vs, hvs, hz.2.2 vs hvs⟩ h1 hg hm hk hbd hi hvis hd hcd hdb he
    exact (pss_one (ps_ret pe)).run pins s σ H D I ⟨h2 (by rw [I.len]; exact (List.getElem?_eq_some_iff.mp hi).1), h3, h4⟩
  · obtain ⟨ρ, en, μ, h1, h2, h3⟩ := h
    dsimp only at h3
    rw [exec] at h3
    refine ⟨ρ, en, μ, h1, h2, ?_⟩
    show SG _ _ _ _ _ _ (execs c tb en μ)
    cases qe : execs c tb en μ with
    | nx e m => rw [qe] at h3; exact h3
    | rt d m => rw [qe] at h3; exact h3
    | bk e m => rw [qe] at h3; exact h3
    | ct e m => rw [qe] at h3; exact h3
    | no => rw [qe] at h3; exact h3
    | ex q e' m1 =>
      rw [qe] at h3
      dsimp only at h3
      cases qw : c.word q with
      | none => rw [qw] at h3; exact h3.elim
      | some d =>
        rw [qw] at h3
        dsimp only at h3
        obtain ⟨wd, rfl, ok⟩ := hstr q d qw
        intro ρ' H' σ' t E x
        refine ⟨c.sub q k, hsub q _ qw, fun hy a ha => ?_, fun hn => ?_⟩
        · rw [if_pos hy] at h3
          refine ⟨q, wd, rfl, rfl, qw, ?_, mem_nil x, fun H'' t2 x2 => ?_⟩
          · exact fun h6 => List.getElem?_set_self (by rw [List.length_set] at h6; exact h6)
          · exact h3 _ ρ' H'' (t.trans (tr_any t2)) (RepP.str _ ok) (mem_any t2 x x2)
        · rw [hn, if_neg Bool.false_ne_true] at h3
          exact h3 ρ' H' σ' t E x
end
end Py
end

section
set_option Elab.async false
set_option linter.all false
set_option maxRecDepth 100000
set_option maxHeartbeats 1000000
/-! PyFun: a def by its body: the cells made in it are dropped at its end. -/
namespace Py
open PySem PySem.Spec PyProof.Rows L2
open PySem (Str)
variable [Tabs]
def Rho.cut (ρ : Rho) (n : Nat) : Rho := ⟨ρ.lo.take n, ρ.hi⟩
section
variable {K : PySem.W.Frag} {ρ ρ' : Rho} {H H' : Hp} {m : Mem} {n : Nat}
theorem take_some {α : Type} {xs : List α} {n l : Nat} {a : α} (h : (xs.take n)[l]? = some a) : l < n ∧ xs[l]? = some a := by
  have hl : l < n := by
    have z := (List.getElem?_eq_some_iff.mp h).1
    rw [List.length_take] at z
    omega
  rw [List.getElem?_take_of_lt hl] at h
  exact ⟨hl, h⟩
theorem mo_cut : Mo ρ (ρ.cut n) H H := fun a o f h _ => ⟨h, fun l e => f.1 l (take_some e).2, f.2⟩
theorem mem_cut (x : MemOk K ρ H m) : MemOk K (ρ.cut n) H (m.take n) where
  len := by show (ρ.lo.take n).length = _; rw [List.length_take, List.length_take, x.len]
  one := fun l l' a e e' => x.one l l' a (take_some e).2 (take_some e').2
  apart := fun l a e => x.apart l a (take_some e).2
  live := fun l a e => x.live l a (take_some e).2
  hid := x.hid
  cell := fun l d e => by
    obtain ⟨hl, e'⟩ := take_some e
    exact (x.cell l d e').mo (fun a g1 => by show (ρ.lo.take n)[l]? = _; rw [List.getElem?_take_of_lt hl]; exact g1) (fun _ _ _ e _ => e) mo_cut
  tab := x.tab
theorem tr_cut (t : Tr ρ ρ' H H') (h : ρ.lo.length = n) : Tr ρ (ρ'.cut n) H H' where
  len := by show _ ≤ (ρ'.lo.take n).length; rw [List.length_take, Nat.min_eq_left (by rw [← h]; exact t.len), h]; exact Nat.le_refl _
  hi := t.hi
  old := fun l a e hl => t.old l a (take_some e).2 hl
  new := fun l a e hl => absurd (take_some e).1 (by omega)
  keep := t.keep
  dom := t.dom
theorem rep_cut {d : D} {v : V} (r : Rep K ρ H d v) (h : ∀ l, d = .ref l → l < n) : Rep K (ρ.cut n) H d v := by
  cases d with
  | ref l =>
    obtain ⟨o, e, q⟩ := r
    exact ⟨o, by show (ρ.lo.take n)[l]? = _; rw [List.getElem?_take_of_lt (h l rfl)]; exact e, q⟩
  | lck d =>
    cases d with
    | lst ds =>
      obtain ⟨a, vs, e, q, k⟩ := r
      exact ⟨a, vs, e, q.imp (fun q => mo_cut.rd q.1 q.2 noT_lst) id, k.mono mo_cut⟩
    | _ => exact RepP.mono mo_cut r
  | _ => exact RepP.mono mo_cut r
end
theorem sg_finish {K : PySem.W.Frag} {cl : Nat → Addr} {E : XK} {ρ : Rho} {H : Hp} {Q : VK} {ex : Bool} {n : Nat} {o : Out} (hn : ρ.lo.length = n) (h : RG (Rep K) K cl E ρ H Q (finish ex n o)) :
    SG K cl (fun c d _ H => E c d H) ρ H { nx := fun _ H' => Q .non H', rt := Q } o := by
  cases o with
  | nx e m => exact fun ρ' H' σ t E x => h .non _ H' (tr_cut t hn) RepP.non (mem_cut x)
  | bk e m => exact h.elim
  | ct e m => exact h.elim
  | no => exact h.elim
  | ex k e m => exact fun ρ' H' σ t E x => h _ H' (tr_cut t hn) (mem_cut x)
  | rt d m =>
    intro v ρ' H' t r x
    by_cases hd : ∃ l, d = .ref l
    · obtain ⟨l, rfl⟩ := hd
      unfold finish at h
      dsimp only at h
      by_cases hl : l < n
      · rw [if_pos hl] at h
        exact h v _ H' (tr_cut t hn) (rep_cut r fun l' e => by cases e; exact hl) (mem_cut x)
      · rw [if_neg hl] at h
        cases q : m[l]? with
        | none => rw [q] at h; exact h.elim
        | some d =>
          rw [q] at h
          cases d with
          | lst xs =>
            obtain ⟨a, vs, g1, g2, g3⟩ := x.alive q
            obtain ⟨o, e1, e2⟩ := r
            rw [g1] at e1
            cases e1
            obtain rfl := e2 a rfl
            have fz : ∀ l' : Nat, (ρ'.cut n).lo[l']? ≠ some (some a) := fun l' e => by
              obtain ⟨z1, z2⟩ := take_some e
              have z := x.one l' l a z2 g1
              omega
            have na : a ∉ ρ'.hi := x.apart l a g1
            cases ex with
            | false =>
              dsimp only at h
              rw [if_neg Bool.false_ne_true] at h
              exact h _ _ H' (tr_cut t hn) (RepP.lst ⟨⟨fz, na⟩, g2⟩ (g3.mono mo_cut)) (mem_cut x)
            | true =>
              dsimp only at h
              rw [if_pos rfl] at h
              have nl : (ρ'.cut n).lo.length = n := by
                show (ρ'.lo.take n).length = n
                rw [List.length_take, Nat.min_eq_left (by rw [← hn]; exact t.len)]
              have tc := tr_cut t hn
              have mc := mem_cut (n := n) x
              have ap : ∀ {l' : Nat} {b : Addr}, ((ρ'.cut n).lo ++ [some a])[l']? = some (some b) → (ρ'.cut n).lo[l']? = some (some b) ∨ (l' = n ∧ b = a) := fun {l' b} e => by
                by_cases z : l' < n
                · rw [List.getElem?_append_left (by rw [nl]; exact z)] at e
                  exact .inl e
                · rw [List.getElem?_append_right (by rw [nl]; omega)] at e
                  cases y : l' - (ρ'.cut n).lo.length with
                  | zero =>
                    rw [y] at e
                    cases e
                    exact .inr ⟨by rw [nl] at y; omega, rfl⟩
                  | succ j => rw [y] at e; cases e
              have mo : Mo ρ' ((ρ'.cut n).add a) H' H' := fun b o f hb nb => ⟨hb, fun l' e => by
                rcases ap e with z | ⟨_, z⟩
                · exact f.1 l' (take_some z).2
                · subst z; exact f.1 l g1, f.2⟩
              have moc : ∀ {b u}, Fz ρ' b → H' b = some u → Fz ((ρ'.cut n).add a) b := fun {b u} f hb => by
                refine ⟨fun l' e => ?_, f.2⟩
                rcases ap e with z | ⟨_, z⟩
                · exact f.1 l' (take_some z).2
                · subst z; exact f.1 l g1
              refine h _ ((ρ'.cut n).add a) H' ⟨?_, tc.hi, fun l' b e hl' => ?_, fun l' b e hl' => ?_, tc.keep, tc.dom⟩ ⟨some a, ?_, fun b e => by cases e; rfl⟩ ⟨?_, fun l1 l2 b e1 e2 => ?_, fun l' b e => ?_, fun l' b e => ?_, mc.hid, fun l' d e => ?_, mc.tab⟩
              · show _ ≤ ((ρ'.cut n).lo ++ [some a]).length
                rw [List.length_append, nl]; omega
              · rcases ap e with z | ⟨z, _⟩
                · exact tc.old l' b z hl'
                · omega
              · rcases ap e with z | ⟨_, z⟩
                · exact tc.new l' b z hl'
                · subst z
                  exact t.new l b g1 (by omega)
              · show ((ρ'.cut n).lo ++ [some a])[n]? = _
                rw [List.getElem?_append_right (by rw [nl]; exact Nat.le_refl _), nl, Nat.sub_self]; rfl
              · show ((ρ'.cut n).lo ++ [some a]).length = _
                rw [List.length_append, List.length_append, mc.len]; rfl
              · rcases ap e1 with z1 | ⟨z1, y1⟩ <;> rcases ap e2 with z2 | ⟨z2, y2⟩
                · exact mc.one l1 l2 b z1 z2
                · subst y2; exact (fz l1 z1).elim
                · subst y1; exact (fz l2 z2).elim
                · omega
              · rcases ap e with z | ⟨_, z⟩
                · exact mc.apart l' b z
                · subst z; exact na
              · rcases ap e with z | ⟨_, z⟩
                · exact mc.live l' b z
                · subst z; exact ⟨_, g2⟩
              · have lm : (m.take n).length = n := by rw [← mc.len, nl]
                by_cases z : l' < n
                · rw [List.getElem?_append_left (by rw [lm]; exact z)] at e
                  obtain ⟨_, e'⟩ := take_some e
                  exact (x.cell l' d e').mo (fun b k1 => by
                    show ((ρ'.cut n).lo ++ [some a])[l']? = _
                    rw [List.getElem?_append_left (by rw [nl]; exact z)]
                    show (ρ'.lo.take n)[l']? = _
                    rw [List.getElem?_take_of_lt z]
                    exact k1) (fun _ _ _ e _ => e) mo
                · rw [List.getElem?_append_right (by rw [lm]; omega), lm] at e
                  cases y : l' - n with
                  | zero =>
                    rw [y] at e
                    cases e
                    have el : l' = n := by omega
                    subst el
                    refine ⟨a, vs, ?_, g2, g3.mono mo⟩
                    show ((ρ'.cut l').lo ++ [some a])[l']? = _
                    rw [List.getElem?_append_right (by rw [nl]; exact Nat.le_refl _), nl, Nat.sub_self]; rfl
                  | succ j => rw [y] at e; cases e
          | _ =>
            first
            | exact h.elim
            | (have z := x.cell l _ q; exact z.elim)
    · have e : finish ex n (.rt d m) = .ok d (m.take n) := by
        cases d with
        | ref l => exact (hd ⟨l, rfl⟩).elim
        | _ => rfl
      rw [e] at h
      exact h v _ H' (tr_cut t hn) (rep_cut r fun l e => (hd ⟨l, e⟩).elim) (mem_cut x)
theorem env_start {K : PySem.W.Frag} {ρ : Rho} {H : Hp} {ds : List D} {vs : List V} (r : Reps K ρ H ds vs) (k : Nat) : EnvOk K ρ H (ds.map some ++ List.replicate k none) (vs.map some ++ List.replicate k none) := by
  refine ⟨by simp [r.length], fun i d h => ?_⟩
  by_cases hi : i < ds.length
  · rw [List.getElem?_append_left (by simpa using hi), List.getElem?_map, Option.map_eq_some_iff] at h
    obtain ⟨d', e1, e2⟩ := h
    cases e2
    obtain ⟨v, e3, rv⟩ := r.get e1
    refine ⟨v, ?_, rv⟩
    rw [List.getElem?_append_left (by simpa using (List.getElem?_eq_some_iff.mp e3).1), List.getElem?_map, e3]; rfl
  · rw [List.getElem?_append_right (by simpa using hi), List.getElem?_replicate] at h
    split at h <;> cases h
section
variable {P : Program} {w : World} {K : PySem.W.Frag} {mg : Str → Option Value} {base : Heap} {cl : Nat → Addr} {c : Cfg} {k : Nat} {f : Addr} {fd : FuncData}
/-- the context of a def's body -/
abbrev cxN (P : Program) (w : World) (K : PySem.W.Frag) (mg : Str → Option Value) (base : Heap) (N : List Str) (qual : Str) (scope : Scope) (f : Addr) (cdv : Value) (A : Around) (outer : List PySem.Env) (s : Shared) (H : Hp) (E : XK) : Cx := cxOf (L2N.CX P w) P w K mg base N qual scope f cdv A outer s H E
theorem cxN_takes {N : List Str} {qual : Str} {scope : Scope} {cdv : Value} {A : Around} {outer : List PySem.Env} {s : Shared} {H : Hp} {E : XK} : L2N.Takes (cxN P w K mg base N qual scope f cdv A outer s H E) (fun cls d _ H => E cls d H) :=
  L2N.takes_of (X := cxN P w K mg base N qual scope f cdv A outer s H E) rfl rfl rfl (E₁ := fun e' s'' => L2N.CX P w outer H s E e' s'') rfl
theorem cxN_passes {N : List Str} {qual : Str} {scope : Scope} {cdv : Value} {A : Around} {outer : List PySem.Env} {s : Shared} {H : Hp} {E : XK} : PassesOwn (model P w) (cxN P w K mg base N qual scope f cdv A outer s H E).A (cxN P w K mg base N qual scope f cdv A outer s H E).env (cxN P w K mg base N qual scope f cdv A outer s H E).xe :=
  passes_of (X := cxN P w K mg base N qual scope f cdv A outer s H E) (K := fun e s'' => L2N.CX P w outer H s E e s'') (E₁ := fun e' s'' => L2N.CX P w outer H s E e' s'') rfl
/-- THE RULE for a def: its body as core terms -/
theorem fn_ok {x qual : Str} {st : Stmt} {N ps : List Str} {tb : List S} {ex : Bool} (F : Fun K x qual st f fd) (S : FnScope N ps (defScope st))
    (hb : ∀ (cdv : Value) (A : Around) (outer : List PySem.Env) (s : Shared) (H : Hp) (E : XK), PySem.W.codeIn K cdv qual = true → Room k (cxN P w K mg base N qual (defScope st) f cdv A outer s H E).A → Mb (cxN P w K mg base N qual (defScope st) f cdv A outer s H E) cl (fun cls d _ H => E cls d H) c (defBody st) tb) :
    FnOk P w K mg base (L2N.CX P w) (k + 1) f fd ps (spG K cl (runFn c ⟨ps.length, N.length, tb, ex⟩) ps.length) := by
  obtain ⟨oc, od, kV, doc, pm, an, cdv, ct, osl, rfl, lk, hcd⟩ := F.ex
  refine fn_of lk hcd S (fun vs H Q E h => ?_) fun A outer s H vs Q E hr hsp => ?_
  · obtain ⟨ρ, ds, μ, _, r, hl, _⟩ := h
    rw [← r.length, hl]
  · obtain ⟨ρ, ds, μ, m, r, hl, h⟩ := hsp
    refine ⟨_, hb cdv A outer s H E hcd hr, ρ, ds.map some ++ List.replicate (N.length - ps.length) none, μ, ?_, m, ?_⟩
    · unfold L2.start
      rw [← r.length, hl]
      exact env_start r _
    · unfold runFn at h
      rw [if_pos hl] at h
      exact sg_finish m.len h
/-- none -/
theorem fn_none {x qual : Str} {st : Stmt} {ps : List Str} {j : Nat} (F : Fun K x qual st f fd) : FnOk P w K mg base (L2N.CX P w) j f fd ps (spG K cl (fun _ _ => .no) ps.length) :=
  ⟨fun vs H Q E h => by obtain ⟨_, _, _, _, _, _, h⟩ := h; exact h.elim, fun A outer s H args us vs Q E _ _ _ _ h => by obtain ⟨_, _, _, _, _, _, h⟩ := h; exact h.elim⟩
end
end Py
end

section
set_option Elab.async false
set_option linter.all false
set_option maxRecDepth 100000
set_option maxHeartbeats 1000000
/-! PyDct: dicts whose keys are tuples: displays. -/
namespace Py
open PySem PySem.Spec PyProof.Rows L2
open PySem (Str)
variable [Tabs]
section
variable {X : Cx} {cl : Nat → Addr} {W : WX} {c : Cfg}
theorem raw_new (h : Heap) : (h.push { cls := .type "dict", data := .dict #[] }).DictRaw h.objs.size #[] 0 := ⟨_, Heap.get?_push_size _ rfl, ⟨rfl, rfl, rfl⟩, rfl⟩
/-- a cell is made -/
theorem mem_addC {K : PySem.W.Frag} {ρ : Rho} {H : Hp} {m : Mem} {a : Addr} {u : HO} {d : D} (x : MemOk K ρ H m) (h : H a = none) (new : CellOk K (ρ.add a) (upd H a u) m.length d) : MemOk K (ρ.add a) (upd H a u) (m ++ [d]) := by
  have fz := x.fz h
  have y := x.new1 (o := u) h
  have mo : Mo ρ (ρ.add a) H (upd H a u) := fun b o f e _ => by
    refine ⟨by rw [upd_ne (ne_of_none e h)]; exact e, fun l z => ?_, f.2⟩
    rcases lo_add z with z | ⟨_, z⟩
    · exact f.1 l z
    · rw [z, h] at e; cases e
  refine ⟨?_, fun l l' b e f => ?_, fun l b e z => ?_, fun l b e => ?_, y.hid, fun l d' e => ?_, y.tab⟩
  · have := x.len
    simp only [Rho.add, List.length_append, List.length_singleton]
    omega
  · rcases lo_add e with e | ⟨e1, e2⟩ <;> rcases lo_add f with f | ⟨f1, f2⟩
    · exact x.one l l' b e f
    · exact absurd (by rw [← f2]; exact e) (fz.1 l)
    · exact absurd (by rw [← e2]; exact f) (fz.1 l')
    · omega
  · rcases lo_add e with e | ⟨_, e⟩
    · exact x.apart l b e z
    · exact fz.2 (by rw [← e]; exact z)
  · rcases lo_add e with e | ⟨_, e⟩
    · exact y.live l b e
    · exact ⟨_, by rw [e]; exact upd_same⟩
  · have hl : m.length = ρ.lo.length := x.len.symm
    by_cases q : l < m.length
    · rw [List.getElem?_append_left q] at e
      exact (x.cell l d' e).mo (fun b g => by
        simp only [Rho.add]
        rw [List.getElem?_append_left (by omega)]
        exact g) (fun b o _ g _ => by rw [upd_ne (ne_of_none g h)]; exact g) mo
    · rw [List.getElem?_append_right (Nat.le_of_not_lt q)] at e
      by_cases z : l - m.length = 0
      · rw [z] at e
        simp at e
        subst e
        have : l = m.length := by omega
        rw [this]; exact new
      · rw [List.getElem?_eq_none (by simp; omega)] at e
        cases e
theorem tr_new {K : PySem.W.Frag} {ρ : Rho} {H : Hp} {m : Mem} {a : Addr} {u : HO} (h : H a = none) : Tr ρ (ρ.add a) H (upd H a u) := tr_add (Tr.new1 h) h
theorem rep_addC {K : PySem.W.Frag} {ρ : Rho} {H : Hp} {m : Mem} {a : Addr} (x : MemOk K ρ H m) {H' : Hp} : Rep K (ρ.add a) H' (.ref m.length) (.ref a) := by
  rw [← x.len]; exact rep_add
/-- {} -/
def tDNew0 : TE := fun _ H Q => ∀ p, H p = none → (p == sysModules) = false → Q (.ref p) (upd H p (DPhi p #[]))
theorem pe_dnew0 {pos : Pos} : PE X (.Dict [] [] pos) tDNew0 := ⟨fun pins s σ H Q I h =>
  wpAny_Dict_empty ⟨.ref s.heap.objs.size, _, I.laid (a := s.heap.objs.size) (o := DPhi s.heap.objs.size #[]) (t' := s.toks) (fun _ _ q => Heap.get?_push_of_some _ q) (Nat.le_refl _) (dphi_ok (raw_new s.heap)), rfl,
    h _ (I.hok.fresh (Nat.le_refl _)) (beq_eq_false_iff_ne.mpr (Ne.symm (Nat.ne_of_lt I.big)))⟩⟩
theorem me_dnew {pos : Pos} : Me X cl W c (.Dict [] [] pos) .dnew := by
  refine PE.imp pe_dnew0 fun σ H Q h => ?_
  obtain ⟨ρ, en, μ, h1, h2, h3⟩ := h
  dsimp only at h3
  rw [ev] at h3
  intro p hp hs
  exact h3 _ (ρ.add p) _ (tr_new (K := X.K) (m := μ) hp) (rep_addC h2) (mem_addC h2 hp ⟨p, #[], by simp only [Rho.add]; rw [← h2.len, List.getElem?_append_right (Nat.le_refl _), Nat.sub_self]; rfl, upd_same, hs, by simp, .nil, .nil⟩)
/-- {k: v} -/
def tDNew1 (X : Cx) (tk tv : TE) : TE := fun σ H Q => ∀ p, H p = none → (p == sysModules) = false → tPairs [(tk, tv)] σ (upd H p (DPhi p #[])) fun ps H2 => ∃ x y, ps = [(x, y)] ∧ H2 p = some (DPhi p #[]) ∧
  ∃ ρ kd, View X.K ρ H2 kd x ∧ keyOk kd = true ∧ ∀ e : DictEntry, e.hash = (nkey kd).hash Tabs.wd → (∃ b, x = .ref b ∧ e.key = .ref b) → RelV y e.val → Q (.ref p) (upd H2 p (DPhi p #[e]))
theorem pe_dnew1 {k v : Expr} {tk tv : TE} {pos : Pos} (hu : X.A.units + 200 < cLine) (hw : X.w = Tabs.wd) (hk : PE X k tk) (hv : PE X v tv) : PE X (.Dict [some k] [v] pos) (tDNew1 X tk tv) := by
  refine ⟨fun pins s σ H Q I q => ?_⟩
  have hn := I.hok.fresh (Nat.le_refl s.heap.objs.size)
  have I1 := I.laid (a := s.heap.objs.size) (o := DPhi s.heap.objs.size #[]) (h' := s.heap.push { cls := .type "dict", data := .dict #[] }) (t' := s.toks) (fun _ _ q => Heap.get?_push_of_some _ q) (Nat.le_refl _) (dphi_ok (raw_new s.heap))
  have sys : (s.heap.objs.size == sysModules) = false := beq_eq_false_iff_ne.mpr (Ne.symm (Nat.ne_of_lt I.big))
  rw [arm_eval_Dict]
  have shape : (evalEachOpt [some k] X.env).zip ((evalEach [v] X.env).map fun v => do let x ← v; standAt pos; pure x) = (pairTrees [some k] [v] X.env pos).map fun p => (some p.1, p.2) := rfl
  rw [shape, dictDisplay_pairs _ (by simp [pairTrees]) (by simp [pairTrees])]
  refine wpAny_bind (wpAny_standAt (wpAny_bind (wpAny_subDictH (knd := nestedKind X.prog X.w) (show X.A.units + 8 < cLine by omega) (by simp [pairTrees]) ?_)))
  refine wpAny_mono ((pps_cons hk hv pps_nil).run pins _ σ _ (fun ps H2 => ∃ x y, ps = [(x, y)] ∧ H2 s.heap.objs.size = some (DPhi s.heap.objs.size #[]) ∧
    ∃ ρ kd, View X.K ρ H2 kd x ∧ keyOk kd = true ∧ ∀ e : DictEntry, e.hash = (nkey kd).hash Tabs.wd → (∃ b, x = .ref b ∧ e.key = .ref b) → RelV y e.val → Q (.ref s.heap.objs.size) (upd H2 s.heap.objs.size (DPhi s.heap.objs.size #[e]))) I1 ?_) (fun vs s1 h1 => ?_) fun _ _ e => e
  · exact q _ hn sys
  · obtain ⟨ps, H2, I2, rel, x, y, rfl, e2, ρ, kd, vw, ko, hQ⟩ := h1
    cases rel with
    | @cons _ b _ bs r rt =>
    cases rt
    obtain ⟨ku, vu⟩ := b
    obtain ⟨kb, rfl, rfl, ki⟩ := vw.keyIs I2 r.1 ko
    obtain ⟨ep, o, ho, hx, hd⟩ := dphi_raw I2 (.inl e2)
    refine ⟨[(nkey kd, kb, vu)], ⟨rfl, rfl, ki, trivial⟩, ⟨o, #[], ep, ho, hx, hd, rfl, by simp, .nil⟩, fun h' tk dd hs => ?_⟩
    obtain ⟨o', es', ep', ho', hx', hd', he', _, _⟩ := dd
    have ee : es' = #[entX (nkey kd, kb, vu)] := by
      apply Array.toList_inj.mp
      rw [he']
      show [(⟨(nkey kd).hash X.w, .ref kb, vu⟩ : DictEntry)] = [⟨(nkey kd).hash Tabs.wd, .ref kb, vu⟩]
      rw [hw]
    refine wpAny_pure ⟨.ref s.heap.objs.size, _, I2.write (x := s.heap.objs.size) (e := s.heap.objs.size) (o := DPhi s.heap.objs.size es') (t' := tk) (by rw [e2]; exact True.intro) (.inl rfl) (fun b u hb z => (hs.2 b hb).trans z) ⟨o', ho'⟩ (dphi_ok ⟨o', ho', hx', hd'⟩), rfl, ?_⟩
    rw [ee]
    exact hQ _ rfl ⟨kb, rfl, rfl⟩ r.2
theorem me_dnew1 {k v : Expr} {tk tv : C} {pos : Pos} (hu : X.A.units + 200 < cLine) (hw : X.w = Tabs.wd) (hk : Me X cl W c k tk) (hv : Me X cl W c v tv) : Me X cl W c (.Dict [some k] [v] pos) (.dnew1 tk tv) := by
  refine PE.imp (pe_dnew1 hu hw hk hv) fun σ H Q h => ?_
  obtain ⟨ρ, en, μ, h1, h2, h3⟩ := h
  dsimp only at h3
  rw [ev] at h3
  intro p hp hs
  have t0 : Tr ρ (ρ.add p) H (upd H p (DPhi p #[])) := tr_new (K := X.K) (m := μ) hp
  have m0 : MemOk X.K (ρ.add p) (upd H p (DPhi p #[])) (μ ++ [.dtp []]) := mem_addC h2 hp ⟨p, #[], by simp only [Rho.add]; rw [← h2.len, List.getElem?_append_right (Nat.le_refl _), Nat.sub_self]; rfl, upd_same, hs, by simp, .nil, .nil⟩
  have r0 : Rep X.K (ρ.add p) (upd H p (DPhi p #[])) (.ref μ.length) (.ref p) := rep_addC h2
  refine tE.go ⟨h1.tr t0, m0⟩ (RG.tr t0 h3) fun x H1 ρ1 dx μ1 t1 a1 r1 h4 => ?_
  refine tE.go a1 h4 fun y H2 ρ2 dy μ2 t2 a2 r2 h5 => ?_
  refine ⟨x, y, rfl, ?_⟩
  have r1 := r1.tr t2
  have rp := (r0.tr t1).tr t2
  unfold put1 at h5
  cases qd : der μ2 dx with
  | none => rw [qd] at h5; exact h5.elim
  | some kd =>
    rw [qd] at h5
    simp only at h5
    by_cases ko : keyOk kd = true ∧ plainK dy = true ∧ isNew μ2 μ.length = true
    · rw [if_pos ko] at h5
      obtain ⟨k1, k2, k3⟩ := ko
      have hm : μ2[μ.length]? = some (.dtp []) := by
        unfold isNew at k3
        split at k3
        · assumption
        · cases k3
      obtain ⟨a, es, e1, e2, ents⟩ := a2.mem.cell _ _ hm
      obtain ⟨o, q1, q2⟩ := rp
      rw [e1] at q1
      have ea := q2 a (Option.some.inj q1).symm
      cases ea
      have es0 : es = #[] := by
        have := ents.ents
        apply Array.toList_inj.mp
        generalize es.toList = l at this
        cases this
        rfl
      subst es0
      refine ⟨e2, ρ2, kd, r1.view a2.mem qd, k1, fun e he hb hv => ?_⟩
      obtain ⟨⟨zs, ez⟩, _⟩ := keyOk_parts k1
      subst ez
      have ey := der_tup a2.mem r1 qd
      subst ey
      have rd : RepP X.K ρ2 H2 dy y := by
        cases dy <;> first | exact r2 | (simp [plainK] at k2)
      have tw := tr_write (o := DPhi p #[e]) a2.mem e1
      have mo := mo_write (o := DPhi p #[e]) a2.mem e1
      obtain ⟨b, rfl, hb⟩ := hb
      refine h5 _ ρ2 _ tw ?_ (mem_writeC a2.mem e1 e2 noT_dphi ⟨p, #[e], e1, upd_same, ents.sys, by show 1 ≤ sizeLine; decide, ?_, by simp⟩)
      · exact ⟨_, e1, fun b' e' => by cases e'; rfl⟩
      · refine .cons ⟨k1, he, ⟨b, hb, ?_⟩, y, rd.mono mo, hv⟩ .nil
        exact RepP.mono mo r1
    · rw [if_neg ko] at h5; exact h5.elim
end
end Py
end

section
set_option Elab.async false
set_option linter.all false
set_option maxRecDepth 100000
set_option maxHeartbeats 1000000
/-! PyMin: min, max of a list or tuple of ints. -/
namespace Py
open PySem PySem.Spec PyProof.Rows L2
open PySem (Str)
variable [Tabs]
theorem minL_eq : ∀ (xs : List Int) (x M : Int), M ∈ x :: xs → (∀ a ∈ x :: xs, M ≤ a) → xs.foldl (fun a b => if b < a then b else a) x = M
  | [], x, M, h, _ => by simp at h; exact h.symm
  | y :: xs, x, M, h, k => by
    rw [List.foldl_cons]
    have h1 := k x (by simp)
    have h2 := k y (by simp)
    by_cases q : y < x
    · rw [if_pos q]
      refine minL_eq xs y M ?_ fun a ha => k a (by simp at ha ⊢; rcases ha with ha | ha <;> simp [ha])
      rcases List.mem_cons.mp h with rfl | h
      · omega
      · exact h
    · rw [if_neg q]
      refine minL_eq xs x M ?_ fun a ha => k a (by simp at ha ⊢; rcases ha with ha | ha <;> simp [ha])
      rcases List.mem_cons.mp h with rfl | h
      · simp
      · rcases List.mem_cons.mp h with rfl | h
        · have : M = x := by omega
          simp [this]
        · simp [h]
theorem maxL_eq : ∀ (xs : List Int) (x M : Int), M ∈ x :: xs → (∀ a ∈ x :: xs, a ≤ M) → xs.foldl (fun a b => if a < b then b else a) x = M
  | [], x, M, h, _ => by simp at h; exact h.symm
  | y :: xs, x, M, h, k => by
    rw [List.foldl_cons]
    have h1 := k x (by simp)
    have h2 := k y (by simp)
    by_cases q : x < y
    · rw [if_pos q]
      refine maxL_eq xs y M ?_ fun a ha => k a (by simp at ha ⊢; rcases ha with ha | ha <;> simp [ha])
      rcases List.mem_cons.mp h with rfl | h
      · omega
      · exact h
    · rw [if_neg q]
      refine maxL_eq xs x M ?_ fun a ha => k a (by simp at ha ⊢; rcases ha with ha | ha <;> simp [ha])
      rcases List.mem_cons.mp h with rfl | h
      · simp
      · rcases List.mem_cons.mp h with rfl | h
        · have : M = x := by omega
          simp [this]
        · simp [h]
theorem ints_reps {K : PySem.W.Frag} {ρ : Rho} {H : Hp} : ∀ {ds : List D} {vs : List V} {ns : List Int}, RepPs K ρ H ds vs → ints? ds = some ns → vs = ns.map V.int
  | _, _, _, .nil, e => by simp [ints?] at e; subst e; rfl
  | _, _, ns, .cons (d := d) h hs, e => by
    cases d with
    | int i =>
      simp only [ints?, Option.map_eq_some_iff] at e
      obtain ⟨ms, e1, e2⟩ := e
      subst e2
      cases h
      rw [ints_reps hs e1]; rfl
    | _ => simp [ints?] at e
section
variable {prog : Program} {w : World} {A : Around} {E : Value → Shared → Prop} {s : Shared} {l : Addr} {xs : Array (Int × Tok)}
theorem iter_tup {Q : Value → Shared → Prop} (hl : s.heap.IsTuple l (intItems xs))
    (h : ∀ s₂ : Shared, s₂ = { s with heap := s.heap.push { cls := .type "tuple_iterator", data := .fields #[.ref l, .int 0 0] } } →
      (s₂.heap.IsTupleIter s.heap.objs.size l 0 ∧ s₂.heap.IsTuple l (intItems xs)) → (∀ b ∈ [s.heap.objs.size, l], b < s₂.heap.objs.size) → l ≠ s.heap.objs.size → Q (.ref s.heap.objs.size) s₂) :
    wpAny (model prog w) A (pyIter (.ref l)) Q E s := by
  have hlt : l < s.heap.objs.size := by obtain ⟨_, e, _⟩ := hl; exact Heap.lt_size e
  refine wpAny_pyIter_tuple hl (h _ rfl ⟨⟨_, Heap.get?_push_size _ rfl, rfl, rfl⟩, hl.push _⟩ (fun b hb => ?_) (Nat.ne_of_lt hlt))
  show b < (s.heap.push _).objs.size
  rw [Heap.size_push]
  rcases List.mem_cons.mp hb with rfl | hb
  · exact Nat.lt_succ_self _
  · rw [List.mem_singleton.mp hb]; exact Nat.lt_succ_of_lt hlt
theorem old_keptT {h' : Heap} (hk : ∀ b o, b ∉ [s.heap.objs.size] → (s.heap.push { cls := .type "tuple_iterator", data := .fields #[.ref l, .int 0 0] }).get? b = some o → h'.get? b = some o) :
    ∀ b o, s.heap.get? b = some o → h'.get? b = some o := fun b o e => by
  refine hk b o (fun hm => ?_) (Heap.get?_push_of_some _ e)
  rw [List.mem_singleton.mp hm] at e
  exact absurd (Heap.lt_size e) (Nat.lt_irrefl _)
theorem min_tup {its : List Value} {ns : List Int} {Q : Value → Shared → Prop} (hh : A.handled = none) (hl : s.heap.IsTuple l its.toArray) (hi : IntsAre its ns) (hne : 0 < ns.length)
    (h : ∀ h' tk M t', (∀ b o, s.heap.get? b = some o → h'.get? b = some o) → M ∈ ns → (∀ a, a ∈ ns → M ≤ a) → Q (.int M t') { s with heap := h', toks := tk }) : wpAny (model prog w) A (call (.builtin "min") [.ref l]) Q E s := by
  obtain ⟨xs, e⟩ := hi.allInts.items
  have hn : numsOf (intItems xs).toList = ns := by rw [← e]; exact hi.numsOf
  rw [nums_intItems] at hn
  subst hn
  rw [e] at hl
  have hsz : 0 < xs.size := by simpa using hne
  refine call_min_walk (iter_tup hl fun s₂ e st hfp hlI => ?_)
  subst e
  refine ⟨_, _, _, _, _, _, _, rfl, Walks.tuple (A := A.in1) hh _ l hlI (intItems xs), st, hfp, by simpa [intItems] using hsz, CmpOf.ints_lt (numAt xs) (fun _ _ => intItems_at), fun v h' tk hv hk => ?_⟩
  have hv : (intItems xs)[argBest (fun i j => decide (numAt xs i < numAt xs j)) (xs.size - 1)]? = some v := by simpa [intItems] using hv
  obtain ⟨t, rfl⟩ := intItems_at hv
  obtain ⟨h1, h2⟩ := argBest_lt (numAt xs) (xs.size - 1)
  refine h h' tk _ t (old_keptT hk) ?_ fun a ha => ?_
  · rw [numAt_eq]; exact PySem.getD_mem (by rw [List.length_map, Array.length_toList]; omega)
  · obtain ⟨j, hj, rfl⟩ := mem_getD ha
    rw [List.length_map, Array.length_toList] at hj
    rw [← numAt_eq]; exact h2 j (by omega)
theorem max_tup {its : List Value} {ns : List Int} {Q : Value → Shared → Prop} (hh : A.handled = none) (hl : s.heap.IsTuple l its.toArray) (hi : IntsAre its ns) (hne : 0 < ns.length)
    (h : ∀ h' tk M t', (∀ b o, s.heap.get? b = some o → h'.get? b = some o) → M ∈ ns → (∀ a, a ∈ ns → a ≤ M) → Q (.int M t') { s with heap := h', toks := tk }) : wpAny (model prog w) A (call (.builtin "max") [.ref l]) Q E s := by
  obtain ⟨xs, e⟩ := hi.allInts.items
  have hn : numsOf (intItems xs).toList = ns := by rw [← e]; exact hi.numsOf
  rw [nums_intItems] at hn
  subst hn
  rw [e] at hl
  have hsz : 0 < xs.size := by simpa using hne
  refine call_max_walk (iter_tup hl fun s₂ e st hfp hlI => ?_)
  subst e
  refine ⟨_, _, _, _, _, _, _, rfl, Walks.tuple (A := A.in1) hh _ l hlI (intItems xs), st, hfp, by simpa [intItems] using hsz, CmpOf.ints_gt (numAt xs) (fun _ _ => intItems_at), fun v h' tk hv hk => ?_⟩
  have hv : (intItems xs)[argBest (fun i j => decide (numAt xs i > numAt xs j)) (xs.size - 1)]? = some v := by simpa [intItems] using hv
  obtain ⟨t, rfl⟩ := intItems_at hv
  obtain ⟨h1, h2⟩ := argBest_gt (numAt xs) (xs.size - 1)
  refine h h' tk _ t (old_keptT hk) ?_ fun a ha => ?_
  · rw [numAt_eq]; exact PySem.getD_mem (by rw [List.length_map, Array.length_toList]; omega)
  · obtain ⟨j, hj, rfl⟩ := mem_getD ha
    rw [List.length_map, Array.length_toList] at hj
    rw [← numAt_eq]; exact h2 j (by omega)
end
section
variable {X : Cx} {sub : Nat → Nat → Bool}
theorem prMin1 (hc : X.calm = true) : PrimOk X sub (.builtin "min") .min1 := by
  intro pins s σ H xs us Q I rv h
  obtain ⟨ρ, μ, ds, d, μ', mo, rs, h, q⟩ := h
  obtain ⟨a, rfl, h⟩ := inv1 h rfl fun _ _ _ => rfl
  simp only [pr, Option.bind_eq_some_iff, Option.map_eq_some_iff] at h
  obtain ⟨ys, hn, ns, hs, M, hM, e⟩ := h
  cases e
  obtain ⟨v, rfl, r⟩ := rs.one
  obtain ⟨u, rfl, ru⟩ := vals1 rv
  obtain ⟨p, vs, rfl, h1, h2⟩ := seqOf_view r mo hn
  cases ru
  have ev := ints_reps h2 hs
  subst ev
  cases ns with
  | nil => simp [minL] at hM
  | cons n ns =>
    have fin : ∀ h' tk M' t', (∀ b o, s.heap.get? b = some o → h'.get? b = some o) → M' ∈ n :: ns → (∀ a, a ∈ n :: ns → M' ≤ a) → EP X pins σ Q (.int M' t') { s with heap := h', toks := tk } := fun h' tk M' t' k m1 m2 => by
      have : M' = M := by
        have := minL_eq ns n M' m1 m2
        simp only [minL, Option.some.injEq] at hM
        rw [← this]; exact hM
      subst this
      exact ⟨.int M', H, I.kept k, ⟨_, rfl⟩, q _ ρ H Tr.refl (RepP.int _) mo⟩
    rcases h1 with h1 | h1
    · obtain ⟨its, r', pl, hz⟩ := I.tuple h1
      exact min_tup (I.ok.hd hc) pl r'.ints (by simp) fin
    · obtain ⟨its, r', pl, hz⟩ := I.list h1
      exact min_raw (I.ok.hd hc) pl.isList r'.ints (by simp) fin
theorem prMax1 (hc : X.calm = true) : PrimOk X sub (.builtin "max") .max1 := by
  intro pins s σ H xs us Q I rv h
  obtain ⟨ρ, μ, ds, d, μ', mo, rs, h, q⟩ := h
  obtain ⟨a, rfl, h⟩ := inv1 h rfl fun _ _ _ => rfl
  simp only [pr, Option.bind_eq_some_iff, Option.map_eq_some_iff] at h
  obtain ⟨ys, hn, ns, hs, M, hM, e⟩ := h
  cases e
  obtain ⟨v, rfl, r⟩ := rs.one
  obtain ⟨u, rfl, ru⟩ := vals1 rv
  obtain ⟨p, vs, rfl, h1, h2⟩ := seqOf_view r mo hn
  cases ru
  have ev := ints_reps h2 hs
  subst ev
  cases ns with
  | nil => simp [maxL] at hM
  | cons n ns =>
    have fin : ∀ h' tk M' t', (∀ b o, s.heap.get? b = some o → h'.get? b = some o) → M' ∈ n :: ns → (∀ a, a ∈ n :: ns → a ≤ M') → EP X pins σ Q (.int M' t') { s with heap := h', toks := tk } := fun h' tk M' t' k m1 m2 => by
      have : M' = M := by
        have := maxL_eq ns n M' m1 m2
        simp only [maxL, Option.some.injEq] at hM
        rw [← this]; exact hM
      subst this
      exact ⟨.int M', H, I.kept k, ⟨_, rfl⟩, q _ ρ H Tr.refl (RepP.int _) mo⟩
    rcases h1 with h1 | h1
    · obtain ⟨its, r', pl, hz⟩ := I.tuple h1
      exact max_tup (I.ok.hd hc) pl r'.ints (by simp) fin
    · obtain ⟨its, r', pl, hz⟩ := I.list h1
      exact max_raw (I.ok.hd hc) pl.isList r'.ints (by simp) fin
end
end Py
namespace Py
open PySem PySem.Spec PyProof.Rows L2
open PySem (Str)
variable [Tabs]
section
variable {X : Cx} {cl : Nat → Addr} {W : WX} {c : Cfg}
theorem ms_augI {i : Nat} {x : Str} {e : Expr} {t : C} {op : Operator} {o : Bop} {f : Int → Int → Int} {pos' pos : Pos} (hN : X.N.Nodup) (hi : X.N[i]? = some x) (hx : Loc X.env.scope x) (he : Me X cl W c e t) (ho : PIp X op (ipI f)) (hf : X.fn x = true ∨ X.env.scope.names.lookup x = some .local)
    (hop : ∀ (a b : Int) m, op2 o (.int a) (.int b) m = some (.int (f a b))) : Ms X cl W c (.AugAssign (.Name x pos') op e pos) (.aug i o t) := by
  refine PS.imp (ps_aug hN hi hx he ho hf) fun D σ H h => ?_
  obtain ⟨ρ, en, μ, h1, h2, h3⟩ := h
  dsimp only at h3
  rw [exec] at h3
  cases q : en[i]? with
  | none => rw [q] at h3; exact h3.elim
  | some z =>
    cases z with
    | none => rw [q] at h3; exact h3.elim
    | some d =>
      rw [q] at h3
      dsimp only at h3
      obtain ⟨v, e1, r0⟩ := h1.at_ i d q
      refine ⟨v, e1, ?_⟩
      refine tE.goS ⟨h1, h2⟩ h3 fun y H1 ρ1 dy μ1 t1 a1 r1 h4 => ?_
      have r0 := r0.tr t1
      cases d with
      | int a =>
        cases dy with
        | int b =>
          simp only [augD, hop] at h4
          refine ⟨a, b, r0.isI, r1.isI, ?_⟩
          exact h4 ρ1 H1 _ Tr.refl (a1.env.set (d := .int (f a b)) (RepP.int _) i) a1.mem
        | _ => exact h4.elim
      | _ => cases dy <;> exact h4.elim
end
end Py
namespace Py
open PySem PySem.Spec PyProof.Rows L2
open PySem (Str)
variable [Tabs]
/-! ### a test without cells -/
section
variable {X : Cx} {cl : Nat → Addr} {W : WX} {c : Cfg}
theorem mo_all {ρ : Rho} {H : Hp} : Mo ρ ⟨[], []⟩ H H := fun a o _ h _ => ⟨h, fun l z => by simp at z, by simp⟩
theorem env_thaw {K : PySem.W.Frag} {ρ : Rho} {H : Hp} {e : Env} {σ : L2.St} {m : Mem} {is : List Nat} (x : EnvOk K ρ H e σ) (mo : MemOk K ρ H m) : EnvOk K ⟨[], []⟩ H (thawE is m e) σ := by
  refine ⟨by simp [thawE, x.len], fun i d h => ?_⟩
  unfold thawE at h
  rw [List.getElem?_map] at h
  by_cases hi : i < e.length
  · rw [List.getElem?_range hi] at h
    simp only [Option.map_some, Option.some.injEq] at h
    have he : e.getD i none = e[i] := by simp [hi]
    rw [he] at h
    have hg : e[i]? = some e[i] := List.getElem?_eq_getElem hi
    cases q : e[i] with
    | none => rw [q] at h; simp [thawS] at h
    | some d0 =>
      obtain ⟨v, e1, r⟩ := x.at_ i d0 (by rw [hg, q])
      refine ⟨v, e1, ?_⟩
      rw [q] at h
      cases d0 with
      | ref l =>
        simp only [thawS] at h
        split at h
        · obtain ⟨xs, h1, h2⟩ := Option.map_eq_some_iff.mp h
          subst h2
          obtain ⟨a, vs, rfl, g1, g2, g3⟩ := ref_at mo r h1
          exact RepP.lst ⟨⟨fun l z => by simp at z, by simp⟩, g2⟩ (g3.mono mo_all)
        · cases h
      | lck d =>
        simp only [thawS, Option.some.injEq] at h
        subst h
        cases d with
        | lst ds =>
          obtain ⟨a, vs, h1, h2, h3⟩ := r
          exact ⟨a, vs, h1, h2.imp (fun q => ⟨⟨fun l z => by simp at z, by simp⟩, q.2⟩) id, h3.mono mo_all⟩
        | _ => exact RepP.mono mo_all r
      | _ =>
        simp only [thawS, Option.some.injEq] at h
        subst h
        exact RepP.mono mo_all r
  · rw [List.getElem?_eq_none (by simpa using hi)] at h
    cases h
theorem tr_all {ρ ρ' : Rho} {H H' : Hp} (t : Tr ⟨[], []⟩ ρ' H H') : Tr ρ ρ H H' :=
  ⟨Nat.le_refl _, rfl, fun _ _ e _ => e, fun l a e q => (by rw [List.getElem?_eq_none q] at e; cases e), fun a o e n _ => t.keep a o e n (fun l z => by simp at z), t.dom⟩
theorem mem_all {K : PySem.W.Frag} {ρ ρ' : Rho} {H H' : Hp} {m m' : Mem} (t : Tr ⟨[], []⟩ ρ' H H') (x : MemOk K ρ H m) (x' : MemOk K ρ' H' m') : MemOk K ρ H' m := by
  have t' := tr_all (ρ := ρ) t
  have hd : ∀ a o, H a = some o → ∃ o', H' a = some o' := fun a o e => by
    cases q : H' a with
    | none => rw [t.dom a q] at e; cases e
    | some o' => exact ⟨o', rfl⟩
  refine ⟨x.len, x.one, x.apart, fun l a e => let ⟨o, q⟩ := x.live l a e; hd a o q, fun a e => let ⟨o, q⟩ := x.hid a e; hd a o q, fun l d e => ?_, x'.tab⟩
  exact (x.cell l d e).mo (fun _ e => e) (fun b o g1 g2 nt => t.keep b _ g2 nt (fun l z => by simp at z)) t'.mo
theorem tE_frz {is : List Nat} {t : C} {σ : L2.St} {H : Hp} {Q : VK} (h : tE X cl W (fun en μ => ev c en (.frz is t) μ) σ H Q) : tE X cl W (fun en μ => ev c en t μ) σ H Q := by
  obtain ⟨ρ, en, μ, h1, h2, h3⟩ := h
  dsimp only at h3
  rw [ev] at h3
  refine ⟨⟨[], []⟩, thawE is μ en, [], env_thaw h1 h2, mem_nil h2, ?_⟩
  dsimp only
  cases q : ev c (thawE is μ en) t [] with
  | ok d m1 =>
    rw [q] at h3
    cases d with
    | bl b =>
      intro v ρ' H' tr r x
      exact h3 v ρ H' (tr_all tr) (by cases r; exact RepP.bl _) (mem_all tr h2 x)
    | _ => exact h3.elim
  | ex _ _ => rw [q] at h3; exact h3.elim
  | no => rw [q] at h3; exact h3.elim
theorem tT_frz {is : List Nat} {t : C} {σ : L2.St} {H : Hp} {Q : Bool → Hp → Prop} (h : tT X cl W (fun en μ => asBool (ev c en (.frz is t) μ)) σ H Q) : tT X cl W (fun en μ => asBool (ev c en t μ)) σ H Q := by
  obtain ⟨ρ, en, μ, h1, h2, h3⟩ := h
  dsimp only at h3
  rw [ev] at h3
  refine ⟨⟨[], []⟩, thawE is μ en, [], env_thaw h1 h2, mem_nil h2, ?_⟩
  dsimp only
  cases q : ev c (thawE is μ en) t [] with
  | ok d m1 =>
    rw [q] at h3
    cases d with
    | bl b =>
      intro v ρ' H' tr r x
      exact h3 v ρ H' (tr_all tr) r (mem_all tr h2 x)
    | _ => exact h3.elim
  | ex _ _ => rw [q] at h3; exact h3.elim
  | no => rw [q] at h3; exact h3.elim
theorem mt_frz {e : Expr} {t : C} (is : List Nat) (h : Mt X cl W c e t) : Mt X cl W c e (.frz is t) := PT.imp h fun σ H Q q => tT_frz q
theorem me_frz {e : Expr} {t : C} (is : List Nat) (h : Me X cl W c e t) : Me X cl W c e (.frz is t) := PE.imp h fun σ H Q q => tE_frz q
end
end Py
end

section
set_option Elab.async false
set_option linter.all false
set_option maxRecDepth 100000
set_option maxHeartbeats 1000000
/-! PyFrame: what a derivation needs of its context, and the rules in short. -/
namespace Py
open PySem PySem.Spec PyProof.Rows L2 GxR GenW
open PySem (Str)
variable [Tabs]
/-- the names of a program: defs (number, name, parameters), built-ins, own exception classes -/
structure Lay where
  fns : List (Nat × Str × Nat)
  blts : List Str
  cls : List (Nat × Str)
  cons : List (Str × V) := []
  words : List Str := []
  hdl : List Nat := []
/-- what is known of the program's globals -/
structure Gb (P : Program) (w : World) (K : PySem.W.Frag) (mg : Str → Option Value) (base : Heap) (cl : Nat → Addr) (c : Cfg) (L : Lay) (lev : Nat) : Prop where
  wd : w = Tabs.wd
  call : ∀ p ∈ L.fns, ∃ f fd ps, FnOk P w K mg base (L2N.CX P w) lev f fd ps (spG K cl (c.G p.1) p.2.2) ∧ mg p.2.1 = some (.ref f) ∧ PySem.W.keepIn K (.ref f) = true ∧ Binds K fd ps []
  blt : ∀ x ∈ L.blts, mg x = none
  clx : ∀ p ∈ L.cls, mg p.2 = some (.ref (cl p.1)) ∧ PySem.W.keepIn K (.ref (cl p.1)) = true ∧ PySem.W.subIn K (.ref (cl p.1)) (.type "BaseException") = some true ∧ PySem.W.typeIn K (.ref (cl p.1)) = some (.type "type") ∧
    ∃ (B newId initId : String) (bmB : List Value), ExcBaseFacts B newId initId bmB ∧ PySem.W.excIn K (cl p.1) bmB newId = true
  con : ∀ p ∈ L.cons, ∃ u, mg p.1 = some u ∧ RelV p.2 u
  exm : ∀ k ∈ L.hdl, ∀ q d, c.word q = some d → PySem.W.exmOne K (.ref (cl q)) (.ref (cl k)) = some (c.sub q k)
  wstr : ∀ q d, c.word q = some d → ∃ s, d = .str s ∧ StrOk s
  word : ∀ y ∈ L.words, ∃ (f : Addr) (fd : FuncData) (x : Str), WordFn P w K mg base cl c.word lev f fd x ∧ mg y = some (.ref f) ∧ PySem.W.keepIn K (.ref f) = true ∧ Binds K fd [x] []
/-- .. of the place -/
structure Fx (cl : Nat → Addr) (c : Cfg) (L : Lay) (lev : Nat) (N : List Str) (sc : Scope) (d : Nat) (g : Bool) (X : Cx) (W : WX) : Prop where
  gb : Gb X.prog X.w X.K X.mg X.base cl c L lev
  hN : X.N = N
  sc : X.env.scope = sc
  tk : L2N.Takes X W
  nd : N.Nodup
  calm : X.calm = true
  room : Room (lev + d) X.A
  code : g = true → ∃ cc P, X.env.code = .ref cc ∧ P ∈ Tabs.tb ∧ TabB X.base X.mg cc P
/-- .. of a statement -/
structure Fs (cl : Nat → Addr) (c : Cfg) (L : Lay) (lev : Nat) (N : List Str) (sc : Scope) (d : Nat) (g : Bool) (X : Cx) (W : WX) : Prop extends Fx cl c L lev N sc d g X W where
  pass : PassesOwn (model X.prog X.w) X.A X.env X.xe
  fnx : ∀ x, X.fn x = true
  stk : X.stack = X.env :: X.outer
  frm : X.env.frame = some X.env.locals
def dumE (sc : Scope) : PySem.Env := { scope := sc, locals := 0, globals := 0, cells := [] }
/-- a block's scope -/
def relS (scope sc : Scope) : Scope := relabel scope (dumE sc)
theorem relS_eq {scope : Scope} {env : PySem.Env} : relabel scope env = relS scope env.scope := rfl
def notDbg (x : Str) : Bool := !(x == ("__debug__" : Str)) && !(x == ("__classdict__" : Str))
def isK (sc : Scope) (x : Str) (k : NameKind) : Bool := match sc.names.lookup x with
  | some k' => k' == k
  | none => false
theorem isK_eq {sc : Scope} {x : Str} {k : NameKind} (h : isK sc x k = true) : sc.names.lookup x = some k := by
  unfold isK at h
  cases q : sc.names.lookup x with
  | none => rw [q] at h; cases h
  | some k' => rw [q] at h; rw [show k' = k from eq_of_beq h]
def isAt (N : List Str) (i : Nat) (x : Str) : Bool := match N[i]? with
  | some y => decide (y = x)
  | none => false
theorem isAt_eq {N : List Str} {i : Nat} {x : Str} (h : isAt N i x = true) : N[i]? = some x := by
  unfold isAt at h
  cases q : N[i]? with
  | none => rw [q] at h; cases h
  | some y => rw [q] at h; rw [of_decide_eq_true h]
def varB (N : List Str) (sc : Scope) (i : Nat) (x : Str) : Bool := isAt N i x && notDbg x && (isK sc x .local || isK sc x .cell || isK sc x .free)
def setB (N : List Str) (sc : Scope) (i : Nat) (x : Str) : Bool := isAt N i x && (isK sc x .local || isK sc x .cell)
def locB (N : List Str) (sc : Scope) (i : Nat) (x : Str) : Bool := isAt N i x && isK sc x .local
def glB (sc : Scope) (x : Str) : Bool := isK sc x .globalImplicit && notDbg x
def memB (xs : List Str) (x : Str) : Bool := xs.any fun y => decide (y = x)
theorem memB_mem {xs : List Str} {x : Str} (h : memB xs x = true) : x ∈ xs := by
  obtain ⟨y, h1, h2⟩ := List.any_eq_true.mp h
  rw [← of_decide_eq_true h2]; exact h1
def bltB (L : Lay) (sc : Scope) (x : Str) : Bool := glB sc x && memB L.blts x
def fnB (L : Lay) (sc : Scope) (i : Nat) (x : Str) (n : Nat) : Bool := glB sc x && L.fns.any fun p => decide (p.1 = i) && decide (p.2.1 = x) && decide (p.2.2 = n)
def clsB (L : Lay) (sc : Scope) (k : Nat) (x : Str) : Bool := glB sc x && L.cls.any fun p => decide (p.1 = k) && decide (p.2 = x)
def conB (L : Lay) (x : Str) (i : Int) : Bool := L.cons.any fun p => decide (p.1 = x) && (match p.2 with | .int j => decide (j = i) | _ => false)
theorem conB_mem {L : Lay} {x : Str} {i : Int} (h : conB L x i = true) : (x, V.int i) ∈ L.cons := by
  obtain ⟨p, hp, hq⟩ := List.any_eq_true.mp h
  rw [Bool.and_eq_true] at hq
  obtain ⟨p1, p2⟩ := p
  have e1 : p1 = x := of_decide_eq_true hq.1
  have e2 := hq.2
  cases p2 with
  | int j => dsimp only at e2; rw [← e1, ← of_decide_eq_true e2]; exact hp
  | _ => cases e2
theorem notDbg_d {x : Str} (h : notDbg x = true) : (x == ("__debug__" : Str)) = false := by
  unfold notDbg at h; simp only [Bool.and_eq_true, Bool.not_eq_true'] at h; exact h.1
theorem notDbg_c {x : Str} (h : notDbg x = true) : (x == ("__classdict__" : Str)) = false := by
  unfold notDbg at h; simp only [Bool.and_eq_true, Bool.not_eq_true'] at h; exact h.2
section
variable {cl : Nat → Addr} {c : Cfg} {L : Lay} {lev : Nat} {N : List Str} {sc : Scope} {d : Nat} {g : Bool} {X : Cx} {W : WX}
theorem Fx.gl (F : Fx cl c L lev N sc d g X W) {x : Str} (h : glB sc x = true) : Gl X x ∧ (x == ("__debug__" : Str)) = false := by
  unfold glB at h
  rw [Bool.and_eq_true] at h
  refine ⟨?_, notDbg_d h.2⟩
  show X.env.scope.names.lookup x = _
  rw [F.sc]
  exact isK_eq h.1
theorem Fx.bl (F : Fx cl c L lev N sc d g X W) {x : Str} (h : bltB L sc x = true) : Gl X x ∧ X.mg x = none ∧ (x == ("__debug__" : Str)) = false := by
  unfold bltB at h
  rw [Bool.and_eq_true] at h
  exact ⟨(F.gl h.1).1, F.gb.blt _ (memB_mem h.2), (F.gl h.1).2⟩
theorem Fx.fn (F : Fx cl c L lev N sc d g X W) {i n : Nat} {x : Str} (h : fnB L sc i x n = true) : Gl X x ∧ CallOk X cl c x i n ∧ (x == ("__debug__" : Str)) = false := by
  unfold fnB at h
  rw [Bool.and_eq_true] at h
  obtain ⟨p, hp, hq⟩ := List.any_eq_true.mp h.2
  simp only [Bool.and_eq_true, decide_eq_true_eq] at hq
  obtain ⟨⟨rfl, rfl⟩, rfl⟩ := hq
  obtain ⟨f, fd, ps, h1, h2, h3, h4⟩ := F.gb.call p hp
  exact ⟨(F.gl h.1).1, ⟨lev, f, fd, ps, h1, F.room.mono (Nat.le_add_right _ _), h2, h3, h4⟩, (F.gl h.1).2⟩
theorem Fx.cls (F : Fx cl c L lev N sc d g X W) {k : Nat} {x : Str} (h : clsB L sc k x = true) : Gl X x ∧ ClsOk X cl x k ∧ (x == ("__debug__" : Str)) = false := by
  unfold clsB at h
  rw [Bool.and_eq_true] at h
  obtain ⟨p, hp, hq⟩ := List.any_eq_true.mp h.2
  simp only [Bool.and_eq_true, decide_eq_true_eq] at hq
  obtain ⟨rfl, rfl⟩ := hq
  obtain ⟨h1, h2, h3, h4, h5⟩ := F.gb.clx p hp
  exact ⟨(F.gl h.1).1, ⟨h5, h1, h2, raises_own h3 h4⟩, (F.gl h.1).2⟩
theorem Fx.hu (F : Fx cl c L lev N sc d g X W) : X.A.units + 200 < cLine := by have := F.room.un; omega
theorem Fx.ndX (F : Fx cl c L lev N sc d g X W) : X.N.Nodup := by rw [F.hN]; exact F.nd
theorem Fx.var (F : Fx cl c L lev N sc d g X W) {i : Nat} {x : Str} (h : varB N sc i x = true) : X.N[i]? = some x ∧ Vis X.env.scope x ∧ (x == ("__debug__" : Str)) = false ∧ (x == ("__classdict__" : Str)) = false := by
  unfold varB at h
  simp only [Bool.and_eq_true, Bool.or_eq_true] at h
  refine ⟨by rw [F.hN]; exact isAt_eq h.1.1, ?_, notDbg_d h.1.2, notDbg_c h.1.2⟩
  rw [F.sc]
  rcases h.2 with (q | q) | q
  · exact .inl (isK_eq q)
  · exact .inr (.inl (isK_eq q))
  · exact .inr (.inr (isK_eq q))
theorem Fx.set (F : Fx cl c L lev N sc d g X W) {i : Nat} {x : Str} (h : setB N sc i x = true) : X.N[i]? = some x ∧ Loc X.env.scope x := by
  unfold setB at h
  simp only [Bool.and_eq_true, Bool.or_eq_true] at h
  refine ⟨by rw [F.hN]; exact isAt_eq h.1, ?_⟩
  rw [F.sc]
  rcases h.2 with q | q
  · exact .inl (isK_eq q)
  · exact .inr (isK_eq q)
theorem Fx.loc (F : Fx cl c L lev N sc d g X W) {i : Nat} {x : Str} (h : locB N sc i x = true) : X.N[i]? = some x ∧ X.env.scope.names.lookup x = some .local := by
  unfold locB at h
  rw [Bool.and_eq_true] at h
  refine ⟨by rw [F.hN]; exact isAt_eq h.1, ?_⟩
  rw [F.sc]
  exact isK_eq h.2

/-! ### expressions -/
section
variable (F : Fx cl c L lev N sc d g X W)
include F
theorem e_var (i : Nat) {x : Str} {pos : Pos} (h : varB N sc i x = true := by decide +kernel) : Me X cl W c (.Name x pos) (.var i) := me_var i (F.var h).1 (F.var h).2.1 (F.var h).2.2.1 (F.var h).2.2.2
theorem e_con {v : V} {dd : D} {x : Str} {pos : Pos} (hr : ∀ ρ H, Rep X.K ρ H dd v) (h : glB sc x = true := by decide +kernel) (hc : (x, v) ∈ L.cons) : Me X cl W c (.Name x pos) (.lit dd) := by
  obtain ⟨u, h1, h2⟩ := F.gb.con _ hc
  exact me_lit (pe_glob (F.gl h).1 h1 h2 (F.gl h).2) hr
theorem e_conI (i : Int) {x : Str} {pos : Pos} (h : glB sc x = true := by decide +kernel) (hc : conB L x i = true := by decide +kernel) : Me X cl W c (.Name x pos) (.lit (.int i)) := e_con F (fun _ _ => RepP.int i) h (conB_mem hc)
theorem e_call {x : Str} {i : Nat} {e : Expr} {es : List Expr} {t : C} {ts : List C} {p pos : Pos} (ha : Ma X cl W c (e :: es) (t :: ts)) (h : fnB L sc i x (ts.length + 1) = true := by decide +kernel)
    (he : starEach (e :: es) X.env = (false, eval e X.env) :: starEach es X.env := by rfl) (hpl : (backTo pos (starEach es X.env)).any (·.1) = false := by rfl) : Me X cl W c (.Call (.Name x p) (e :: es) [] pos) (.call i (t :: ts)) :=
  me_call F.tk (F.fn h).2.1 (F.fn h).1 ha (F.fn h).2.2 he hpl
theorem e_primB {p : Prim} {x : Str} {id : String} {e : Expr} {es : List Expr} {t : C} {ts : List C} {px pos : Pos} (hp : PrimOk X c.sub (.builtin id) p) (hv : bootBuiltins x = some (.builtin id)) (ha : Ma X cl W c (e :: es) (t :: ts)) (hn : x ≠ "__name__") (h : bltB L sc x = true)
    (he : starEach (e :: es) X.env = (false, eval e X.env) :: starEach es X.env) (hpl : (backTo pos (starEach es X.env)).any (·.1) = false) : Me X cl W c (.Call (.Name x px) (e :: es) [] pos) (.prim p (t :: ts)) :=
  me_primB hp (F.bl h).1 (F.bl h).2.1 hv ha hn (F.bl h).2.2 he hpl
theorem e_min1 {e : Expr} {t : C} {px pos : Pos} (ha : Me X cl W c e t) (h : bltB L sc "min" = true := by decide +kernel) (he : starEach [e] X.env = (false, eval e X.env) :: starEach [] X.env := by rfl) : Me X cl W c (.Call (.Name "min" px) [e] [] pos) (.prim .min1 [t]) :=
  e_primB F (prMin1 F.calm) (by decide +kernel) (ma_cons ha ma_nil he) (by decide) h he (by rfl)
theorem e_max1 {e : Expr} {t : C} {px pos : Pos} (ha : Me X cl W c e t) (h : bltB L sc "max" = true := by decide +kernel) (he : starEach [e] X.env = (false, eval e X.env) :: starEach [] X.env := by rfl) : Me X cl W c (.Call (.Name "max" px) [e] [] pos) (.prim .max1 [t]) :=
  e_primB F (prMax1 F.calm) (by decide +kernel) (ma_cons ha ma_nil he) (by decide) h he (by rfl)
theorem e_idx {a b : Expr} {ta tb : C} {pos : Pos} (ha : Me X cl W c a ta) (hb : Me X cl W c b tb) (hs : PlainIx b) : Me X cl W c (.Subscript a b pos) (.idx ta tb) := me_idx F.hu F.gb.wd ha hb hs
theorem e_dnew1 {k v : Expr} {tk tv : C} {pos : Pos} (hk : Me X cl W c k tk) (hv : Me X cl W c v tv) : Me X cl W c (.Dict [some k] [v] pos) (.dnew1 tk tv) := me_dnew1 F.hu F.gb.wd hk hv
theorem e_deq {a b d g : Expr} {ta tb td tg : C} {j1 j2 j3 j4 : Nat} {p1 p2 p3 p4 pa pb pos : Pos} (ha : Me X cl W c a ta) (hb : Me X cl W c b tb) (hd : Me X cl W c d td) (hg : Me X cl W c g tg) : Me X cl W c (.Compare (.Dict [some a, some b] [.Constant (.int 1) j1 p1, .Constant (.int 1) j2 p2] pa) [.Eq] [.Dict [some d, some g] [.Constant (.int 1) j3 p3, .Constant (.int 1) j4 p4] pb] pos) (.deq ta tb td tg) := me_deq (by have := F.hu; omega) ha hb hd hg rfl
theorem e_len {e : Expr} {t : C} {px pos : Pos} (ha : Me X cl W c e t) (h : bltB L sc "len" = true := by decide +kernel) (he : starEach [e] X.env = (false, eval e X.env) :: starEach [] X.env := by rfl) : Me X cl W c (.Call (.Name "len" px) [e] [] pos) (.prim .len [t]) :=
  e_primB F prLen (by decide +kernel) (ma_cons ha ma_nil he) (by decide) h he (by rfl)
theorem e_abs {e : Expr} {t : C} {px pos : Pos} (ha : Me X cl W c e t) (h : bltB L sc "abs" = true := by decide +kernel) (he : starEach [e] X.env = (false, eval e X.env) :: starEach [] X.env := by rfl) : Me X cl W c (.Call (.Name "abs" px) [e] [] pos) (.prim .abs [t]) :=
  e_primB F prAbs (by decide +kernel) (ma_cons ha ma_nil he) (by decide) h he (by rfl)
theorem e_min {e e' : Expr} {t t' : C} {px pos : Pos} (ha : Me X cl W c e t) (hb : Me X cl W c e' t') (h : bltB L sc "min" = true := by decide +kernel) (he : starEach [e, e'] X.env = (false, eval e X.env) :: starEach [e'] X.env := by rfl) (he' : starEach [e'] X.env = (false, eval e' X.env) :: starEach [] X.env := by rfl)
    (hpl : (backTo pos (starEach [e'] X.env)).any (·.1) = false := by rfl) : Me X cl W c (.Call (.Name "min" px) [e, e'] [] pos) (.prim .min2 [t, t']) :=
  e_primB F (prMin F.calm) (by decide +kernel) (ma_cons ha (ma_cons hb ma_nil he') he) (by decide) h he hpl
theorem e_max {e e' : Expr} {t t' : C} {px pos : Pos} (ha : Me X cl W c e t) (hb : Me X cl W c e' t') (h : bltB L sc "max" = true := by decide +kernel) (he : starEach [e, e'] X.env = (false, eval e X.env) :: starEach [e'] X.env := by rfl) (he' : starEach [e'] X.env = (false, eval e' X.env) :: starEach [] X.env := by rfl)
    (hpl : (backTo pos (starEach [e'] X.env)).any (·.1) = false := by rfl) : Me X cl W c (.Call (.Name "max" px) [e, e'] [] pos) (.prim .max2 [t, t']) :=
  e_primB F (prMax F.calm) (by decide +kernel) (ma_cons ha (ma_cons hb ma_nil he') he) (by decide) h he hpl
theorem e_intOf {e : Expr} {t : C} {px pos : Pos} (ha : Me X cl W c e t) (h : bltB L sc "int" = true := by decide +kernel) (he : starEach [e] X.env = (false, eval e X.env) :: starEach [] X.env := by rfl) : Me X cl W c (.Call (.Name "int" px) [e] [] pos) (.prim .int [t]) :=
  me_primT prInt (F.bl h).1 (F.bl h).2.1 (by decide +kernel) (ma_cons ha ma_nil he) (by decide) (F.bl h).2.2 he (by rfl)
theorem e_tuple {e : Expr} {t : C} {px pos : Pos} (ha : Me X cl W c e t) (h : bltB L sc "tuple" = true := by decide +kernel) (he : starEach [e] X.env = (false, eval e X.env) :: starEach [] X.env := by rfl) : Me X cl W c (.Call (.Name "tuple" px) [e] [] pos) (.prim .tuple [t]) :=
  me_primT prTuple (F.bl h).1 (F.bl h).2.1 (by decide +kernel) (ma_cons ha ma_nil he) (by decide) (F.bl h).2.2 he (by rfl)
theorem f_list {e : Expr} {t : C} {px pos : Pos} (ha : Me X cl W c e t) (h : bltB L sc "list" = true := by decide +kernel) (he : starEach [e] X.env = (false, eval e X.env) :: starEach [] X.env := by rfl) : Mf X cl W c (.Call (.Name "list" px) [e] [] pos) (.prim .list [t]) :=
  mf_primT prList (F.bl h).1 (F.bl h).2.1 (by decide +kernel) (ma_cons ha ma_nil he) (by decide) (F.bl h).2.2 he (by rfl)
theorem f_sorted {e : Expr} {t : C} {px pos : Pos} (ha : Me X cl W c e t) (h : bltB L sc "sorted" = true := by decide +kernel) (he : starEach [e] X.env = (false, eval e X.env) :: starEach [] X.env := by rfl) : Mf X cl W c (.Call (.Name "sorted" px) [e] [] pos) (.prim .sorted [t]) :=
  mf_primB (prSorted F.hu F.calm) (F.bl h).1 (F.bl h).2.1 (by decide +kernel) (ma_cons ha ma_nil he) (by decide) (F.bl h).2.2 he (by rfl)
theorem f_listrev {e : Expr} {t : C} {p p2 pos pos2 : Pos} (ha : Me X cl W c e t) (h : bltB L sc "list" = true := by decide +kernel) (h' : bltB L sc "reversed" = true := by decide +kernel) (hs : starEach [e] X.env = (false, eval e X.env) :: starEach [] X.env := by rfl) :
    Mf X cl W c (.Call (.Name "list" p) [.Call (.Name "reversed" p2) [e] [] pos2] [] pos) (.prim .listrev [t]) := mf_listrev F.calm (F.bl h).1 (F.bl h).2.1 (F.bl h').1 (F.bl h').2.1 ha hs (by rfl)
theorem e_is {p : Prim} {T : String} {y : Str} {e : Expr} {t : C} {px py pos : Pos} (hp : KindOf p T) (hpr : ∀ sub a m, pr sub p [a] m = (der m a).bind fun d => if plainK d then some (.bl (kindIs p d), m) else none) (hv : bootBuiltins y = some (.type T)) (ha : Me X cl W c e t) (h : bltB L sc "isinstance" = true) (h' : bltB L sc y = true) (hn : y ≠ "__name__")
    (he : starEach [e, .Name y py] X.env = (false, eval e X.env) :: starEach [.Name y py] X.env) : Me X cl W c (.Call (.Name "isinstance" px) [e, .Name y py] [] pos) (.prim p [t]) :=
  me_isi hp hpr (F.bl h).1 (F.bl h).2.1 (F.bl h').1 (F.bl h').2.1 hv hn (F.bl h').2.2 ha he (by rfl) (by rfl)
theorem e_isI {e : Expr} {t : C} {px py pos : Pos} (ha : Me X cl W c e t) (h : bltB L sc "isinstance" = true := by decide +kernel) (h' : bltB L sc "int" = true := by decide +kernel) (he : starEach [e, .Name "int" py] X.env = (false, eval e X.env) :: starEach [.Name "int" py] X.env := by rfl) :
    Me X cl W c (.Call (.Name "isinstance" px) [e, .Name "int" py] [] pos) (.prim .isI [t]) := e_is F kindI (fun _ _ _ => rfl) (by decide +kernel) ha h h' (by decide) he
theorem e_isB {e : Expr} {t : C} {px py pos : Pos} (ha : Me X cl W c e t) (h : bltB L sc "isinstance" = true := by decide +kernel) (h' : bltB L sc "bool" = true := by decide +kernel) (he : starEach [e, .Name "bool" py] X.env = (false, eval e X.env) :: starEach [.Name "bool" py] X.env := by rfl) :
    Me X cl W c (.Call (.Name "isinstance" px) [e, .Name "bool" py] [] pos) (.prim .isB [t]) := e_is F kindB (fun _ _ _ => rfl) (by decide +kernel) ha h h' (by decide) he
theorem e_isT {e : Expr} {t : C} {px py pos : Pos} (ha : Me X cl W c e t) (h : bltB L sc "isinstance" = true := by decide +kernel) (h' : bltB L sc "tuple" = true := by decide +kernel) (he : starEach [e, .Name "tuple" py] X.env = (false, eval e X.env) :: starEach [.Name "tuple" py] X.env := by rfl) :
    Me X cl W c (.Call (.Name "isinstance" px) [e, .Name "tuple" py] [] pos) (.prim .isT [t]) := e_is F kindT (fun _ _ _ => rfl) (by decide +kernel) ha h h' (by decide) he
theorem e_isL {e : Expr} {t : C} {px py pos : Pos} (ha : Me X cl W c e t) (h : bltB L sc "isinstance" = true := by decide +kernel) (h' : bltB L sc "list" = true := by decide +kernel) (he : starEach [e, .Name "list" py] X.env = (false, eval e X.env) :: starEach [.Name "list" py] X.env := by rfl) :
    Me X cl W c (.Call (.Name "isinstance" px) [e, .Name "list" py] [] pos) (.prim .isL [t]) := e_is F kindL (fun _ _ _ => rfl) (by decide +kernel) ha h h' (by decide) he
theorem e_isS {e : Expr} {t : C} {px py pos : Pos} (ha : Me X cl W c e t) (h : bltB L sc "isinstance" = true := by decide +kernel) (h' : bltB L sc "str" = true := by decide +kernel) (he : starEach [e, .Name "str" py] X.env = (false, eval e X.env) :: starEach [.Name "str" py] X.env := by rfl) :
    Me X cl W c (.Call (.Name "isinstance" px) [e, .Name "str" py] [] pos) (.prim .isS [t]) := e_is F kindS (fun _ _ _ => rfl) (by decide +kernel) ha h h' (by decide) he
/-! ### methods -/
theorem e_meth {p : Prim} {id : String} {o : Expr} {name : Str} {e : Expr} {to t : C} {apos cpos : Pos} (slot : Slot "list" name id) (hty : typeOf (.builtin id) = pure (.type "method_descriptor")) (hm : MethOk X c.sub id p)
    (ho : Me X cl W c o to) (ha : Me X cl W c e t) (hbase : attributeBase o name X.env (eval o X.env) = eval o X.env)
    (hs : starEach [e] X.env = (false, eval e X.env) :: starEach [] X.env) (hline : (apos.endLine == cpos.line) = true) : Me X cl W c (.Call (.Attribute o name apos) [e] [] cpos) (.meth p to [t]) :=
  me_meth slot hty hm ho (ma_cons ha ma_nil hs) hbase (by rw [hs]; rfl) hline hs (by rfl)
theorem e_append {x : Str} {p : Pos} {e : Expr} {to t : C} {apos cpos : Pos} (ho : Me X cl W c (.Name x p) to) (ha : Me X cl W c e t) (hs : starEach [e] X.env = (false, eval e X.env) :: starEach [] X.env := by rfl) (hline : (apos.endLine == cpos.line) = true := by rfl) : Me X cl W c (.Call (.Attribute (.Name x p) "append" apos) [e] [] cpos) (.meth .append to [t]) :=
  e_meth F PySem.F.slot_list_append PySem.F.type_list_append mhAppend ho ha rfl hs hline
theorem e_extend {x : Str} {p : Pos} {e : Expr} {to t : C} {apos cpos : Pos} (ho : Me X cl W c (.Name x p) to) (ha : Me X cl W c e t) (hs : starEach [e] X.env = (false, eval e X.env) :: starEach [] X.env := by rfl) (hline : (apos.endLine == cpos.line) = true := by rfl) : Me X cl W c (.Call (.Attribute (.Name x p) "extend" apos) [e] [] cpos) (.meth .extend to [t]) :=
  e_meth F PySem.F.slot_list_extend PySem.F.type_list_extend mhExtend ho ha rfl hs hline
theorem e_index {x : Str} {p : Pos} {e : Expr} {to t : C} {apos cpos : Pos} (ho : Me X cl W c (.Name x p) to) (ha : Me X cl W c e t) (hs : starEach [e] X.env = (false, eval e X.env) :: starEach [] X.env := by rfl) (hline : (apos.endLine == cpos.line) = true := by rfl) : Me X cl W c (.Call (.Attribute (.Name x p) "index" apos) [e] [] cpos) (.meth .index to [t]) :=
  e_meth F PySem.F.slot_list_index PySem.F.type_list_index (mhIndex F.hu) ho ha rfl hs hline
theorem e_pop {x : Str} {p : Pos} {to : C} {apos cpos : Pos} (ho : Me X cl W c (.Name x p) to) (hline : (apos.endLine == cpos.line) = true := by rfl) : Me X cl W c (.Call (.Attribute (.Name x p) "pop" apos) [] [] cpos) (.meth .pop to []) :=
  me_meth0 PySem.F.slot_list_pop PySem.F.type_list_pop mhPop ho rfl hline
/-! ### iterables -/
theorem i_rng1 {tg a : Expr} {t : C} {p pos : Pos} (ha : Me X cl W c a t) (h : bltB L sc "range" = true := by decide +kernel) (hs : starEach [a] X.env = [(false, eval a X.env)] := by rfl) : Mi X cl W c tg (.Call (.Name "range" p) [a] [] pos) .rng1 [t] :=
  mi_rng1 (F.bl h).1 (F.bl h).2.1 (ma_cons ha ma_nil hs) hs
theorem i_rng2 {tg a b : Expr} {t u : C} {p pos : Pos} (ha : Me X cl W c a t) (hb : Me X cl W c b u) (h : bltB L sc "range" = true := by decide +kernel) (hs : starEach [a, b] X.env = [(false, eval a X.env), (false, eval b X.env)] := by rfl) (hs2 : starEach [b] X.env = [(false, eval b X.env)] := by rfl) :
    Mi X cl W c tg (.Call (.Name "range" p) [a, b] [] pos) .rng2 [t, u] := mi_rng2 (F.bl h).1 (F.bl h).2.1 (ma_cons ha (ma_cons hb ma_nil hs2) (hs.trans (by rw [hs2]))) hs hs2
theorem i_rng3 {tg a b d : Expr} {t u w : C} {p pos : Pos} (ha : Me X cl W c a t) (hb : Me X cl W c b u) (hd : Me X cl W c d w) (h : bltB L sc "range" = true := by decide +kernel) (hs : starEach [a, b, d] X.env = (false, eval a X.env) :: starEach [b, d] X.env := by rfl)
    (hs2 : starEach [b, d] X.env = (false, eval b X.env) :: starEach [d] X.env := by rfl) (hs3 : starEach [d] X.env = (false, eval d X.env) :: starEach [] X.env := by rfl) (hpl : (backTo pos (starEach [b, d] X.env)).any (·.1) = false := by rfl) :
    Mi X cl W c tg (.Call (.Name "range" p) [a, b, d] [] pos) .rng3 [t, u, w] := mi_rng3 (F.bl h).1 (F.bl h).2.1 (ma_cons ha (ma_cons hb (ma_cons hd ma_nil hs3) hs2) hs) hs hpl
/-! ### targets -/
theorem g_nm (i : Nat) {x : Str} {pos : Pos} (h : locB N sc i x = true := by decide +kernel) : Mg X (.Name x pos) (.nm i) := mg_nm F.ndX (F.loc h).1 (.inl (F.loc h).2) (.inr (F.loc h).2)
theorem g_tp {es : List Expr} {k : Nat} {ts : List Tg} {pos : Pos} (h : Mgs X es ts) (hn : (assignEach es X.env).length = ts.length := by rfl) (hst : (assignEach es X.env).findIdx? (·.1) = none := by rfl) : Mg X (.Tuple es k pos) (.tp ts) := mg_tp F.calm h hn hst
end
/-! ### blocks -/
section
variable (F : Fx cl c L lev N sc d g X W)
theorem takes_n {Y : Cx} : L2N.Takes Y Wn := fun u s' ⟨_, _, _, _, _, _, _, _, _, _, _, _, _, _, _, _, w⟩ => w.elim
theorem Fx.blk (F : Fx cl c L lev N sc d g X W) {scope : Scope} (s : Shared) (H : Hp) (C : Addr) (cl' : List (Str × Addr)) (fp : List Addr) : Fx cl c L lev N (relS scope sc) d g (X.blk s H scope (compEnvC scope cl' C X.env) fp) Wn :=
  ⟨F.gb, F.hN, by rw [← F.sc]; exact relS_eq, takes_n, F.nd, F.calm, F.room, F.code⟩
theorem Fx.gen (F : Fx cl c L lev N sc (d + 1) g X W) {scope : Scope} (A' : Around) (s : Shared) (H : Hp) (C : Addr) (code : Value) (fp : List Addr) (pn : List (Addr × Obj)) (r : Room (lev + d) A') : Fx cl c L lev N scope d false (genX X A' s H (gEnv X scope C code) fp pn) Wn :=
  ⟨F.gb, F.hN, rfl, takes_n, F.nd, rfl, r, fun h => nomatch h⟩
/-- a block's names, decided -/
def blkB (N : List Str) (sc scope : Scope) (own : List (Str × Nat)) : Bool :=
  scope.kind == .function && scope.names.all (fun y => isK scope y.1 y.2) && own.all (fun p => isAt N p.2 p.1) && scope.names.all (fun y => y.2 != .free || isK sc y.1 .cell || isK sc y.1 .free)
    && scope.names.all (fun y => !(y.2 == .local || y.2 == .cell) || (own.any fun p => decide (p.1 = y.1)) || !(N.any fun z => decide (z = y.1)))
theorem blk_ok {scope : Scope} {own : List (Str × Nat)} (h : blkB N sc scope own = true) : BlkOk N sc scope own := by
  unfold blkB at h
  simp only [Bool.and_eq_true] at h
  obtain ⟨⟨⟨⟨h1, h2⟩, h3⟩, h4⟩, h5⟩ := h
  refine ⟨eq_of_beq h1, fun y hy => isK_eq (List.all_eq_true.mp h2 y hy), fun p hp => isAt_eq (List.all_eq_true.mp h3 p hp), fun y hy e => ?_, fun y hy e => ?_⟩
  · have z := List.all_eq_true.mp h4 y hy
    simp only [Bool.or_eq_true, bne_iff_ne, ne_eq, e, not_true_eq_false, false_or] at z
    exact z.imp isK_eq isK_eq
  · have z := List.all_eq_true.mp h5 y hy
    simp only [Bool.or_eq_true, Bool.not_eq_true'] at z
    rcases z with (z | z) | z
    · rcases e with e | e <;> rw [e] at z <;> cases z
    · obtain ⟨p, hp, e'⟩ := List.any_eq_true.mp z
      exact .inl (List.mem_map.mpr ⟨p, hp, of_decide_eq_true e'⟩)
    · refine .inr fun hm => ?_
      have z' := List.any_eq_false.mp z y.1 hm
      simp at z'
mutual
def tgIn (own : List Nat) : Tg → Bool
  | .nm i => own.contains i
  | .tp ts => tgsIn own ts
def tgsIn (own : List Nat) : List Tg → Bool
  | [] => true
  | t :: ts => tgIn own t && tgsIn own ts
end
def subB (xs ys : List Nat) : Bool := xs.all fun i => ys.contains i
theorem subB_mem {xs ys : List Nat} (h : subB xs ys = true) : ∀ i ∈ xs, i ∈ ys := fun i hi => List.contains_iff_mem.mp (List.all_eq_true.mp h i hi)
include F
theorem lc_ok {tg elt : Expr} {ifs : List Expr} {scope : Scope} {own : List (Str × Nat)} {t : Tg} {ts : List C} {te : C} (hB : blkB N sc scope own = true) (ho : subB (tgN t) (own.map (·.2)) = true)
    (hb : ∀ Y, Fx cl c L lev N (relS scope sc) d g Y Wn → Mg Y tg t ∧ Mc Y cl c ifs ts ∧ Me Y cl Wn c elt te) : LcOk X cl c tg elt ifs scope own t ts te :=
  ⟨by rw [F.hN, F.sc]; exact blk_ok hB, fun s H C cl' fp => (hb _ (F.blk s H C cl' fp)).1, fun s H C cl' fp => (hb _ (F.blk s H C cl' fp)).2.1, fun s H C cl' fp => (hb _ (F.blk s H C cl' fp)).2.2, subB_mem ho⟩
theorem f_lc {tg elt iter : Expr} {ifs : List Expr} {scope : Scope} (own : List (Str × Nat)) {pos : Pos} {t : Tg} {k : IK} {its ts : List C} {te : C} (hi : Mi X cl W c tg iter k its)
    (hb : ∀ Y, Fx cl c L lev N (relS scope sc) d g Y Wn → Mg Y tg t ∧ Mc Y cl c ifs ts ∧ Me Y cl Wn c elt te) (hB : blkB N sc scope own = true := by decide +kernel) (ho : subB (tgN t) (own.map (·.2)) = true := by decide +kernel)
    (hs : ∀ x, foldedSetIterable iter X.env x = pure x := by exact fun _ => rfl) : Mf X cl W c (.ListComp elt [⟨tg, iter, ifs, 0⟩] scope pos) (.comp (own.map (·.2)) t k its ts te) :=
  mf_lc F.calm F.ndX hi (lc_ok F hB ho hb) hs
theorem lc2_ok {tg elt tg1 iter1 : Expr} {ifs ifs1 : List Expr} {scope : Scope} {own : List (Str × Nat)} {own1 : List Nat} {t t2 : Tg} {ts : List C} {k2 : IK} {its2 ts2 : List C} {te : C} (hB : blkB N sc scope own = true) (ho : subB (tgN t) (own.map (·.2)) = true) (ho1 : subB (tgN t2) own1 = true) (hv : subB own1 (own.map (·.2)) = true)
    (hb : ∀ Y, Fx cl c L lev N (relS scope sc) d g Y Wn → Mg Y tg t ∧ Mc Y cl c ifs ts ∧ Mi Y cl Wn c tg1 iter1 k2 its2 ∧ Mg Y tg1 t2 ∧ Mc Y cl c ifs1 ts2 ∧ Me Y cl Wn c elt te) : Lc2Ok X cl c tg elt tg1 iter1 ifs ifs1 scope own own1 t t2 ts k2 its2 ts2 te :=
  ⟨by rw [F.hN, F.sc]; exact blk_ok hB, subB_mem hv, fun s H C cl' fp => (hb _ (F.blk s H C cl' fp)).1, fun s H C cl' fp => (hb _ (F.blk s H C cl' fp)).2.1, fun s H C cl' fp => (hb _ (F.blk s H C cl' fp)).2.2.1, fun s H C cl' fp => (hb _ (F.blk s H C cl' fp)).2.2.2.1,
    fun s H C cl' fp => (hb _ (F.blk s H C cl' fp)).2.2.2.2.1, fun s H C cl' fp => (hb _ (F.blk s H C cl' fp)).2.2.2.2.2, subB_mem ho, subB_mem ho1⟩
theorem f_lc2 {tg elt iter tg1 iter1 : Expr} {ifs ifs1 : List Expr} {scope : Scope} (own : List (Str × Nat)) (own1 : List Nat) {pos : Pos} {t t2 : Tg} {k k2 : IK} {its ts its2 ts2 : List C} {te : C} (hi : Mi X cl W c tg iter k its)
    (hb : ∀ Y, Fx cl c L lev N (relS scope sc) d g Y Wn → Mg Y tg t ∧ Mc Y cl c ifs ts ∧ Mi Y cl Wn c tg1 iter1 k2 its2 ∧ Mg Y tg1 t2 ∧ Mc Y cl c ifs1 ts2 ∧ Me Y cl Wn c elt te) (hB : blkB N sc scope own = true := by decide +kernel)
    (ho : subB (tgN t) (own.map (·.2)) = true := by decide +kernel) (ho1 : subB (tgN t2) own1 = true := by decide +kernel) (hv : subB own1 (own.map (·.2)) = true := by decide +kernel)
    (hs : ∀ x, foldedSetIterable iter X.env x = pure x := by exact fun _ => rfl) (hs1 : ∀ env x, foldedSetIterable iter1 env x = pure x := by exact fun _ _ => rfl) :
    Mf X cl W c (.ListComp elt [⟨tg, iter, ifs, 0⟩, ⟨tg1, iter1, ifs1, 0⟩] scope pos) (.comp2 (own.map (·.2)) own1 t k its ts t2 k2 its2 ts2 te) :=
  mf_lc2 F.calm F.ndX hi (lc2_ok F hB ho ho1 hv hb) hs hs1
end
section
variable (F : Fx cl c L lev N sc (d + 1) true X W)
def genB (scope : Scope) : Bool := !scope.isCoroutine && scope.names.all (fun y => y.2 != .cell) && isK scope ".0" .local
include F
theorem gn_ok {tg elt : Expr} {scope : Scope} {own : List (Str × Nat)} {t : Tg} {te : C} (hB : blkB N sc scope own = true) (hG : genB scope = true) (ho : subB (tgN t) (own.map (·.2)) = true)
    (hb : ∀ Y, Fx cl c L lev N scope d false Y Wn → Mg Y tg t ∧ Me Y cl Wn c elt te) : GnOk X cl c (lev + d) tg elt scope own t te := by
  unfold genB at hG
  simp only [Bool.and_eq_true, Bool.not_eq_true'] at hG
  refine ⟨⟨by rw [F.hN, F.sc]; exact blk_ok hB, hG.1.1, fun y hy => ?_, isK_eq hG.2⟩, fun A' s H C code fp pn r => (hb _ (F.gen A' s H C code fp pn r)).1, fun A' s H C code fp pn r => (hb _ (F.gen A' s H C code fp pn r)).2, subB_mem ho⟩
  have z := List.all_eq_true.mp hG.1.2 y hy
  simpa using z
theorem e_all {elt tg iter : Expr} {p pos gpos : Pos} {scope : Scope} (own : List (Str × Nat)) {t : Tg} {ik : IK} {its : List C} {te : C} (hi : Mi X cl W c tg iter ik its) (hb : ∀ Y, Fx cl c L lev N scope d false Y Wn → Mg Y tg t ∧ Me Y cl Wn c elt te)
    (hB : blkB N sc scope own = true := by decide +kernel) (hG : genB scope = true := by decide +kernel) (ho : subB (tgN t) (own.map (·.2)) = true := by decide +kernel) (h : bltB L sc "all" = true := by decide +kernel) (hs : ∀ v, genFold iter X.env v = pure v := by exact fun _ => rfl) :
    Me X cl W c (.Call (.Name "all" p) [.GeneratorExp elt [⟨tg, iter, [], 0⟩] scope gpos] [] pos) (.all (own.map (·.2)) t ik its te) := by
  obtain ⟨cc, P, h1, h2, h3⟩ := F.code rfl
  exact me_all h2 F.room F.ndX (F.bl h).1 (F.bl h).2.1 h3 h1 (gn_ok F hB hG ho hb) hi hs (by rfl)
theorem e_any {elt tg iter : Expr} {p pos gpos : Pos} {scope : Scope} (own : List (Str × Nat)) {t : Tg} {ik : IK} {its : List C} {te : C} (hi : Mi X cl W c tg iter ik its) (hb : ∀ Y, Fx cl c L lev N scope d false Y Wn → Mg Y tg t ∧ Me Y cl Wn c elt te)
    (hB : blkB N sc scope own = true := by decide +kernel) (hG : genB scope = true := by decide +kernel) (ho : subB (tgN t) (own.map (·.2)) = true := by decide +kernel) (h : bltB L sc "any" = true := by decide +kernel) (hs : ∀ v, genFold iter X.env v = pure v := by exact fun _ => rfl) :
    Me X cl W c (.Call (.Name "any" p) [.GeneratorExp elt [⟨tg, iter, [], 0⟩] scope gpos] [] pos) (.any (own.map (·.2)) t ik its te) := by
  obtain ⟨cc, P, h1, h2, h3⟩ := F.code rfl
  exact me_any h2 F.room F.ndX (F.bl h).1 (F.bl h).2.1 h3 h1 (gn_ok F hB hG ho hb) hi hs (by rfl)
end
/-! ### statements -/
theorem swapsWith_dum {e : Expr} {t : Option Expr} {l : Nat} {env : PySem.Env} : swapsWith e t l env = swapsWith e t l (dumE env.scope) := rfl
theorem swapsSole_dum {ts : List Expr} {e : Expr} {l : Nat} {env : PySem.Env} : swapsWithSole ts e l env = swapsWithSole ts e l (dumE env.scope) := by
  cases ts with
  | nil => rfl
  | cons t r => cases r <;> rfl
theorem stores_dum {ts : List Expr} {e : Expr} {env : PySem.Env} : swappedStores ts e env = swappedStores ts e (dumE env.scope) := rfl
section
variable (F : Fs cl c L lev N sc d g X W)
include F
theorem s_set (i : Nat) {x : Str} {e : Expr} {t : C} {pos pos' : Pos} (he : Me X cl W c e t) (h : setB N sc i x = true := by decide +kernel) (hs : swapsWith e (some (.Name x pos')) pos.line (dumE sc) = pure false := by rfl) : Ms X cl W c (.Assign [.Name x pos'] e pos) (.asg (.nm i) t) :=
  ms_set F.ndX (F.set h).1 (F.set h).2 he (by rw [swapsWith_dum, F.sc]; exact hs) (.inl (F.fnx x))
theorem s_augA (i : Nat) {x : Str} {e : Expr} {t : C} {pos pos' : Pos} (he : Me X cl W c e t) (h : setB N sc i x = true := by decide +kernel) : Ms X cl W c (.AugAssign (.Name x pos') .Add e pos) (.aug i .add t) :=
  ms_augI F.ndX (F.set h).1 (F.set h).2 he ip_add (.inl (F.fnx x)) fun _ _ _ => rfl
theorem s_augS (i : Nat) {x : Str} {e : Expr} {t : C} {pos pos' : Pos} (he : Me X cl W c e t) (h : setB N sc i x = true := by decide +kernel) : Ms X cl W c (.AugAssign (.Name x pos') .Sub e pos) (.aug i .sub t) :=
  ms_augI F.ndX (F.set h).1 (F.set h).2 he ip_sub (.inl (F.fnx x)) fun _ _ _ => rfl
theorem s_asg {es : List Expr} {e : Expr} {t : C} {g : Tg} {k : Nat} {p2 pos : Pos} (he : Me X cl W c e t) (hg : Mg X (.Tuple es k p2) g) (hw : swappedStores [.Tuple es k p2] e (dumE sc) = pure none := by rfl) (hs : swapsWithSole [.Tuple es k p2] e pos.line (dumE sc) = pure false := by rfl) :
    Ms X cl W c (.Assign [.Tuple es k p2] e pos) (.asg g t) :=
  ms_asg he hg (by rw [swapsSole_dum, F.sc]; exact hs) (by rw [stores_dum, F.sc]; exact hw) rfl
theorem s_par (i j : Nat) {x y : Str} {a b : Expr} {ta tb : C} {px py pt pos : Pos} {kt k2 pt2} (ha : Me X cl W c a ta) (hb : Me X cl W c b tb) (h1 : locB N sc i x = true := by decide +kernel) (h2 : locB N sc j y = true := by decide +kernel) (hij : i ≠ j := by decide)
    (hs1 : starEach [a, b] X.env = (false, eval a X.env) :: starEach [b] X.env := by rfl) (hs2 : starEach [b] X.env = (false, eval b X.env) :: starEach [] X.env := by rfl)
    (hw : swappedStores [.Tuple [.Name x px, .Name y py] kt pt] (.Tuple [a, b] k2 pt2) (dumE sc) = pure (some [x, y]) := by rfl)
    (hs : swapsWithSole [.Tuple [.Name x px, .Name y py] kt pt] (.Tuple [a, b] k2 pt2) pos.line (dumE sc) = pure false := by rfl) :
    Ms X cl W c (.Assign [.Tuple [.Name x px, .Name y py] kt pt] (.Tuple [a, b] k2 pt2) pos) (.par [i, j] [ta, tb]) :=
  ms_par F.calm F.ndX (F.loc h1).1 (F.loc h2).1 hij (F.loc h1).2 (F.loc h2).2 (ma_cons ha (ma_cons hb ma_nil hs2) hs1) (by rw [stores_dum, F.sc]; exact hw) (by rw [swapsSole_dum, F.sc]; exact hs)
theorem s_parU (i j : Nat) {x y : Str} {a b : Expr} {ta tb : C} {px py pt p2 pos : Pos} {kt k2 : Nat} (ha : Me X cl W c a ta) (hb : Me X cl W c b tb) (h1 : setB N sc i x = true := by decide +kernel) (h2 : setB N sc j y = true := by decide +kernel)
    (hs1 : starEach [a, b] X.env = (false, eval a X.env) :: starEach [b] X.env := by rfl) (hs2 : starEach [b] X.env = (false, eval b X.env) :: starEach [] X.env := by rfl)
    (hw : swappedStores [.Tuple [.Name x px, .Name y py] kt pt] (.Tuple [a, b] k2 p2) (dumE sc) = pure none := by rfl)
    (hs : swapsWithSole [.Tuple [.Name x px, .Name y py] kt pt] (.Tuple [a, b] k2 p2) pos.line (dumE sc) = pure false := by rfl) :
    Ms X cl W c (.Assign [.Tuple [.Name x px, .Name y py] kt pt] (.Tuple [a, b] k2 p2) pos) (.par [i, j] [ta, tb]) :=
  ms_parU F.calm F.ndX (F.set h1).1 (F.set h2).1 (F.set h1).2 (F.set h2).2 (.inl (F.fnx x)) (.inl (F.fnx y)) (ma_cons ha (ma_cons hb ma_nil hs2) hs1) (by rw [swapsSole_dum, F.sc]; exact hs) (by rw [stores_dum, F.sc]; exact hw)
theorem s_setLc (i : Nat) {y : Str} {py : Pos} {tg elt iter : Expr} {ifs : List Expr} {scope : Scope} (own : List (Str × Nat)) {pos spos : Pos} {t : Tg} {k : IK} {its ts : List C} {te : C} (hi : Mi X cl W c tg iter k its)
    (hb : ∀ Y, Fx cl c L lev N (relS scope sc) d g Y Wn → Mg Y tg t ∧ Mc Y cl c ifs ts ∧ Me Y cl Wn c elt te) (h : locB N sc i y = true := by decide +kernel) (hB : blkB N sc scope own = true := by decide +kernel) (ho : subB (tgN t) (own.map (·.2)) = true := by decide +kernel)
    (hsw : swapsWith (.ListComp elt [⟨tg, iter, ifs, 0⟩] scope pos) (some (.Name y py)) spos.line (dumE sc) = pure true := by rfl) (hs : ∀ x, foldedSetIterable iter X.env x = pure x := by exact fun _ => rfl) :
    Ms X cl W c (.Assign [.Name y py] (.ListComp elt [⟨tg, iter, ifs, 0⟩] scope pos) spos) (.asg (.nm i) (.comp (own.map (·.2)) t k its ts te)) :=
  ms_setLc F.calm F.ndX (F.loc h).1 (F.loc h).2 (by rw [swapsWith_dum, F.sc]; exact hsw) hi (lc_ok F.toFx hB ho hb) hs
theorem s_setLcM (i : Nat) {y : Str} {py : Pos} {tg elt iter : Expr} {ifs : List Expr} {scope : Scope} (own : List (Str × Nat)) {pos spos : Pos} {t : Tg} {k : IK} {its ts : List C} {te : C} (hi : Mi X cl W c tg iter k its)
    (hb : ∀ Y, Fx cl c L lev N (relS scope sc) d g Y Wn → Mg Y tg t ∧ Mc Y cl c ifs ts ∧ Me Y cl Wn c elt te) (h : locB N sc i y = true := by decide +kernel) (hB : blkB N sc scope own = true := by decide +kernel) (ho : subB (tgN t) (own.map (·.2)) = true := by decide +kernel)
    (hsw : swapsWith (.ListComp elt [⟨tg, iter, ifs, 0⟩] scope pos) (some (.Name y py)) spos.line (dumE sc) = pure true := by rfl) (hs : ∀ x, foldedSetIterable iter X.env x = pure x := by exact fun _ => rfl) :
    Ms X cl W c (.Assign [.Name y py] (.ListComp elt [⟨tg, iter, ifs, 0⟩] scope pos) spos) (.asg (.nm i) (.mut (.comp (own.map (·.2)) t k its ts te))) :=
  ms_setLcM F.calm F.ndX (F.loc h).1 (F.loc h).2 (by rw [swapsWith_dum, F.sc]; exact hsw) hi (lc_ok F.toFx hB ho hb) hs
theorem s_setLc2 (i : Nat) {y : Str} {py : Pos} {tg elt iter tg1 iter1 : Expr} {ifs ifs1 : List Expr} {scope : Scope} (own : List (Str × Nat)) (own1 : List Nat) {pos spos : Pos} {t t2 : Tg} {k k2 : IK} {its ts its2 ts2 : List C} {te : C} (hi : Mi X cl W c tg iter k its)
    (hb : ∀ Y, Fx cl c L lev N (relS scope sc) d g Y Wn → Mg Y tg t ∧ Mc Y cl c ifs ts ∧ Mi Y cl Wn c tg1 iter1 k2 its2 ∧ Mg Y tg1 t2 ∧ Mc Y cl c ifs1 ts2 ∧ Me Y cl Wn c elt te) (h : locB N sc i y = true := by decide +kernel) (hB : blkB N sc scope own = true := by decide +kernel)
    (ho : subB (tgN t) (own.map (·.2)) = true := by decide +kernel) (ho1 : subB (tgN t2) own1 = true := by decide +kernel) (hv : subB own1 (own.map (·.2)) = true := by decide +kernel)
    (hsw : swapsWith (.ListComp elt [⟨tg, iter, ifs, 0⟩, ⟨tg1, iter1, ifs1, 0⟩] scope pos) (some (.Name y py)) spos.line (dumE sc) = pure true := by rfl) (hs : ∀ x, foldedSetIterable iter X.env x = pure x := by exact fun _ => rfl) (hs1 : ∀ env x, foldedSetIterable iter1 env x = pure x := by exact fun _ _ => rfl) :
    Ms X cl W c (.Assign [.Name y py] (.ListComp elt [⟨tg, iter, ifs, 0⟩, ⟨tg1, iter1, ifs1, 0⟩] scope pos) spos) (.asg (.nm i) (.comp2 (own.map (·.2)) own1 t k its ts t2 k2 its2 ts2 te)) :=
  ms_setLc2 F.calm F.ndX (F.loc h).1 (F.loc h).2 (by rw [swapsWith_dum, F.sc]; exact hsw) hi (lc2_ok F.toFx hB ho ho1 hv hb) hs hs1
theorem s_setLc2M (i : Nat) {y : Str} {py : Pos} {tg elt iter tg1 iter1 : Expr} {ifs ifs1 : List Expr} {scope : Scope} (own : List (Str × Nat)) (own1 : List Nat) {pos spos : Pos} {t t2 : Tg} {k k2 : IK} {its ts its2 ts2 : List C} {te : C} (hi : Mi X cl W c tg iter k its)
    (hb : ∀ Y, Fx cl c L lev N (relS scope sc) d g Y Wn → Mg Y tg t ∧ Mc Y cl c ifs ts ∧ Mi Y cl Wn c tg1 iter1 k2 its2 ∧ Mg Y tg1 t2 ∧ Mc Y cl c ifs1 ts2 ∧ Me Y cl Wn c elt te) (h : locB N sc i y = true := by decide +kernel) (hB : blkB N sc scope own = true := by decide +kernel)
    (ho : subB (tgN t) (own.map (·.2)) = true := by decide +kernel) (ho1 : subB (tgN t2) own1 = true := by decide +kernel) (hv : subB own1 (own.map (·.2)) = true := by decide +kernel)
    (hsw : swapsWith (.ListComp elt [⟨tg, iter, ifs, 0⟩, ⟨tg1, iter1, ifs1, 0⟩] scope pos) (some (.Name y py)) spos.line (dumE sc) = pure true := by rfl) (hs : ∀ x, foldedSetIterable iter X.env x = pure x := by exact fun _ => rfl) (hs1 : ∀ env x, foldedSetIterable iter1 env x = pure x := by exact fun _ _ => rfl) :
    Ms X cl W c (.Assign [.Name y py] (.ListComp elt [⟨tg, iter, ifs, 0⟩, ⟨tg1, iter1, ifs1, 0⟩] scope pos) spos) (.asg (.nm i) (.mut (.comp2 (own.map (·.2)) own1 t k its ts t2 k2 its2 ts2 te))) :=
  ms_setLc2M F.calm F.ndX (F.loc h).1 (F.loc h).2 (by rw [swapsWith_dum, F.sc]; exact hsw) hi (lc2_ok F.toFx hB ho ho1 hv hb) hs hs1
theorem s_while {e : Expr} {body : List Stmt} {t : C} {tb : List S} {pos : Pos} (hc : Mt X cl W c e t) (hb : Mb X cl W c body tb) : Ms X cl W c (.While e body [] pos) (.whl t tb) := ms_while F.pass hc hb
theorem s_for {tg e : Expr} {body : List Stmt} {t : Tg} {k : IK} {its : List C} {tb : List S} {pos : Pos} (hg : Mg X tg t) (hi : Mi X cl W c tg e k its) (hb : Mb X cl W c body tb) (hs : ∀ x, foldedSetIterable e X.env x = pure x := by exact fun _ => rfl) :
    Ms X cl W c (.For tg e body [] pos) (.for_ t k its tb) := ms_for F.pass F.calm hi hg hb hs
theorem s_raise {x m : Str} {k j : Nat} {p p2 pos pos' : Pos} (h : clsB L sc k x = true := by decide +kernel) : Ms X cl W c (.Raise (some (.Call (.Name x p) [.Constant (.str m) j p2] [] pos)) none pos') (.raise k) :=
  ms_raise F.calm F.tk (F.cls h).2.1 (F.cls h).1 (F.cls h).2.2
theorem s_par3 (i j l : Nat) {x y z : Str} {a b d' : Expr} {ta tb td : C} {px py pz pt pos : Pos} {kt k2 pt2} (ha : Me X cl W c a ta) (hb : Me X cl W c b tb) (hd : Me X cl W c d' td) (h1 : locB N sc i x = true := by decide +kernel) (h2 : locB N sc j y = true := by decide +kernel) (h3 : locB N sc l z = true := by decide +kernel)
    (hij : i ≠ j := by decide) (hil : i ≠ l := by decide) (hjl : j ≠ l := by decide)
    (hs1 : starEach [a, b, d'] X.env = (false, eval a X.env) :: starEach [b, d'] X.env := by rfl) (hs2 : starEach [b, d'] X.env = (false, eval b X.env) :: starEach [d'] X.env := by rfl) (hs3 : starEach [d'] X.env = (false, eval d' X.env) :: starEach [] X.env := by rfl)
    (hw : swappedStores [.Tuple [.Name x px, .Name y py, .Name z pz] kt pt] (.Tuple [a, b, d'] k2 pt2) (dumE sc) = pure (some [x, y, z]) := by rfl)
    (hs : swapsWithSole [.Tuple [.Name x px, .Name y py, .Name z pz] kt pt] (.Tuple [a, b, d'] k2 pt2) pos.line (dumE sc) = pure false := by rfl) :
    Ms X cl W c (.Assign [.Tuple [.Name x px, .Name y py, .Name z pz] kt pt] (.Tuple [a, b, d'] k2 pt2) pos) (.par [i, j, l] [ta, tb, td]) :=
  ms_par3 F.calm F.ndX (F.loc h1).1 (F.loc h2).1 (F.loc h3).1 hij hil hjl (F.loc h1).2 (F.loc h2).2 (F.loc h3).2 (ma_cons ha (ma_cons hb (ma_cons hd ma_nil hs3) hs2) hs1) (by rw [stores_dum, F.sc]; exact hw) (by rw [swapsSole_dum, F.sc]; exact hs)
theorem s_try (i k : Nat) {x n y : Str} {body : List Stmt} {tb : List S} {np p1 p2 rp rp2 pos pos' : Pos} (hb : ∀ Y W', Fs cl c L lev N sc d g Y W' → Mb Y cl W' c body tb) (h1 : locB N sc i n = true := by decide +kernel) (h2 : clsB L sc k x = true := by decide +kernel) (h3 : glB sc y = true := by decide +kernel)
    (h4 : memB L.words y = true := by decide +kernel) (h5 : L.hdl.contains k = true := by decide +kernel) (h6 : notDbg n = true := by decide +kernel) :
    Ms X cl W c (.Try body [.ExceptHandler (some (.Name x np)) (some n) [.Return (some (.Call (.Name y p1) [.Name n p2] [] rp)) rp2] pos'] [] [] pos) (.tryRet tb k) := by
  obtain ⟨f, fd, px, w1, w2, w3, w4⟩ := F.gb.word _ (memB_mem h4)
  have r := F.room.mono (Nat.le_add_right lev d)
  have cg := (F.cls h2).2.1.mg
  refine ms_try F.stk F.frm F.ndX (F.loc h1).1 ?_ ⟨(F.cls h2).1, (F.cls h2).2.2, .inl cg⟩ F.tk (fun W' pn xe tk ps => hb _ W' ⟨⟨F.gb, F.hN, F.sc, tk, F.nd, F.calm, F.room, F.code⟩, ps, F.fnx, F.stk, F.frm⟩) (fun q dd e => F.gb.exm k (List.contains_iff_mem.mp h5) q dd e) F.gb.wstr ⟨lev, f, fd, px, w1, ⟨r.dp, r.un⟩, w2, w3, w4⟩ (F.gl h3).1 (.inl (F.loc h1).2) (notDbg_d h6) (notDbg_c h6) (F.gl h3).2 rfl
  exact (F.loc h1).2
/-- a target of a loop or of an unpacking, a name or a cell -/
theorem h_nm (i : Nat) {x : Str} {pos : Pos} (h : setB N sc i x = true := by decide +kernel) : Mg X (.Name x pos) (.nm i) := mg_nm F.ndX (F.set h).1 (F.set h).2 (.inl (F.fnx x))
end
end
theorem bl_ (o : Bop) (ho : o = .eq ∨ o = .ne ∨ o = .lt ∨ o = .le ∨ o = .gt ∨ o = .ge ∨ o = .is_ ∨ o = .isnot ∨ o = .in_ ∨ o = .notin := by decide) : ∀ x y m d, op2 o x y m = some d → ∃ k, d = .bl k := op2_bl ho
theorem gs_cons {X : Cx} {e : Expr} {es : List Expr} {t : Tg} {ts : List Tg} (h1 : Mg X e t) (h2 : Mgs X es ts) (hs : (assignEach (e :: es) X.env).map (·.2) = assign e X.env :: (assignEach es X.env).map (·.2) := by rfl) : Mgs X (e :: es) (t :: ts) := mgs_cons h1 h2 hs
theorem a_cons {X : Cx} {cl : Nat → Addr} {W : WX} {c : Cfg} {e : Expr} {es : List Expr} {t : C} {ts : List C} (ha : Me X cl W c e t) (hr : Ma X cl W c es ts) (hs : starEach (e :: es) X.env = (false, eval e X.env) :: starEach es X.env := by rfl) : Ma X cl W c (e :: es) (t :: ts) := ma_cons ha hr hs
theorem d_cons {X : Cx} {cl : Nat → Addr} {W : WX} {c : Cfg} {e : Expr} {es : List Expr} {t : C} {ts : List C} (ha : Me X cl W c e t) (hr : Md X cl W c es ts) (hn : notStar t = true := by rfl) (hs : starEach (e :: es) X.env = (false, eval e X.env) :: starEach es X.env := by rfl) : Md X cl W c (e :: es) (t :: ts) := md_cons ha hr hn hs
theorem d_star {X : Cx} {cl : Nat → Addr} {W : WX} {c : Cfg} {e : Expr} {es : List Expr} {t : C} {ts : List C} {p : Pos} (ha : Me X cl W c e t) (hr : Md X cl W c es ts) (hs : starEach (.Starred e p :: es) X.env = (true, eval e X.env) :: starEach es X.env := by rfl) : Md X cl W c (.Starred e p :: es) (.star t :: ts) := md_star ha hr hs
end Py
end

section
set_option Elab.async false
set_option linter.all false
set_option maxRecDepth 100000
set_option maxHeartbeats 1000000
/-! PyWordFn: the def that tells the word of an exception: kinds = [isinstance(e, C1), ..], then the rest in the layer. -/
namespace Py
open PySem PySem.Spec PyProof.Rows L2 L2H GxR GenW
open PySem (Str)
variable [Tabs]
theorem call_isEp {X : Cx} {p : Addr × Obj} {D : Addr} (C : ExcC X.K D) (hz : Zc (.ref D) none p.2) (hf : ∃ vs, p.2.data = .fields vs) (hp : p ∈ X.pn) : CallR X (.builtin "isinstance") (rIsE X.K D p.1) := by
  intro pins s σ H xs us Q I r h
  obtain ⟨c, cv, b, rfl, hcv, e, q⟩ := h
  cases r with
  | cons rx rr =>
    cases rr with
    | cons rt rr =>
      cases rr
      cases rx
      have ec := hcv _ rt
      subst ec
      obtain ⟨hget, _⟩ := I.pin p (List.mem_append.mpr (.inl hp))
      obtain ⟨vs, hv⟩ := hf
      have J : PySem.W.InstAt s.heap p.1 p.2 D none := by
        obtain ⟨pa, oc, od, oda, osl⟩ := p
        obtain ⟨h1, h2⟩ := hz
        dsimp only at h1 h2 hv hget
        subst h1 h2 hv
        exact ⟨hget, rfl, rfl, trivial⟩
      exact PySem.W.kia_one (PySem.W.handS_kitx_exc C.hg C.hk C.hs C.hd C.ha C.hn C.ht C.hm) I.kIn J e (fun z => nomatch z) fun tk => ⟨.bl b, H, I.kept (t' := tk) fun _ _ z => z, rfl, q⟩
/-- what the def needs: the classes that it asks for, and what each class says of them -/
structure Wb (K : PySem.W.Frag) (mg : Str → Option Value) (cl : Nat → Addr) (c : Cfg) (js : List (Str × Nat)) : Prop where
  isi : mg "isinstance" = none
  len : mg "len" = none
  cls : ∀ p ∈ js, mg p.1 = some (.ref (cl p.2))
  exc : ∀ q wd, c.word q = some (.str wd) → ExcC K (cl q)
  kit : ∀ q wd, c.word q = some (.str wd) → ∀ p ∈ js, PySem.W.kitOne K (.ref (cl q)) (.ref (cl p.2)) = some (c.sub q p.2)
abbrev isEx (x y : Str) (a b c d : Pos) : Expr := .Call (.Name "isinstance" a) [.Name x b, .Name y c] [] d
theorem pe_isE {X : Cx} {cl : Nat → Addr} {c : Cfg} {js : List (Str × Nat)} {p : Addr × Obj} {q k : Nat} {wd x y : Str} {a b cc d : Pos} (B : Wb X.K X.mg cl c js) (hq : c.word q = some (.str wd)) (hz : Zc (.ref (cl q)) none p.2) (hf : ∃ vs, p.2.data = .fields vs) (hp : p ∈ X.pn)
    (hg : Gl X "isinstance") (hgy : Gl X y) (hy : (y, k) ∈ js) (hdb : (y == ("__debug__" : Str)) = false) (hN : X.N[0]? = some x) (hv : Vis X.env.scope x) (hd : (x == ("__debug__" : Str)) = false) (hcd : (x == ("__classdict__" : Str)) = false) :
    PE X (isEx x y a b cc d) (fun σ H Q => σ[0]? = some (some (.ref p.1)) ∧ Q (.bl (c.sub q k)) H) := by
  refine PE.imp (pe_callB (call_isEp (B.exc q wd hq) hz hf hp) hg B.isi (by decide +kernel) (pa_cons (pe_var (i := 0) hN hv hd hcd) (pa_cons (pe_glob (v := .ref (cl k)) hgy (B.cls _ hy) rfl hdb) pa_nil rfl) rfl) (by decide) (by decide) rfl rfl) fun σ H Q h => ?_
  exact ⟨_, h.1, .ref (cl k), .ref (cl k), c.sub q k, rfl, fun u r => r, B.kit q wd hq _ hy, h.2⟩
section
variable {P : Program} {w : World} {K : PySem.W.Frag} {mg : Str → Option Value} {base : Heap} {cl : Nat → Addr} {c : Cfg} {k : Nat} {f : Addr} {fd : FuncData}
theorem word_fn {x kx y1 y2 y3 y4 y5 : Str} {k1 k2 k3 k4 k5 : Nat} {qual : Str} {st : Stmt} {N : List Str} {rest : List Stmt} {tb : List S} {a1 b1 c1 d1 a2 b2 c2 d2 a3 b3 c3 d3 a4 b4 c4 d4 a5 b5 c5 d5 q1 q2 q3 : Pos} {nm : Str} (F : Fun K nm qual st f fd) (S : FnScope N [x] (defScope st))
    (B : Wb K mg cl c [(y1, k1), (y2, k2), (y3, k3), (y4, k4), (y5, k5)]) (hst : defBody st = .Assign [.Name kx q1] (.List [isEx x y1 a1 b1 c1 d1, isEx x y2 a2 b2 c2 d2, isEx x y3 a3 b3 c3 d3, isEx x y4 a4 b4 c4 d4, isEx x y5 a5 b5 c5 d5] q2) q3 :: rest)
    (hsc : (glB (defScope st) "isinstance" && glB (defScope st) y1 && glB (defScope st) y2 && glB (defScope st) y3 && glB (defScope st) y4 && glB (defScope st) y5 && varB N (defScope st) 0 x && locB N (defScope st) 1 kx) = true)
    (hb : ∀ X : Cx, X.N = N → X.env.scope = defScope st → HotC X → X.A.units + 200 < cLine → X.mg = mg → X.K = K → X.w = w → Mb X cl Wn c rest tb)
    (hrun : ∀ q wd, c.word q = some (.str wd) → execs c tb (none :: some (.lst [.bl (c.sub q k1), .bl (c.sub q k2), .bl (c.sub q k3), .bl (c.sub q k4), .bl (c.sub q k5)]) :: List.replicate (N.length - 2) none) [] = .rt (.str wd) []) :
    WordFn P w K mg base cl c.word (k + 1) f fd x := by
  obtain ⟨oc, od, kV, doc, pm, an, cdv, ct, osl, rfl, lk, hcd⟩ := F.ex
  refine word_of lk hcd S fun A outer s H Q p q wd hot hr hz hq hm hQ => ?_
  simp only [Bool.and_eq_true] at hsc
  obtain ⟨⟨⟨⟨⟨⟨⟨g0, g1⟩, g2⟩, g3⟩, g4⟩, g5⟩, gx⟩, gk⟩ := hsc
  have gl : ∀ {y : Str}, glB (defScope st) y = true → Gl (cxH (L2N.CX P w) P w K mg base N qual (defScope st) f cdv A outer s H (fun _ _ _ => False) p) y ∧ (y == ("__debug__" : Str)) = false := fun {y} h => by
    unfold glB at h
    rw [Bool.and_eq_true] at h
    exact ⟨isK_eq h.1, notDbg_d h.2⟩
  unfold varB at gx
  simp only [Bool.and_eq_true, Bool.or_eq_true] at gx
  have vis : Vis (defScope st) x := by
    rcases gx.2 with (z | z) | z
    · exact .inl (isK_eq z)
    · exact .inr (.inl (isK_eq z))
    · exact .inr (.inr (isK_eq z))
  unfold locB at gk
  rw [Bool.and_eq_true] at gk
  have hf : ∃ vs, p.2.data = .fields vs := let ⟨vs, e, _⟩ := hot.2; ⟨vs, e⟩
  have is : ∀ {y : Str} {j : Nat} {a b c' d : Pos}, glB (defScope st) y = true → (y, j) ∈ [(y1, k1), (y2, k2), (y3, k3), (y4, k4), (y5, k5)] →
      PE (cxH (L2N.CX P w) P w K mg base N qual (defScope st) f cdv A outer s H (fun _ _ _ => False) p) (isEx x y a b c' d) (fun σ H Q => σ[0]? = some (some (.ref p.1)) ∧ Q (.bl (c.sub q j)) H) := fun {y j a b c' d} h hy =>
    pe_isE (X := cxH (L2N.CX P w) P w K mg base N qual (defScope st) f cdv A outer s H (fun _ _ _ => False) p) B hq hz hf List.mem_cons_self (gl g0).1 (gl h).1 hy (gl h).2 (isAt_eq gx.1.1) vis (notDbg_d gx.1.2) (notDbg_c gx.1.2)
  rw [hst]
  refine ⟨_, pss_cons (ps_set (X := cxH (L2N.CX P w) P w K mg base N qual (defScope st) f cdv A outer s H (fun _ _ _ => False) p) S.nd (isAt_eq gk.1) (.inl (isK_eq gk.2))
    (pe_lst (pa_cons (is (j := k1) g1 (by simp)) (pa_cons (is (j := k2) g2 (by simp)) (pa_cons (is (j := k3) g3 (by simp)) (pa_cons (is (j := k4) g4 (by simp)) (pa_cons (is (j := k5) g5 (by simp)) pa_nil rfl) rfl) rfl) rfl) rfl)) rfl (.inl rfl))
    (hb (cxH (L2N.CX P w) P w K mg base N qual (defScope st) f cdv A outer s H (fun _ _ _ => False) p) rfl rfl ⟨p, ⟨hot.1, hot.2⟩, List.mem_cons_self⟩ (by have := hr.un; show (A.deeper _).units + 200 < cLine; omega) rfl rfl rfl), ?_⟩
  have s0 : (L2.start N [V.ref p.1])[0]? = some (some (.ref p.1)) := rfl
  refine ⟨s0, s0, s0, s0, s0, (show (5 : Nat) ≤ sizeLine by decide), fun a ha => ?_⟩
  refine ⟨⟨[], []⟩, none :: some (.lst [.bl (c.sub q k1), .bl (c.sub q k2), .bl (c.sub q k3), .bl (c.sub q k4), .bl (c.sub q k5)]) :: List.replicate (N.length - 2) none, [], ?_, hm.new1 ha, ?_⟩
  rotate_left
  · show SG K cl Wn ⟨[], []⟩ _ _ (execs c tb _ [])
    rw [hrun q wd hq]
    intro v ρ' H' t r x
    have e1 : ρ' = ⟨[], []⟩ := by
      obtain ⟨lo, hi⟩ := ρ'
      have z1 : lo.length = 0 := x.len
      have z2 : hi = [] := t.hi
      rw [List.length_eq_zero_iff.mp z1, z2]
    subst e1
    cases r
    exact hQ H' ((Tr.new1 ha).trans t) x
  · have n2 : 2 ≤ N.length := by have := (List.getElem?_eq_some_iff.mp (isAt_eq gk.1)).1; omega
    have eN : N.length - 1 = (N.length - 2) + 1 := by omega
    have es : (L2.start N [V.ref p.1]).set 1 (some (.ref a)) = some (.ref p.1) :: some (.ref a) :: List.replicate (N.length - 2) none := by
      show (some (V.ref p.1) :: List.replicate (N.length - 1) none).set 1 _ = _
      rw [eN, List.replicate_succ]; rfl
    show EnvOk K ⟨[], []⟩ _ _ ((L2.start N [V.ref p.1]).set 1 (some (.ref a)))
    rw [es]
    refine ⟨by simp, fun i d h => ?_⟩
    match i, h with
    | 0, h => cases h
    | 1, h =>
      cases h
      refine ⟨_, rfl, RepP.lst ⟨⟨fun l z => by simp at z, by simp⟩, upd_same⟩ ?_⟩
      exact .cons (.bl _) (.cons (.bl _) (.cons (.bl _) (.cons (.bl _) (.cons (.bl _) .nil))))
    | i + 2, h =>
      have h' : (List.replicate (N.length - 2) (none : Option D))[i]? = some (some d) := h
      rw [List.getElem?_replicate] at h'
      split at h' <;> cases h'
end

/-! ### the rest of the def, as the laws write it -/
section
variable {X : Cx} {cl : Nat → Addr} {c : Cfg} {N : List Str} {sc : Scope}
theorem hot_var (hN : X.N = N) (hsc : X.env.scope = sc) (i : Nat) {x : Str} {pos : Pos} {W : WX} (h : varB N sc i x = true) : Me X cl W c (.Name x pos) (.var i) := by
  unfold varB at h
  simp only [Bool.and_eq_true, Bool.or_eq_true] at h
  refine me_var i (by rw [hN]; exact isAt_eq h.1.1) ?_ (notDbg_d h.1.2) (notDbg_c h.1.2)
  rw [hsc]
  rcases h.2 with (q | q) | q
  · exact .inl (isK_eq q)
  · exact .inr (.inl (isK_eq q))
  · exact .inr (.inr (isK_eq q))
theorem hot_nm (hN : X.N = N) (hn : N.Nodup) (hsc : X.env.scope = sc) (i : Nat) {x : Str} {pos : Pos} (h : locB N sc i x = true) : Mg X (.Name x pos) (.nm i) := by
  unfold locB at h
  rw [Bool.and_eq_true] at h
  have l : X.env.scope.names.lookup x = some .local := by rw [hsc]; exact isK_eq h.2
  exact mg_nm (by rw [hN]; exact hn) (by rw [hN]; exact isAt_eq h.1) (.inl l) (.inr l)
theorem word_rest {kx z w0 w1 w2 w3 w4 w5 : Str} {scope : Scope} {j1 j2 j3 j4 j5 j6 j7 j8 : Nat} {p1 p2 p3 p4 p5 p6 p7 p8 p9 r1 r2 r3 r4 r5 r6 q1 q2 q3 q4 q5 q6 q7 q8 q9 : Pos} (hN : X.N = N) (hsc : X.env.scope = sc) (hot : HotC X) (hu : X.A.units + 200 < cLine) (hwd : X.w = Tabs.wd) (hn : N.Nodup) (hm : X.mg "len" = none)
    (h : (glB sc "len" && varB N sc 1 kx && locB N (relS scope sc) 2 z && varB N (relS scope sc) 2 z && blkB N sc scope [(z, 2)]) = true) (ok : StrOk w0 ∧ StrOk w1 ∧ StrOk w2 ∧ StrOk w3 ∧ StrOk w4 ∧ StrOk w5) (hl : (p7.endLine == p9.line) = true) :
    Mb X cl Wn c [.If (.Compare (.Call (.Name "len" p1) [.ListComp (.Name z p2) [⟨.Name z p3, .Name kx p4, [.Name z p5], 0⟩] scope p6] [] r1) [.NotEq] [.Constant (.int 1) j1 r2] r3) [.Return (some (.Constant (.str w0) j2 r4)) r5] [] r6,
      .Return (some (.Subscript (.List [.Constant (.str w1) j3 q1, .Constant (.str w2) j4 q2, .Constant (.str w3) j5 q3, .Constant (.str w4) j6 q4, .Constant (.str w5) j7 q5] q6) (.Call (.Attribute (.Name kx p8) "index" p7) [.Constant (.bool true) j8 q7] [] p9) q8)) q9]
      [.iff (.op .ne (.prim .len [.comp [2] (.nm 2) .lseq [.var 1] [.var 2] (.var 2)]) (.lit (.int 1))) [.ret (.lit (.str w0))] [], .ret (.idx (.lst [.lit (.str w1), .lit (.str w2), .lit (.str w3), .lit (.str w4), .lit (.str w5)]) (.meth .index (.var 1) [.lit (.bl true)]))] := by
  simp only [Bool.and_eq_true] at h
  obtain ⟨⟨⟨⟨g1, g2⟩, g3⟩, g4⟩, g5⟩ := h
  unfold glB at g1
  rw [Bool.and_eq_true] at g1
  obtain ⟨k0, k1, k2, k3, k4, k5⟩ := ok
  have gl : Gl X "len" := by show X.env.scope.names.lookup _ = _; rw [hsc]; exact isK_eq g1.1
  have sb : ∀ (s : Shared) (H : Hp) (C : Addr) (cl' : List (Str × Addr)) (fp : List Addr), (blkH X s H scope (compEnvC scope cl' C X.env) fp).env.scope = relS scope sc := fun s H C cl' fp => by
    show relabel scope X.env = _
    rw [relS_eq, hsc]
  have B : LcHOk X cl c (.Name z p3) (.Name z p2) [.Name z p5] scope [(z, 2)] (.nm 2) [.var 2] (.var 2) :=
    ⟨by rw [hN, hsc]; exact blk_ok g5, fun s H C cl' fp => hot_nm (X := blkH X s H scope (compEnvC scope cl' C X.env) fp) hN hn (sb s H C cl' fp) 2 g3,
      fun s H C cl' fp => mc_one (mt_val (hot_var (X := blkH X s H scope (compEnvC scope cl' C X.env) fp) hN (sb s H C cl' fp) 2 g4) fun _ => rfl), fun s H C cl' fp => hot_var (X := blkH X s H scope (compEnvC scope cl' C X.env) fp) hN (sb s H C cl' fp) 2 g4,
      fun i hi => by simpa [tgN] using hi⟩
  have v1 : ∀ {pos : Pos}, Me X cl Wn c (.Name kx pos) (.var 1) := hot_var hN hsc 1 g2
  refine mb_cons (ms_if (mt_cmp (opNe hu) (bl_ .ne) (me_primB prLen gl hm (by decide +kernel) (ma_cons (mf_lcH hot (by rw [hN]; exact hn) v1 B (fun _ => rfl)).me ma_nil rfl) (by decide) (notDbg_d g1.2) rfl rfl) me_int rfl) (mb_cons (ms_ret (me_str k0)) mb_nil) mb_nil) ?_
  refine mb_cons (ms_ret (me_idx hu hwd (me_lst (d_cons (me_str k1) (d_cons (me_str k2) (d_cons (me_str k3) (d_cons (me_str k4) (d_cons (me_str k5) md_nil)))))) ?_ (fun _ _ => rfl))) mb_nil
  exact me_meth PySem.F.slot_list_index PySem.F.type_list_index (mhIndex hu) v1 (ma_cons me_bl ma_nil rfl) rfl rfl hl rfl rfl
end
end Py
end

section
set_option Elab.async false
set_option linter.all false
set_option maxRecDepth 100000
set_option maxHeartbeats 2000000
/-! PyLink: all defs at once, by the number of calls; the end. -/
namespace Py
open PySem PySem.Spec PyProof.Rows L2 L2H GxR GenW
open PySem (Str)
variable [Tabs]
section
variable {P : Program} {w : World} {K : PySem.W.Frag} {mg : Str → Option Value} {base : Heap} {cl : Nat → Addr} {c : Cfg} {k : Nat} {f : Addr} {fd : FuncData}
theorem WordFn.mono {word : Nat → Option D} {j k : Nat} {x : Str} (F : WordFn P w K mg base cl word j f fd x) (h : j ≤ k) : WordFn P w K mg base cl word k f fd x :=
  ⟨fun A outer s H args Q p q wd r => F.run A outer s H args Q p q wd (r.mono h)⟩
/-- the configuration with n calls left -/
def cfgN (tbl : Nat → Option Fn) (sub : Nat → Nat → Bool) (WW : Nat) (word : Nat → Option D) (n : Nat) : Cfg := ⟨run tbl sub WW word n, sub, WW, word⟩
/-- a def in the layer -/
structure Df (P : Program) (w : World) (K : PySem.W.Frag) (mg : Str → Option Value) (base : Heap) (cl : Nat → Addr) (L : Lay) (tbl : Nat → Option Fn) (sub : Nat → Nat → Bool) (WW : Nat) (word : Nat → Option D) (i : Nat) (x : Str) (n : Nat) : Prop where
  ok : ∃ (f : Addr) (fd : FuncData) (ps : List Str), mg x = some (.ref f) ∧ PySem.W.keepIn K (.ref f) = true ∧ Binds K fd ps [] ∧ (∀ lev, FnOk P w K mg base (L2N.CX P w) lev f fd ps (spG K cl (fun _ _ => .no) n)) ∧
    ∀ m lev, Gb P w K mg base cl (cfgN tbl sub WW word m) L lev → FnOk P w K mg base (L2N.CX P w) (lev + 3) f fd ps (spG K cl (run tbl sub WW word (m + 1) i) n)
theorem df_core {L : Lay} {tbl : Nat → Option Fn} {sub : Nat → Nat → Bool} {WW : Nat} {word : Nat → Option D} {i : Nat} {x qual : Str} {st : Stmt} {N ps : List Str} {tb : List S} {ex g : Bool} {oc : Value} {od an : Option Addr} {osl : Array (Option Value)} {kV doc pm cdv ct : Value}
    (lk : K.lookup f = some ⟨oc, od, .func (PySem.W.fnOf x qual (defArgs st) (defBody st) (defScope st) .none kV doc pm an cdv ct), osl⟩) (hcd : PySem.W.codeIn K cdv qual = true)
    (S : FnScope N ps (defScope st)) (ht : tbl i = some ⟨ps.length, N.length, tb, ex⟩) (hc : g = true → ∃ cc T, cdv = .ref cc ∧ T ∈ Tabs.tb ∧ TabB base mg cc T)
    (hd : ∀ {c : Cfg} {lev : Nat} {X : Cx} {W : WX}, Fs cl c L lev N (defScope st) 2 g X W → Mb X cl W c (defBody st) tb) (m lev : Nat) (G : Gb P w K mg base cl (cfgN tbl sub WW word m) L lev) :
    FnOk P w K mg base (L2N.CX P w) (lev + 3) f (PySem.W.fnOf x qual (defArgs st) (defBody st) (defScope st) .none kV doc pm an cdv ct) ps (spG K cl (run tbl sub WW word (m + 1) i) ps.length) := by
  have e : run tbl sub WW word (m + 1) i = runFn (cfgN tbl sub WW word m) ⟨ps.length, N.length, tb, ex⟩ := by
    funext ds μ
    show (match tbl i with | some g => runFn ⟨run tbl sub WW word m, sub, WW, word⟩ g ds μ | none => .no) = _
    rw [ht]; rfl
  rw [e]
  refine fn_of lk hcd S (fun vs H Q E h => ?_) fun A outer s H vs Q E hr hsp => ?_
  · obtain ⟨ρ, ds, μ, _, r, hl, _⟩ := h
    rw [← r.length, hl]
  · obtain ⟨ρ, ds, μ, m', r, hl, h⟩ := hsp
    have FS : Fs cl (cfgN tbl sub WW word m) L lev N (defScope st) 2 g (cxN P w K mg base N qual (defScope st) f cdv A outer s H E) (fun cls d _ H => E cls d H) :=
      ⟨⟨G, rfl, rfl, cxN_takes, S.nd, rfl, hr, hc⟩, cxN_passes, fun _ => rfl, rfl, rfl⟩
    refine ⟨_, hd FS, ρ, ds.map some ++ List.replicate (N.length - ps.length) none, μ, ?_, m', ?_⟩
    · unfold L2.start
      rw [← r.length, hl]
      exact env_start r _
    · unfold runFn at h
      rw [if_pos hl] at h
      exact sg_finish m'.len h
theorem df_mk {L : Lay} {tbl : Nat → Option Fn} {sub : Nat → Nat → Bool} {WW : Nat} {word : Nat → Option D} {i : Nat} {x qual : Str} {st : Stmt} {N ps : List Str} {tb : List S} {ex g : Bool} {oc : Value} {od an : Option Addr} {osl : Array (Option Value)} {kV doc pm cdv ct : Value}
    (hm : mg x = some (.ref f)) (lk : K.lookup f = some ⟨oc, od, .func (PySem.W.fnOf x qual (defArgs st) (defBody st) (defScope st) .none kV doc pm an cdv ct), osl⟩) (hcd : PySem.W.codeIn K cdv qual = true) (kp : PySem.W.keepIn K (.ref f) = true)
    (hbd : ∀ (kV doc pm : Value) (an : Option Addr) (cdv ct : Value) (us : List Value), us.length = ps.length → bindArgs (PySem.W.fnOf x qual (defArgs st) (defBody st) (defScope st) .none kV doc pm an cdv ct) ⟨us, []⟩ = pure (ps.zip us))
    (S : FnScope N ps (defScope st)) (ht : tbl i = some ⟨ps.length, N.length, tb, ex⟩) (hc : g = true → ∃ cc T, cdv = .ref cc ∧ T ∈ Tabs.tb ∧ TabB base mg cc T)
    (hd : ∀ {c : Cfg} {lev : Nat} {X : Cx} {W : WX}, Fs cl c L lev N (defScope st) 2 g X W → Mb X cl W c (defBody st) tb) : Df P w K mg base cl L tbl sub WW word i x ps.length :=
  ⟨f, _, ps, hm, kp, (fun_mk lk hcd kp).binds hbd, fun lev => fn_none (fun_mk lk hcd kp), fun m lev G => df_core lk hcd S ht hc hd m lev G⟩
/-- the facts that do not speak of calls -/
structure Gc (P : Program) (w : World) (K : PySem.W.Frag) (mg : Str → Option Value) (base : Heap) (cl : Nat → Addr) (sub : Nat → Nat → Bool) (word : Nat → Option D) (L : Lay) : Prop where
  wd : w = Tabs.wd
  blt : ∀ x ∈ L.blts, mg x = none
  clx : ∀ p ∈ L.cls, mg p.2 = some (.ref (cl p.1)) ∧ PySem.W.keepIn K (.ref (cl p.1)) = true ∧ PySem.W.subIn K (.ref (cl p.1)) (.type "BaseException") = some true ∧ PySem.W.typeIn K (.ref (cl p.1)) = some (.type "type") ∧
    ∃ (B newId initId : String) (bmB : List Value), ExcBaseFacts B newId initId bmB ∧ PySem.W.excIn K (cl p.1) bmB newId = true
  con : ∀ p ∈ L.cons, ∃ u, mg p.1 = some u ∧ RelV p.2 u
  exm : ∀ k ∈ L.hdl, ∀ q d, word q = some d → PySem.W.exmOne K (.ref (cl q)) (.ref (cl k)) = some (sub q k)
  wstr : ∀ q d, word q = some d → ∃ s, d = .str s ∧ StrOk s
  word : ∀ y ∈ L.words, ∃ (f : Addr) (fd : FuncData) (x : Str), WordFn P w K mg base cl word 1 f fd x ∧ mg y = some (.ref f) ∧ PySem.W.keepIn K (.ref f) = true ∧ Binds K fd [x] []
theorem gb_all {L : Lay} {tbl : Nat → Option Fn} {sub : Nat → Nat → Bool} {WW : Nat} {word : Nat → Option D} (D : ∀ p ∈ L.fns, Df P w K mg base cl L tbl sub WW word p.1 p.2.1 p.2.2) (G : Gc P w K mg base cl sub word L) : ∀ m, Gb P w K mg base cl (cfgN tbl sub WW word m) L (3 * m + 1)
  | 0 => ⟨G.wd, fun p hp => by
      obtain ⟨f, fd, ps, h1, h2, h3, h4, _⟩ := (D p hp).ok
      exact ⟨f, fd, ps, h4 _, h1, h2, h3⟩, G.blt, G.clx, G.con, G.exm, G.wstr, G.word⟩
  | m + 1 => by
      have ih := gb_all D G m
      refine ⟨G.wd, fun p hp => ?_, G.blt, G.clx, G.con, G.exm, G.wstr, fun y hy => ?_⟩
      · obtain ⟨f, fd, ps, h1, h2, h3, _, h5⟩ := (D p hp).ok
        exact ⟨f, fd, ps, h5 m _ ih, h1, h2, h3⟩
      · obtain ⟨f, fd, x, h1, h2⟩ := G.word y hy
        exact ⟨f, fd, x, h1.mono (by omega), h2⟩
theorem TabX {c T : Addr} (x : LamX.TabB base mg c T) : TabB base mg c T := ⟨x.code, x.bm, x.gP⟩
/-- the law's own call -/
theorem law_in {tbl : Nat → Option Fn} {sub : Nat → Nat → Bool} {WW : Nat} {word : Nat → Option D} {M i n : Nat} {cs : List (Addr × Addr)} (hT : ∀ T ∈ Tabs.tb, ∃ p ∈ cs, p.2 = T)
    (hlaw : ∀ ns : List Int, ns.length ≤ n → (∀ z ∈ ns, Builtin.Int.intBits z ≤ 1048576) → ∃ μ, run tbl sub WW word M i [.lck (.lst (ns.map D.int))] [] = .ok (.bl true) μ) :
    ∀ (H : Hp) (a : Addr) (ns : List Int), ns.length ≤ n → (∀ z ∈ ns, Builtin.Int.intBits z ≤ 1048576) → (∀ p ∈ cs, H p.2 = some (.tbl #[])) → SqL K H a (ns.map V.int) → spG K cl (run tbl sub WW word M i) 1 [.ref a] H (fun v _ => v = .bl true) fun _ _ _ => False := by
  intro H a ns hl hb ht hS
  have fz : Fz ⟨[], []⟩ a := ⟨fun l z => by simp at z, by simp⟩
  have rp : ∀ xs : List Int, RepPs K ⟨[], []⟩ H (xs.map D.int) (xs.map V.int) := fun xs => by
    induction xs with
    | nil => exact .nil
    | cons x xs ih => exact .cons (.int x) ih
  refine ⟨⟨[], []⟩, [.lck (.lst (ns.map D.int))], [], ⟨rfl, fun l l' a e => by simp at e, fun l a e => by simp at e, fun l a e => by simp at e, fun a e => by simp at e, fun l d e => by simp at e, fun T hm => ?_⟩, .cons ⟨a, _, rfl, hS.imp (fun q => ⟨fz, q⟩) id, rp ns⟩ .nil, rfl, ?_⟩
  · obtain ⟨p, hp, rfl⟩ := hT T hm
    exact ⟨_, ht p hp, trivial⟩
  · obtain ⟨μ, e⟩ := hlaw ns hl hb
    rw [e]
    intro v ρ' H' t r x
    cases r
    rfl
end
end Py
namespace Py
open PySem PySem.Spec PyProof.Rows L2 LamX
open PySem (Str)
/-- the end: what is known of the tables of code objects is handed on -/
def TabK (q : Program) (K : PySem.W.Frag) (h : Heap) : Prop := ∀ (x : Str) (c T : Addr), ((recsOf q).any fun e => e.name == x) = true → PySem.W.tabIn K x = some (c, T) → PySem.W.CodeHd h c T ∧ h.get? T = some { cls := .none, data := .fields #[] }
theorem walk_py {l : PySem.W.OpenLaw} {n k : Nat} {q : Program} {loose : List Str} {XP : (Str → Option Value) → Heap → Prop} {YP : World → Heap → Prop} {d : DefRec} {K : Params → PySem.W.Frag} {CX : World → CXT} {x : Str}
    (hn : l.most = some n) (hn2 : n ≤ sizeLine) (hdf : d.params.defaults = []) (hr : Room k callerA) (hY : ∀ (w : World) (h : Heap), YP w h → (K w.params).In h)
    (F : ∀ (w : World) (mg : Str → Option Value) (fa : Addr) (h : Heap), YP w h → (K w.params).In h → h.Ns mainGlobals mg → mg d.name = some (.ref fa) → TabK q (K w.params) h → LawAtS l w (K w.params) (CX w) k n x mg fa h)
    (hCX : ∀ (w : World) (H : Hp) (s : Shared) (e : Value) (s' : Shared), CX w [] H s (fun _ _ _ => False) e s' → False) :
    PySem.W.WalkO q loose XP YP l.row.toRowW d [] (fun f vs => PySem.call f vs) := by
  refine Att.attach_callB hn hdf fun w s₀ s₁ mg mb fa o pm cd doc a vs ns G Y ho hd hcd hmg hobj hints hlen hbits hg => ?_
  have KX := hY w _ Y
  have tk : TabK q (K w.params) s₁.heap := fun x c T hx ht => by
    obtain ⟨dL, hm, hn1⟩ := List.any_eq_true.mp hx
    cases e : (recsOf q).find? (fun e => e.name == x) with
    | none => exact absurd hn1 (List.find?_eq_none.mp e dL hm)
    | some d' => exact PySem.W.tab_of G.T KX e ht
  obtain ⟨fd, cs, sp, hT, nT, C, hb, hsp, hF⟩ := F w mg fa _ Y KX G.T.g hmg tk
  exact law_callTs KX G.T.g G.T.b G.T.builtins G.T.nolimit hg hT nT C G.T.bmain hobj hints (Nat.le_trans hlen hn2) hr hF hb (fun H hH hS => hsp H a ns hlen hbits hH hS) fun H e s' => hCX w H s₁ e s'
end Py
namespace Py
open PySem PySem.Spec PyProof.Rows L2
theorem cx_out {P : Program} {w : World} {H : Hp} {s : Shared} {e : Value} {s' : Shared} (h : L2N.CX P w [] H s (fun _ _ _ => False) e s') : False := by
  obtain ⟨_, _, _, _, _, _, _, _, _, _, _, _, h⟩ := h
  exact h
end Py
namespace Py
open PySem PySem.W
theorem kit_ref {K : Frag} {t : Value} {C : Addr} {b : Bool} (hd : hasDictIn K C = true) (ht : typeIn K (.ref C) = some (.type "type")) (hs : subIn K t (.ref C) = some b) (he : (!(t == .ref C) || b) = true) : kitOne K t (.ref C) = some b := by
  obtain ⟨cd, hc, _⟩ := any_some hd
  have e2 : ((clsIn K C).isSome && typeIn K (.ref C) == some (.type "type")) = true := by rw [hc, ht] <;> rfl
  unfold kitOne
  by_cases h : (t == .ref C) = true
  · rw [if_pos h]
    rw [h] at he
    simp only [Bool.not_true, Bool.false_or] at he
    rw [he]
  · rw [if_neg h]
    show (if ((clsIn K C).isSome && typeIn K (.ref C) == some (.type "type")) = true then subIn K t (.ref C) else none) = some b
    rw [if_pos e2]
    exact hs
theorem tab_mk {K : Frag} {x : Str} {f c T : Addr} {oc e : Value} {od dd : Option Addr} {fd : FuncData} {sl csl : Array (Option Value)} {vs : Array Value} (a : nsIn K mainGlobals x = some (some (.ref f))) (l : K.lookup f = some ⟨oc, od, .func fd, sl⟩) (hc : fd.code = .ref c)
    (k : K.lookup c = some ⟨e, dd, .fields vs, csl⟩) (hv : (vs[11]? : Option Value) = some (.ref T)) : tabIn K x = some (c, T) := by
  unfold tabIn
  rw [a]
  dsimp only
  rw [l]
  dsimp only
  rw [hc]
  dsimp only
  rw [k]
  dsimp only
  rw [hv]
end Py
end

section
set_option linter.all false
set_option Elab.async false
/-! PyX: to run core terms by simp: rules of reading, loops by their laws. Plain Lean. -/
namespace Py
open PySem (Str)

/-! ### reading -/
section
variable (m : Mem)
@[simp] theorem der_non : der m .non = some .non := id rfl
@[simp] theorem der_bl (b : Bool) : der m (.bl b) = some (.bl b) := id rfl
@[simp] theorem der_int (i : Int) : der m (.int i) = some (.int i) := id rfl
@[simp] theorem der_str (s : Str) : der m (.str s) = some (.str s) := id rfl
@[simp] theorem der_tup' (ds : List D) : der m (.tup ds) = some (.tup ds) := id rfl
@[simp] theorem der_lst (ds : List D) : der m (.lst ds) = some (.lst ds) := id rfl
@[simp] theorem der_lck (d : D) : der m (.lck d) = some d := id rfl
@[simp] theorem plainK_non : plainK .non = true := id rfl
@[simp] theorem plainK_bl (b : Bool) : plainK (.bl b) = true := id rfl
@[simp] theorem plainK_int (i : Int) : plainK (.int i) = true := id rfl
@[simp] theorem plainK_str (s : Str) : plainK (.str s) = true := id rfl
@[simp] theorem plainK_tup (ds : List D) : plainK (.tup ds) = true := id rfl
@[simp] theorem plainK_lst (ds : List D) : plainK (.lst ds) = true := id rfl
theorem der_plain {d : D} (h : plainK d = true) : der m d = some d := by cases d <;> first | rfl | cases h
theorem der_ref {l : Nat} {xs : List D} (h : m[l]? = some (.lst xs)) : der m (.ref l) = some (.lst xs) := by simp [der, h]
@[simp] theorem derX_non : derX m .non = some .non := id rfl
@[simp] theorem derX_bl (b : Bool) : derX m (.bl b) = some (.bl b) := id rfl
@[simp] theorem derX_int (i : Int) : derX m (.int i) = some (.int i) := id rfl
@[simp] theorem derX_str (s : Str) : derX m (.str s) = some (.str s) := id rfl
@[simp] theorem derX_tup' (ds : List D) : derX m (.tup ds) = some (.tup ds) := id rfl
@[simp] theorem derX_lst (ds : List D) : derX m (.lst ds) = some (.lst ds) := id rfl
theorem derX_plain {d : D} (h : plainK d = true) : derX m d = some d := by cases d <;> first | rfl | cases h
theorem derX_ref {l : Nat} {xs : List D} (h : m[l]? = some (.lst xs)) : derX m (.ref l) = some (.lst xs) := by simp [derX, h]
@[simp] theorem settle_non : settle .non m = some (.non, m) := id rfl
@[simp] theorem settle_bl (b : Bool) : settle (.bl b) m = some (.bl b, m) := id rfl
@[simp] theorem settle_int (i : Int) : settle (.int i) m = some (.int i, m) := id rfl
@[simp] theorem settle_str (s : Str) : settle (.str s) m = some (.str s, m) := id rfl
@[simp] theorem settle_tup (ds : List D) : settle (.tup ds) m = some (.tup ds, m) := id rfl
@[simp] theorem settle_lst (ds : List D) : settle (.lst ds) m = some (.lst ds, m) := id rfl
theorem settle_plain {d : D} (h : plainK d = true) : settle d m = some (d, m) := by cases d <;> first | rfl | cases h
@[simp] theorem settles_nil : settles [] m = some ([], m) := id rfl
@[simp] theorem settles_cons (d : D) (ds : List D) : settles (d :: ds) m = (settle d m).bind fun p => (settles ds p.2).map fun q => (p.1 :: q.1, q.2) := id rfl
theorem settles_plain {ds : List D} (h : ∀ d ∈ ds, plainK d = true) : settles ds m = some (ds, m) := by
  induction ds with
  | nil => rfl
  | cons d ds ih => rw [settles, settle_plain m (h d (by simp))]; simp [ih (fun x hx => h x (by simp [hx]))]
@[simp] theorem truth_non : truth m .non = some false := id rfl
@[simp] theorem truth_bl (b : Bool) : truth m (.bl b) = some b := id rfl
@[simp] theorem truth_int (i : Int) : truth m (.int i) = some (i != 0) := id rfl
@[simp] theorem truth_str (s : Str) : truth m (.str s) = some (s.length != 0) := id rfl
@[simp] theorem truth_tup (ds : List D) : truth m (.tup ds) = some (!ds.isEmpty) := id rfl
@[simp] theorem truth_lst (ds : List D) : truth m (.lst ds) = some (!ds.isEmpty) := id rfl
@[simp] theorem seqOf_tup (ds : List D) : seqOf m (.tup ds) = some ds := id rfl
@[simp] theorem seqOf_lst (ds : List D) : seqOf m (.lst ds) = some ds := id rfl
theorem seqOf_ref {l : Nat} {xs : List D} (h : m[l]? = some (.lst xs)) : seqOf m (.ref l) = some xs := by simp [seqOf, der, h]
@[simp] theorem lenD_tup (ds : List D) : lenD m (.tup ds) = some ds.length := id rfl
@[simp] theorem lenD_lst (ds : List D) : lenD m (.lst ds) = some ds.length := id rfl
@[simp] theorem lenD_lck (d : List D) : lenD m (.lck (.lst d)) = some d.length := id rfl
@[simp] theorem lenD_str (s : Str) : lenD m (.str s) = some s.length := id rfl
theorem lenD_ref {l : Nat} {xs : List D} (h : m[l]? = some (.lst xs)) : lenD m (.ref l) = some xs.length := by simp [lenD, der, h]
@[simp] theorem sortSrc_tup (ds : List D) : sortSrc m (.tup ds) = some ds := id rfl
@[simp] theorem sortSrc_lst (ds : List D) : sortSrc m (.lst ds) = some ds := id rfl
theorem sortSrc_ref {l : Nat} {xs : List D} (h : m[l]? = some (.lst xs)) : sortSrc m (.ref l) = some xs := by simp [sortSrc, dctOf, seqOf, der, h]
theorem sortSrc_dct {l : Nat} {kvs : List (D × D)} (h : m[l]? = some (.dtp kvs)) : sortSrc m (.ref l) = some (kvs.map (·.1)) := by simp [sortSrc, dctOf, h]
theorem cellL_at {l : Nat} {xs : List D} (h : m[l]? = some (.lst xs)) : cellL m l = some xs := by simp [cellL, h]
@[simp] theorem unL_lst (xs : List D) : unL (.lst xs) = some xs := id rfl
end
/-! ### what a call hands back -/
/-- no reference -/
def nr : D → Bool
  | .ref _ => false
  | _ => true
@[simp] theorem finish_nx (ex : Bool) (n : Nat) (e : Env) (m : Mem) : finish ex n (.nx e m) = .ok .non (m.take n) := id rfl
@[simp] theorem finish_ex (ex : Bool) (n k : Nat) (e : Env) (m : Mem) : finish ex n (.ex k e m) = .ex k (m.take n) := id rfl
theorem finish_rt (ex : Bool) (n : Nat) {d : D} (m : Mem) (h : nr d = true) : finish ex n (.rt d m) = .ok d (m.take n) := by cases d <;> first | rfl | cases h
@[simp] theorem nr_non : nr .non = true := id rfl
@[simp] theorem nr_bl (b : Bool) : nr (.bl b) = true := id rfl
@[simp] theorem nr_int (i : Int) : nr (.int i) = true := id rfl
@[simp] theorem nr_str (s : Str) : nr (.str s) = true := id rfl
@[simp] theorem nr_tup (ds : List D) : nr (.tup ds) = true := id rfl
@[simp] theorem nr_lst (ds : List D) : nr (.lst ds) = true := id rfl
theorem nr_plain {d : D} (h : plainK d = true) : nr d = true := by cases d <;> first | rfl | cases h
/-! ### small facts -/
@[simp] theorem fits_0 : fits 0 = true := id rfl
@[simp] theorem fits_1 : fits 1 = true := id rfl
@[simp] theorem fits_2 : fits 2 = true := id rfl
@[simp] theorem fits_3 : fits 3 = true := id rfl
@[simp] theorem fits_4 : fits 4 = true := id rfl
@[simp] theorem fits_5 : fits 5 = true := id rfl
@[simp] theorem fits_6 : fits 6 = true := id rfl
@[simp] theorem fits_7 : fits 7 = true := id rfl
@[simp] theorem fits_8 : fits 8 = true := id rfl
@[simp] theorem fits_9 : fits 9 = true := id rfl
@[simp] theorem fits_10 : fits 10 = true := id rfl
@[simp] theorem fits_11 : fits 11 = true := id rfl
@[simp] theorem fits_12 : fits 12 = true := id rfl
@[simp] theorem fits_13 : fits 13 = true := id rfl
@[simp] theorem fits_14 : fits 14 = true := id rfl
@[simp] theorem fits_15 : fits 15 = true := id rfl
@[simp] theorem fits_16 : fits 16 = true := id rfl
@[simp] theorem fits_17 : fits 17 = true := id rfl
@[simp] theorem fits_18 : fits 18 = true := id rfl
@[simp] theorem fits_19 : fits 19 = true := id rfl
@[simp] theorem fits_20 : fits 20 = true := id rfl
@[simp] theorem fits_21 : fits 21 = true := id rfl
@[simp] theorem fits_22 : fits 22 = true := id rfl
@[simp] theorem fits_23 : fits 23 = true := id rfl
@[simp] theorem fits_24 : fits 24 = true := id rfl
@[simp] theorem fits_25 : fits 25 = true := id rfl
@[simp] theorem fits_26 : fits 26 = true := id rfl
@[simp] theorem fits_27 : fits 27 = true := id rfl
@[simp] theorem fits_28 : fits 28 = true := id rfl
@[simp] theorem fits_29 : fits 29 = true := id rfl
@[simp] theorem fits_30 : fits 30 = true := id rfl
@[simp] theorem fits_31 : fits 31 = true := id rfl
@[simp] theorem fits_32 : fits 32 = true := id rfl
theorem fits_le {n : Nat} (h : n ≤ 10000000) : fits n = true := by simp [fits, sizeMost, h]
@[simp] theorem mem_new (m : Mem) (x : D) : (m ++ [x])[m.length]? = some x := by simp
@[simp] theorem mem_set (m : Mem) (x y : D) : (m ++ [x]).set m.length y = m ++ [y] := by simp
@[simp] theorem mem_take (m : Mem) (x : D) : (m ++ [x]).take m.length = m := by simp
@[simp] theorem cellL_new (m : Mem) (xs : List D) : cellL (m ++ [.lst xs]) m.length = some xs := by simp [cellL]
@[simp] theorem der_new (m : Mem) (xs : List D) : der (m ++ [.lst xs]) (.ref m.length) = some (.lst xs) := by simp [der]
@[simp] theorem derX_new (m : Mem) (xs : List D) : derX (m ++ [.lst xs]) (.ref m.length) = some (.lst xs) := by simp [derX]
@[simp] theorem settle_new (m : Mem) (xs : List D) : settle (.ref m.length) (m ++ [.lst xs]) = some (.lst xs, m ++ [.non]) := by simp [settle]
@[simp] theorem seqOf_new (m : Mem) (xs : List D) : seqOf (m ++ [.lst xs]) (.ref m.length) = some xs := by simp [seqOf]
@[simp] theorem lenD_new (m : Mem) (xs : List D) : lenD (m ++ [.lst xs]) (.ref m.length) = some xs.length := by simp [lenD]
@[simp] theorem finish_new (ex : Bool) (m : Mem) (xs : List D) : finish ex m.length (.rt (.ref m.length) (m ++ [.lst xs])) = if ex then .ok (.ref m.length) (m ++ [.lst xs]) else .ok (.lst xs) m := by simp [finish]

/-! ### what a call hands back, by kind -/
@[simp] theorem finish_rt_non (ex : Bool) (n : Nat) (m : Mem) : finish ex n (.rt .non m) = .ok .non (m.take n) := id rfl
@[simp] theorem finish_rt_bl (ex : Bool) (n : Nat) (b : Bool) (m : Mem) : finish ex n (.rt (.bl b) m) = .ok (.bl b) (m.take n) := id rfl
@[simp] theorem finish_rt_int (ex : Bool) (n : Nat) (b : Int) (m : Mem) : finish ex n (.rt (.int b) m) = .ok (.int b) (m.take n) := id rfl
@[simp] theorem finish_rt_str (ex : Bool) (n : Nat) (b : Str) (m : Mem) : finish ex n (.rt (.str b) m) = .ok (.str b) (m.take n) := id rfl
@[simp] theorem finish_rt_tup (ex : Bool) (n : Nat) (b : List D) (m : Mem) : finish ex n (.rt (.tup b) m) = .ok (.tup b) (m.take n) := id rfl
@[simp] theorem finish_rt_lst (ex : Bool) (n : Nat) (b : List D) (m : Mem) : finish ex n (.rt (.lst b) m) = .ok (.lst b) (m.take n) := id rfl
/-! ### operators -/
theorem eqC_l {x y : D} (h : dep x ≤ dq) (hx : plainK x = true) (hy : plainK y = true) : eqC x y = some (eqB x y) := by
  unfold eqC; rw [if_pos ⟨by omega, hx, hy⟩]
theorem eqC_r {x y : D} (h : dep y ≤ dq) (hx : plainK x = true) (hy : plainK y = true) : eqC x y = some (eqB x y) := by
  unfold eqC; rw [if_pos ⟨by omega, hx, hy⟩]
theorem op_eq_l {x y : D} (m : Mem) (h : dep x ≤ dq) (hx : plainK x = true) (hy : plainK y = true) : op2 .eq x y m = some (.bl (eqB x y)) := by simp [op2, eqD, der_plain m hx, der_plain m hy, eqC_l h hx hy]
theorem op_eq_r {x y : D} (m : Mem) (h : dep y ≤ dq) (hx : plainK x = true) (hy : plainK y = true) : op2 .eq x y m = some (.bl (eqB x y)) := by simp [op2, eqD, der_plain m hx, der_plain m hy, eqC_r h hx hy]
theorem op_ne_l {x y : D} (m : Mem) (h : dep x ≤ dq) (hx : plainK x = true) (hy : plainK y = true) : op2 .ne x y m = some (.bl !(eqB x y)) := by simp [op2, eqD, der_plain m hx, der_plain m hy, eqC_l h hx hy]
theorem op_ne_r {x y : D} (m : Mem) (h : dep y ≤ dq) (hx : plainK x = true) (hy : plainK y = true) : op2 .ne x y m = some (.bl !(eqB x y)) := by simp [op2, eqD, der_plain m hx, der_plain m hy, eqC_r h hx hy]
@[simp] theorem eqC_int (i j : Int) : eqC (.int i) (.int j) = some (i == j) := by simp [eqC, dep, eqB]
@[simp] theorem op_eq_int (i j : Int) (m : Mem) : op2 .eq (.int i) (.int j) m = some (.bl (i == j)) := by simp [op2, eqD, eqC_int]
@[simp] theorem op_ne_int (i j : Int) (m : Mem) : op2 .ne (.int i) (.int j) m = some (.bl (i != j)) := by simp [op2, eqD, eqC_int, bne]
@[simp] theorem op_add_int (i j : Int) (m : Mem) : op2 .add (.int i) (.int j) m = some (.int (i + j)) := id rfl
@[simp] theorem op_sub_int (i j : Int) (m : Mem) : op2 .sub (.int i) (.int j) m = some (.int (i - j)) := id rfl
theorem op_mul_int {i j : Int} (m : Mem) (h : small64 i = true ∨ small64 j = true) : op2 .mul (.int i) (.int j) m = some (.int (i * j)) := by rcases h with h | h <;> simp [op2, mulD, h]
@[simp] theorem op_mod_int {i j : Int} (m : Mem) (h : j ≠ 0) : op2 .mod (.int i) (.int j) m = some (.int (i.fmod j)) := by simp [op2, h]
@[simp] theorem op_fdiv_int {i j : Int} (m : Mem) (h : j ≠ 0) (h2 : j.natAbs < 1073741824) : op2 .fdiv (.int i) (.int j) m = some (.int (i.fdiv j)) := by simp [op2, h, h2]
@[simp] theorem op_lt_int (i j : Int) (m : Mem) : op2 .lt (.int i) (.int j) m = some (.bl (decide (i < j))) := by simp [op2, ltC, dep, ordOk, ltB]
@[simp] theorem op_gt_int (i j : Int) (m : Mem) : op2 .gt (.int i) (.int j) m = some (.bl (decide (j < i))) := by simp [op2, ltC, dep, ordOk, ltB]
@[simp] theorem op_le_int (i j : Int) (m : Mem) : op2 .le (.int i) (.int j) m = some (.bl (decide (i ≤ j))) := id rfl
@[simp] theorem op_ge_int (i j : Int) (m : Mem) : op2 .ge (.int i) (.int j) m = some (.bl (decide (j ≤ i))) := id rfl
theorem range_items (n : Int) (m : Mem) (h : okB n = true) : itemsOf .rng1 [.int n] m = some (rng 0 n.toNat) := by simp [itemsOf, h]
theorem range_nat (n : Nat) (m : Mem) (h : okB (n : Int) = true) : itemsOf .rng1 [.int (n : Int)] m = some (rng 0 n) := by rw [range_items _ _ h]; exact congrArg some (congrArg (rng 0) (Int.toNat_natCast n))
theorem range_lit (n : Int) (k : Nat) (m : Mem) (h : n.toNat = k) (h2 : okB n = true) : itemsOf .rng1 [.int n] m = some (rng 0 k) := by rw [range_items n m h2, h]
theorem range2_items (a b : Int) (m : Mem) (h : okB a = true) (h2 : okB b = true) : itemsOf .rng2 [.int a, .int b] m = some (rng a (b - a).toNat) := by simp [itemsOf, h, h2]
@[simp] theorem seq_items_lst (xs : List D) (m : Mem) : itemsOf .seq [.lst xs] m = some xs := id rfl
@[simp] theorem seq_items_tup (xs : List D) (m : Mem) : itemsOf .seq [.tup xs] m = some xs := id rfl
@[simp] theorem seq_items_dtp (kvs : List (D × D)) (m : Mem) : itemsOf .seq [.lck (.dtp kvs)] m = some (kvs.map (·.1)) := id rfl
@[simp] theorem seq_items_lck (xs : List D) (m : Mem) : itemsOf .seq [.lck (.lst xs)] m = some xs := id rfl
theorem okB_mk {i : Int} (h : -(2 ^ 62) < i) (h2 : i < 2 ^ 62) : okB i = true := by simp only [okB, decide_eq_true_eq]; omega
theorem small_mk {i : Int} (h : -(2 ^ 64) < i) (h2 : i < 2 ^ 64) : small64 i = true := by simp only [small64, decide_eq_true_eq]; omega
@[simp] theorem isI_int (i : Int) : kindIs .isI (.int i) = true := id rfl
@[simp] theorem isI_bl (i : Bool) : kindIs .isI (.bl i) = true := id rfl
@[simp] theorem isB_bl (i : Bool) : kindIs .isB (.bl i) = true := id rfl
@[simp] theorem isB_int (i : Int) : kindIs .isB (.int i) = false := id rfl
@[simp] theorem isT_tup (i : List D) : kindIs .isT (.tup i) = true := id rfl
@[simp] theorem isL_lst (i : List D) : kindIs .isL (.lst i) = true := id rfl
@[simp] theorem isS_str (i : Str) : kindIs .isS (.str i) = true := id rfl
section
variable (sub : Nat → Nat → Bool) (m : Mem)
@[simp] theorem pr_len (a : D) : pr sub .len [a] m = (lenD m a).map fun (n : Nat) => (D.int (n : Int), m) := id rfl
@[simp] theorem pr_abs (i : Int) : pr sub .abs [.int i] m = some (.int (if i < 0 then -i else i), m) := id rfl
@[simp] theorem pr_int (i : Int) : pr sub .int [.int i] m = some (.int i, m) := id rfl
@[simp] theorem pr_intb (i : Bool) : pr sub .int [.bl i] m = some (.int (b2i i), m) := id rfl
@[simp] theorem pr_tuple (a : D) : pr sub .tuple [a] m = (seqOf m a).map fun xs => (.tup xs, m) := id rfl
@[simp] theorem pr_list (a : D) : pr sub .list [a] m = (seqOf m a).map fun xs => (.lst xs, m) := id rfl
@[simp] theorem pr_sorted (a : D) : pr sub .sorted [a] m = (sortSrc m a).bind fun xs => (sortD xs).map fun ys => (.lst ys, m) := id rfl
@[simp] theorem pr_listrev (a : D) : pr sub .listrev [a] m = (der m a).bind fun d => (unL d).map fun xs => (.lst xs.reverse, m) := id rfl
@[simp] theorem pr_min (a b : Int) : pr sub .min2 [.int a, .int b] m = some (.int (if b < a then b else a), m) := id rfl
@[simp] theorem pr_max (a b : Int) : pr sub .max2 [.int a, .int b] m = some (.int (if b > a then b else a), m) := id rfl
theorem pr_isI {a : D} (h : plainK a = true) : pr sub .isI [a] m = some (.bl (kindIs .isI a), m) := by simp [pr, der_plain m h, h]
theorem pr_isB {a : D} (h : plainK a = true) : pr sub .isB [a] m = some (.bl (kindIs .isB a), m) := by simp [pr, der_plain m h, h]
theorem pr_isT {a : D} (h : plainK a = true) : pr sub .isT [a] m = some (.bl (kindIs .isT a), m) := by simp [pr, der_plain m h, h]
theorem pr_isL {a : D} (h : plainK a = true) : pr sub .isL [a] m = some (.bl (kindIs .isL a), m) := by simp [pr, der_plain m h, h]
theorem pr_isS {a : D} (h : plainK a = true) : pr sub .isS [a] m = some (.bl (kindIs .isS a), m) := by simp [pr, der_plain m h, h]
@[simp] theorem pr_min1 (a : D) : pr sub .min1 [a] m = (seqOf m a).bind fun xs => (ints? xs).bind fun ns => (minL ns).map fun i => (.int i, m) := id rfl
@[simp] theorem pr_max1 (a : D) : pr sub .max1 [a] m = (seqOf m a).bind fun xs => (ints? xs).bind fun ns => (maxL ns).map fun i => (.int i, m) := id rfl
@[simp] theorem pr_isE (c d : Nat) : pr sub (.isE c) [.exc d] m = some (.bl (sub d c), m) := id rfl
@[simp] theorem pr_append (l : Nat) (a : D) : pr sub .append [.ref l, a] m = (settle a m).bind fun p => (cellL p.2 l).bind fun xs => if fits xs.length then some (.non, p.2.set l (.lst (xs ++ [p.1]))) else none := id rfl
@[simp] theorem pr_extend (l : Nat) (a : D) : pr sub .extend [.ref l, a] m = (derX m a).bind fun d => (unL d).bind fun ys => (cellL m l).bind fun xs => if fits (xs.length + ys.length) then some (.non, m.set l (.lst (xs ++ ys))) else none := id rfl
@[simp] theorem pr_pop (l : Nat) : pr sub .pop [.ref l] m = (cellL m l).bind fun xs => xs.getLast?.map fun d => (d, m.set l (.lst xs.dropLast)) := id rfl
end
@[simp] theorem cellL_zero (xs : List D) (m : Mem) : cellL (.lst xs :: m) 0 = some xs := id rfl
@[simp] theorem cellL_succ (x : D) (m : Mem) (l : Nat) : cellL (x :: m) (l + 1) = cellL m l := id rfl
/-! ### the evaluator, step by step; loops stay closed -/
/-- the rest of a suite -/
def thn (c : Cfg) (r : List S) (o : Out) : Out := o.seq fun e m => execs c r e m
@[simp] theorem thn_nx (c : Cfg) (r : List S) (e : Env) (m : Mem) : thn c r (.nx e m) = execs c r e m := id rfl
@[simp] theorem thn_rt (c : Cfg) (r : List S) (d : D) (m : Mem) : thn c r (.rt d m) = .rt d m := id rfl
@[simp] theorem thn_bk (c : Cfg) (r : List S) (d : Env) (m : Mem) : thn c r (.bk d m) = .bk d m := id rfl
@[simp] theorem thn_ct (c : Cfg) (r : List S) (d : Env) (m : Mem) : thn c r (.ct d m) = .ct d m := id rfl
@[simp] theorem thn_ex (c : Cfg) (r : List S) (k : Nat) (d : Env) (m : Mem) : thn c r (.ex k d m) = .ex k d m := id rfl
@[simp] theorem thn_no (c : Cfg) (r : List S) : thn c r .no = .no := id rfl
def slot (e : Env) (i : Nat) (m : Mem) : R D := match e[i]? with
    | some (some d) => .ok d m
    | _ => .no
@[simp] theorem slot_nil (i : Nat) (m : Mem) : slot [] i m = .no := id rfl
@[simp] theorem slot_zero (x : Option D) (e : Env) (m : Mem) : slot (x :: e) 0 m = (match x with | some d => .ok d m | none => .no) := by cases x <;> rfl
@[simp] theorem slot_succ (x : Option D) (e : Env) (i : Nat) (m : Mem) : slot (x :: e) (i + 1) m = slot e i m := id rfl
noncomputable def opR (o : Bop) (x y : D) (m : Mem) : R D := match op2 o x y m with
    | some d => .ok d m
    | none => .no
theorem opR_some {o : Bop} {x y d : D} {m : Mem} (h : op2 o x y m = some d) : opR o x y m = .ok d m := by rw [opR, h]
noncomputable def asBoolT (t : Option Bool) (m : Mem) : R Bool := match t with
  | some b => .ok b m
  | none => .no
@[simp] theorem asBoolT_some (b : Bool) (m : Mem) : asBoolT (some b) m = .ok b m := id rfl
@[simp] theorem asBool_ok' (d : D) (m : Mem) : asBool (.ok d m) = asBoolT (truth m d) m := id rfl
@[simp] theorem asBool_ex (k : Nat) (m : Mem) : asBool (.ex k m) = .ex k m := id rfl
@[simp] theorem boolR_bl (b : Bool) (m : Mem) : boolR (.ok (.bl b) m) = .ok b m := id rfl
@[simp] theorem boolR_ex (k : Nat) (m : Mem) : boolR (.ex k m) = .ex k m := id rfl
noncomputable def kOp2 (o : Bop) (x : D) (r : R D) : R D := r.bind fun y m => opR o x y m
@[simp] theorem kOp2_ok (o : Bop) (x : D) (y : D) (m : Mem) : kOp2 o x (.ok y m) = opR o x y m := id rfl
@[simp] theorem kOp2_ex (o : Bop) (x : D) (k_ : Nat) (m_ : Mem) : kOp2 o x (.ex k_ m_) = .ex k_ m_ := id rfl
noncomputable def kOp1 (c : Cfg) (e : Env) (o : Bop) (b : C) (r : R D) : R D := r.bind fun x m => kOp2 o x (ev c e b m)
@[simp] theorem kOp1_ok (c : Cfg) (e : Env) (o : Bop) (b : C) (x : D) (m : Mem) : kOp1 c e o b (.ok x m) = kOp2 o x (ev c e b m) := id rfl
@[simp] theorem kOp1_ex (c : Cfg) (e : Env) (o : Bop) (b : C) (k_ : Nat) (m_ : Mem) : kOp1 c e o b (.ex k_ m_) = .ex k_ m_ := id rfl
noncomputable def negR (x : D) (m : Mem) : R D := match x with
  | .int i => .ok (.int (-i)) m
  | _ => .no
@[simp] theorem negR_int (i : Int) (m : Mem) : negR (.int i) m = .ok (.int (-i)) m := id rfl
noncomputable def kNeg  (r : R D) : R D := r.bind fun x m => negR x m
@[simp] theorem kNeg_ok  (x : D) (m : Mem) : kNeg  (.ok x m) = negR x m := id rfl
@[simp] theorem kNeg_ex  (k_ : Nat) (m_ : Mem) : kNeg  (.ex k_ m_) = .ex k_ m_ := id rfl
noncomputable def kNot  (r : R Bool) : R D := r.bind fun b m => .ok (.bl !b) m
@[simp] theorem kNot_ok  (b : Bool) (m : Mem) : kNot  (.ok b m) = .ok (.bl !b) m := id rfl
@[simp] theorem kNot_ex  (k_ : Nat) (m_ : Mem) : kNot  (.ex k_ m_) = .ex k_ m_ := id rfl
noncomputable def kAndT (c : Cfg) (e : Env) (b : C) (x : D) (t : Option Bool) (m : Mem) : R D := match t with
  | some true => ev c e b m
  | some false => .ok x m
  | none => .no
@[simp] theorem kAndT_t (c : Cfg) (e : Env) (b : C) (x : D) (m : Mem) : kAndT c e b x (some true) m = ev c e b m := id rfl
@[simp] theorem kAndT_f (c : Cfg) (e : Env) (b : C) (x : D) (m : Mem) : kAndT c e b x (some false) m = .ok x m := id rfl
noncomputable def kOrT (c : Cfg) (e : Env) (b : C) (x : D) (t : Option Bool) (m : Mem) : R D := match t with
  | some true => .ok x m
  | some false => ev c e b m
  | none => .no
@[simp] theorem kOrT_t (c : Cfg) (e : Env) (b : C) (x : D) (m : Mem) : kOrT c e b x (some true) m = .ok x m := id rfl
@[simp] theorem kOrT_f (c : Cfg) (e : Env) (b : C) (x : D) (m : Mem) : kOrT c e b x (some false) m = ev c e b m := id rfl
noncomputable def kIteB (c : Cfg) (e : Env) (a b : C) (k : Bool) (m : Mem) : R D := if k then ev c e a m else ev c e b m
@[simp] theorem kIteB_t (c : Cfg) (e : Env) (a b : C) (m : Mem) : kIteB c e a b true m = ev c e a m := id rfl
@[simp] theorem kIteB_f (c : Cfg) (e : Env) (a b : C) (m : Mem) : kIteB c e a b false m = ev c e b m := id rfl
noncomputable def kAnd (c : Cfg) (e : Env) (b : C) (r : R D) : R D := r.bind fun x m => kAndT c e b x (truth m x) m
@[simp] theorem kAnd_ok (c : Cfg) (e : Env) (b : C) (x : D) (m : Mem) : kAnd c e b (.ok x m) = kAndT c e b x (truth m x) m := id rfl
@[simp] theorem kAnd_ex (c : Cfg) (e : Env) (b : C) (k_ : Nat) (m_ : Mem) : kAnd c e b (.ex k_ m_) = .ex k_ m_ := id rfl
noncomputable def kOr (c : Cfg) (e : Env) (b : C) (r : R D) : R D := r.bind fun x m => kOrT c e b x (truth m x) m
@[simp] theorem kOr_ok (c : Cfg) (e : Env) (b : C) (x : D) (m : Mem) : kOr c e b (.ok x m) = kOrT c e b x (truth m x) m := id rfl
@[simp] theorem kOr_ex (c : Cfg) (e : Env) (b : C) (k_ : Nat) (m_ : Mem) : kOr c e b (.ex k_ m_) = .ex k_ m_ := id rfl
noncomputable def kIte (c : Cfg) (e : Env) (a b : C) (r : R Bool) : R D := r.bind fun k m => kIteB c e a b k m
@[simp] theorem kIte_ok (c : Cfg) (e : Env) (a b : C) (k : Bool) (m : Mem) : kIte c e a b (.ok k m) = kIteB c e a b k m := id rfl
@[simp] theorem kIte_ex (c : Cfg) (e : Env) (a b : C) (k_ : Nat) (m_ : Mem) : kIte c e a b (.ex k_ m_) = .ex k_ m_ := id rfl
noncomputable def chnB (c : Cfg) (e : Env) (o2 : Bop) (y : D) (d : C) (w : D) (m : Mem) : R D := match w with
  | .bl true => kOp2 o2 y (ev c e d m)
  | .bl false => .ok (.bl false) m
  | _ => .no
@[simp] theorem chnB_t (c : Cfg) (e : Env) (o2 : Bop) (y : D) (d : C) (m : Mem) : chnB c e o2 y d (.bl true) m = kOp2 o2 y (ev c e d m) := id rfl
@[simp] theorem chnB_f (c : Cfg) (e : Env) (o2 : Bop) (y : D) (d : C) (m : Mem) : chnB c e o2 y d (.bl false) m = .ok (.bl false) m := id rfl
noncomputable def kChn3 (c : Cfg) (e : Env) (o2 : Bop) (y : D) (d : C) (r : R D) : R D := r.bind fun w m => chnB c e o2 y d w m
@[simp] theorem kChn3_ok (c : Cfg) (e : Env) (o2 : Bop) (y : D) (d : C) (w : D) (m : Mem) : kChn3 c e o2 y d (.ok w m) = chnB c e o2 y d w m := id rfl
@[simp] theorem kChn3_ex (c : Cfg) (e : Env) (o2 : Bop) (y : D) (d : C) (k_ : Nat) (m_ : Mem) : kChn3 c e o2 y d (.ex k_ m_) = .ex k_ m_ := id rfl
noncomputable def kChn2 (c : Cfg) (e : Env) (o1 o2 : Bop) (x : D) (d : C) (r : R D) : R D := r.bind fun y m => kChn3 c e o2 y d (opR o1 x y m)
@[simp] theorem kChn2_ok (c : Cfg) (e : Env) (o1 o2 : Bop) (x : D) (d : C) (y : D) (m : Mem) : kChn2 c e o1 o2 x d (.ok y m) = kChn3 c e o2 y d (opR o1 x y m) := id rfl
@[simp] theorem kChn2_ex (c : Cfg) (e : Env) (o1 o2 : Bop) (x : D) (d : C) (k_ : Nat) (m_ : Mem) : kChn2 c e o1 o2 x d (.ex k_ m_) = .ex k_ m_ := id rfl
noncomputable def kChn1 (c : Cfg) (e : Env) (o1 o2 : Bop) (b d : C) (r : R D) : R D := r.bind fun x m => kChn2 c e o1 o2 x d (ev c e b m)
@[simp] theorem kChn1_ok (c : Cfg) (e : Env) (o1 o2 : Bop) (b d : C) (x : D) (m : Mem) : kChn1 c e o1 o2 b d (.ok x m) = kChn2 c e o1 o2 x d (ev c e b m) := id rfl
@[simp] theorem kChn1_ex (c : Cfg) (e : Env) (o1 o2 : Bop) (b d : C) (k_ : Nat) (m_ : Mem) : kChn1 c e o1 o2 b d (.ex k_ m_) = .ex k_ m_ := id rfl
noncomputable def dispTs (s : Option (List D × Mem)) : R D := match s with
    | some (xs, m2) => if fits xs.length then .ok (.tup xs) m2 else .no
    | none => .no
noncomputable def dispLs (s : Option (List D × Mem)) : R D := match s with
    | some (xs, m2) => if fits xs.length then .ok (.lst xs) m2 else .no
    | none => .no
@[simp] theorem dispTs_some (xs : List D) (m : Mem) (h : fits xs.length = true) : dispTs (some (xs, m)) = .ok (.tup xs) m := by simp [dispTs, h]
@[simp] theorem dispLs_some (xs : List D) (m : Mem) (h : fits xs.length = true) : dispLs (some (xs, m)) = .ok (.lst xs) m := by simp [dispLs, h]
noncomputable def dispT  (r : R (List D)) : R D := r.bind fun ds m => dispTs (settles ds m)
@[simp] theorem dispT_ok  (ds : (List D)) (m : Mem) : dispT  (.ok ds m) = dispTs (settles ds m) := id rfl
@[simp] theorem dispT_ex  (k_ : Nat) (m_ : Mem) : dispT  (.ex k_ m_) = .ex k_ m_ := id rfl
noncomputable def dispL  (r : R (List D)) : R D := r.bind fun ds m => dispLs (settles ds m)
@[simp] theorem dispL_ok  (ds : (List D)) (m : Mem) : dispL  (.ok ds m) = dispLs (settles ds m) := id rfl
@[simp] theorem dispL_ex  (k_ : Nat) (m_ : Mem) : dispL  (.ex k_ m_) = .ex k_ m_ := id rfl
def mutR (x : D) (m1 : Mem) : R D := match x with
    | .lst xs => .ok (.ref m1.length) (m1 ++ [.lst xs])
    | .dct xs => .ok (.ref m1.length) (m1 ++ [.dct xs])
    | _ => .no
@[simp] theorem mutR_lst (xs : List D) (m : Mem) : mutR (.lst xs) m = .ok (.ref m.length) (m ++ [.lst xs]) := id rfl
@[simp] theorem mutR_dct (xs : List (D × D)) (m : Mem) : mutR (.dct xs) m = .ok (.ref m.length) (m ++ [.dct xs]) := id rfl
noncomputable def kMut  (r : R D) : R D := r.bind fun x m => mutR x m
@[simp] theorem kMut_ok  (x : D) (m : Mem) : kMut  (.ok x m) = mutR x m := id rfl
@[simp] theorem kMut_ex  (k_ : Nat) (m_ : Mem) : kMut  (.ex k_ m_) = .ex k_ m_ := id rfl
noncomputable def kCall (c : Cfg) (f : Nat) (r : R (List D)) : R D := r.bind fun ds m => c.G f ds m
@[simp] theorem kCall_ok (c : Cfg) (f : Nat) (ds : (List D)) (m : Mem) : kCall c f (.ok ds m) = c.G f ds m := id rfl
@[simp] theorem kCall_ex (c : Cfg) (f : Nat) (k_ : Nat) (m_ : Mem) : kCall c f (.ex k_ m_) = .ex k_ m_ := id rfl
@[simp] theorem of_pair (a : D) (m : Mem) : R.of (some (a, m)) = .ok a m := id rfl
noncomputable def kPrim (c : Cfg) (p : Prim) (r : R (List D)) : R D := r.bind fun ds m => R.of (pr c.sub p ds m)
@[simp] theorem kPrim_ok (c : Cfg) (p : Prim) (ds : (List D)) (m : Mem) : kPrim c p (.ok ds m) = R.of (pr c.sub p ds m) := id rfl
@[simp] theorem kPrim_ex (c : Cfg) (p : Prim) (k_ : Nat) (m_ : Mem) : kPrim c p (.ex k_ m_) = .ex k_ m_ := id rfl
noncomputable def kMeth3 (c : Cfg) (p : Prim) (x : D) (r : R (List D)) : R D := r.bind fun ds m => R.of (pr c.sub p (x :: ds) m)
@[simp] theorem kMeth3_ok (c : Cfg) (p : Prim) (x : D) (ds : (List D)) (m : Mem) : kMeth3 c p x (.ok ds m) = R.of (pr c.sub p (x :: ds) m) := id rfl
@[simp] theorem kMeth3_ex (c : Cfg) (p : Prim) (x : D) (k_ : Nat) (m_ : Mem) : kMeth3 c p x (.ex k_ m_) = .ex k_ m_ := id rfl
noncomputable def kMeth2 (c : Cfg) (e : Env) (p : Prim) (as : List C) (x : D) (d : Option D) (m : Mem) : R D := match d with
    | some (.lst _) => kMeth3 c p x (evs c e as m)
    | _ => .no
@[simp] theorem kMeth2_lst (c : Cfg) (e : Env) (p : Prim) (as : List C) (x : D) (xs : List D) (m : Mem) : kMeth2 c e p as x (some (.lst xs)) m = kMeth3 c p x (evs c e as m) := id rfl
noncomputable def kMeth1 (c : Cfg) (e : Env) (p : Prim) (as : List C) (r : R D) : R D := r.bind fun x m => kMeth2 c e p as x (der m x) m
@[simp] theorem kMeth1_ok (c : Cfg) (e : Env) (p : Prim) (as : List C) (x : D) (m : Mem) : kMeth1 c e p as (.ok x m) = kMeth2 c e p as x (der m x) m := id rfl
@[simp] theorem kMeth1_ex (c : Cfg) (e : Env) (p : Prim) (as : List C) (k_ : Nat) (m_ : Mem) : kMeth1 c e p as (.ex k_ m_) = .ex k_ m_ := id rfl
noncomputable def idxR (x y : D) (m : Mem) : R D := idxD x y m
theorem idxR_lst {xs : List D} {k : Int} {d : D} {m : Mem} {x : D} (h : der m x = some (.lst xs)) (h0 : dctOf m x = none) (h2 : at? xs k = some d) : idxR x (.int k) m = .ok d m := by simp [idxR, idxD, idxS, h, h0, h2]
theorem idxR_tup {xs : List D} {k : Int} {d : D} {m : Mem} (h2 : at? xs k = some d) : idxR (.tup xs) (.int k) m = .ok d m := by simp [idxR, idxD, idxS, dctOf, h2]
theorem idxR_lst' {xs : List D} {k : Int} {d : D} {m : Mem} (h2 : at? xs k = some d) : idxR (.lst xs) (.int k) m = .ok d m := by simp [idxR, idxD, idxS, dctOf, h2]
theorem idxR_lck {xs : List D} {k : Int} {d : D} {m : Mem} (h2 : at? xs k = some d) : idxR (.lck (.lst xs)) (.int k) m = .ok d m := by simp [idxR, idxD, idxS, dctOf, h2]
noncomputable def kIdx2 (x : D) (r : R D) : R D := r.bind fun y m => idxR x y m
@[simp] theorem kIdx2_ok (x : D) (y : D) (m : Mem) : kIdx2 x (.ok y m) = idxR x y m := id rfl
@[simp] theorem kIdx2_ex (x : D) (k_ : Nat) (m_ : Mem) : kIdx2 x (.ex k_ m_) = .ex k_ m_ := id rfl
noncomputable def kIdx1 (c : Cfg) (e : Env) (i : C) (r : R D) : R D := r.bind fun x m => kIdx2 x (ev c e i m)
@[simp] theorem kIdx1_ok (c : Cfg) (e : Env) (i : C) (x : D) (m : Mem) : kIdx1 c e i (.ok x m) = kIdx2 x (ev c e i m) := id rfl
@[simp] theorem kIdx1_ex (c : Cfg) (e : Env) (i : C) (k_ : Nat) (m_ : Mem) : kIdx1 c e i (.ex k_ m_) = .ex k_ m_ := id rfl
def slR (x : D) (i j : Option Int) (m : Mem) : R D := match der m x with
    | some (.lst xs) => .ok (.lst (sliceL xs i j)) m
    | some (.tup xs) => .ok (.tup (sliceL xs i j)) m
    | some (.str s) => .ok (.str ⟨(sliceL s.cps.toList i j).toArray⟩) m
    | _ => .no
@[simp] theorem slR_lst (xs : List D) (i j : Option Int) (m : Mem) : slR (.lst xs) i j m = .ok (.lst (sliceL xs i j)) m := id rfl
@[simp] theorem slR_tup (xs : List D) (i j : Option Int) (m : Mem) : slR (.tup xs) i j m = .ok (.tup (sliceL xs i j)) m := id rfl
def slrR (x : D) (j : Option Int) (m : Mem) : R D := match der m x with
    | some (.lst xs) => .ok (.lst (sliceR xs j)) m
    | some (.tup xs) => .ok (.tup (sliceR xs j)) m
    | _ => .no
@[simp] theorem slrR_lst (xs : List D) (j : Option Int) (m : Mem) : slrR (.lst xs) j m = .ok (.lst (sliceR xs j)) m := id rfl
@[simp] theorem slrR_tup (xs : List D) (j : Option Int) (m : Mem) : slrR (.tup xs) j m = .ok (.tup (sliceR xs j)) m := id rfl
noncomputable def kSl3 (x : D) (i : Option Int) (r : R (Option Int)) : R D := r.bind fun j m => slR x i j m
@[simp] theorem kSl3_ok (x : D) (i : Option Int) (j : (Option Int)) (m : Mem) : kSl3 x i (.ok j m) = slR x i j m := id rfl
@[simp] theorem kSl3_ex (x : D) (i : Option Int) (k_ : Nat) (m_ : Mem) : kSl3 x i (.ex k_ m_) = .ex k_ m_ := id rfl
noncomputable def kSl2 (c : Cfg) (e : Env) (hi : Option C) (x : D) (r : R (Option Int)) : R D := r.bind fun i m => kSl3 x i (evO c e hi m)
@[simp] theorem kSl2_ok (c : Cfg) (e : Env) (hi : Option C) (x : D) (i : (Option Int)) (m : Mem) : kSl2 c e hi x (.ok i m) = kSl3 x i (evO c e hi m) := id rfl
@[simp] theorem kSl2_ex (c : Cfg) (e : Env) (hi : Option C) (x : D) (k_ : Nat) (m_ : Mem) : kSl2 c e hi x (.ex k_ m_) = .ex k_ m_ := id rfl
noncomputable def kSl1 (c : Cfg) (e : Env) (lo hi : Option C) (r : R D) : R D := r.bind fun x m => kSl2 c e hi x (evO c e lo m)
@[simp] theorem kSl1_ok (c : Cfg) (e : Env) (lo hi : Option C) (x : D) (m : Mem) : kSl1 c e lo hi (.ok x m) = kSl2 c e hi x (evO c e lo m) := id rfl
@[simp] theorem kSl1_ex (c : Cfg) (e : Env) (lo hi : Option C) (k_ : Nat) (m_ : Mem) : kSl1 c e lo hi (.ex k_ m_) = .ex k_ m_ := id rfl
noncomputable def kSlr2 (x : D) (r : R (Option Int)) : R D := r.bind fun j m => slrR x j m
@[simp] theorem kSlr2_ok (x : D) (j : (Option Int)) (m : Mem) : kSlr2 x (.ok j m) = slrR x j m := id rfl
@[simp] theorem kSlr2_ex (x : D) (k_ : Nat) (m_ : Mem) : kSlr2 x (.ex k_ m_) = .ex k_ m_ := id rfl
noncomputable def kSlr1 (c : Cfg) (e : Env) (hi : Option C) (r : R D) : R D := r.bind fun x m => kSlr2 x (evO c e hi m)
@[simp] theorem kSlr1_ok (c : Cfg) (e : Env) (hi : Option C) (x : D) (m : Mem) : kSlr1 c e hi (.ok x m) = kSlr2 x (evO c e hi m) := id rfl
@[simp] theorem kSlr1_ex (c : Cfg) (e : Env) (hi : Option C) (k_ : Nat) (m_ : Mem) : kSlr1 c e hi (.ex k_ m_) = .ex k_ m_ := id rfl
noncomputable def lstR  (r : R (List D)) : R D := r.bind fun acc m => .ok (.lst acc) m
@[simp] theorem lstR_ok  (acc : (List D)) (m : Mem) : lstR  (.ok acc m) = .ok (.lst acc) m := id rfl
@[simp] theorem lstR_ex  (k_ : Nat) (m_ : Mem) : lstR  (.ex k_ m_) = .ex k_ m_ := id rfl
noncomputable def blR  (r : R Bool) : R D := r.bind fun b m => .ok (.bl b) m
@[simp] theorem blR_ok  (b : Bool) (m : Mem) : blR  (.ok b m) = .ok (.bl b) m := id rfl
@[simp] theorem blR_ex  (k_ : Nat) (m_ : Mem) : blR  (.ex k_ m_) = .ex k_ m_ := id rfl
noncomputable def kIt3 (acc : List D) (s : Option (D × Mem)) : R (List D) := match s with
            | some (z, m4) => if fits acc.length then .ok (acc ++ [z]) m4 else .no
            | none => .no
@[simp] theorem kIt3_some (acc : List D) (z : D) (m : Mem) (h : fits acc.length = true) : kIt3 acc (some (z, m)) = .ok (acc ++ [z]) m := by simp [kIt3, h]
noncomputable def kIt2 (acc : List D) (r : R D) : R (List D) := r.bind fun y m => kIt3 acc (settle y m)
@[simp] theorem kIt2_ok (acc : List D) (y : D) (m : Mem) : kIt2 acc (.ok y m) = kIt3 acc (settle y m) := id rfl
@[simp] theorem kIt2_ex (acc : List D) (k_ : Nat) (m_ : Mem) : kIt2 acc (.ex k_ m_) = .ex k_ m_ := id rfl
noncomputable def kItB (c : Cfg) (e : Env) (el : C) (acc : List D) (b : Bool) (m : Mem) : R (List D) := if b then kIt2 acc (ev c e el m) else .ok acc m
@[simp] theorem kItB_t (c : Cfg) (e : Env) (el : C) (acc : List D) (m : Mem) : kItB c e el acc true m = kIt2 acc (ev c e el m) := id rfl
@[simp] theorem kItB_f (c : Cfg) (e : Env) (el : C) (acc : List D) (m : Mem) : kItB c e el acc false m = .ok acc m := id rfl
noncomputable def kIt1 (c : Cfg) (e : Env) (el : C) (acc : List D) (r : R Bool) : R (List D) := r.bind fun b m => kItB c e el acc b m
@[simp] theorem kIt1_ok (c : Cfg) (e : Env) (el : C) (acc : List D) (b : Bool) (m : Mem) : kIt1 c e el acc (.ok b m) = kItB c e el acc b m := id rfl
@[simp] theorem kIt1_ex (c : Cfg) (e : Env) (el : C) (acc : List D) (k_ : Nat) (m_ : Mem) : kIt1 c e el acc (.ex k_ m_) = .ex k_ m_ := id rfl
noncomputable def itB (c : Cfg) (ifs : List C) (el : C) (acc : List D) (o : Option Env) (m : Mem) : R (List D) := match o with
  | none => .no
  | some e' => kIt1 c e' el acc (tests c e' ifs m)
@[simp] theorem itB_some (c : Cfg) (ifs : List C) (el : C) (acc : List D) (e' : Env) (m : Mem) : itB c ifs el acc (some e') m = kIt1 c e' el acc (tests c e' ifs m) := id rfl
noncomputable def itS (c : Cfg) (e : Env) (own : List Nat) (t : Tg) (ifs : List C) (el : C) (x : D) (acc : List D) (m : Mem) : R (List D) := itB c ifs el acc (bindT t x (wipeE e own)) m
theorem itS_def (c : Cfg) (e : Env) (own : List Nat) (t : Tg) (ifs : List C) (el : C) : itS c e own t ifs el = fun x acc m => match bindT t x (wipeE e own) with
        | none => .no
        | some e' => (tests c e' ifs m).bind fun b m2 => if b then (ev c e' el m2).bind fun y m3 => (match settle y m3 with
            | some (z, m4) => if fits acc.length then .ok (acc ++ [z]) m4 else .no
            | none => .no)
          else .ok acc m2 := by
  funext x acc m
  unfold itS itB
  split <;> rfl
noncomputable def kJtI (c : Cfg) (e' : Env) (own1 : List Nat) (t2 : Tg) (ifs2 : List C) (el : C) (acc : List D) (o : Option (List D)) (m : Mem) : R (List D) := match o with
            | none => .no
            | some ys => compL (itS c e' own1 t2 ifs2 el) ys acc m
@[simp] theorem kJtI_some (c : Cfg) (e' : Env) (own1 : List Nat) (t2 : Tg) (ifs2 : List C) (el : C) (acc ys : List D) (m : Mem) : kJtI c e' own1 t2 ifs2 el acc (some ys) m = compL (itS c e' own1 t2 ifs2 el) ys acc m := id rfl
noncomputable def kJt2 (c : Cfg) (e' : Env) (own1 : List Nat) (t2 : Tg) (k2 : IK) (ifs2 : List C) (el : C) (acc : List D) (r : R (List D)) : R (List D) := r.bind fun ds2 m => kJtI c e' own1 t2 ifs2 el acc (itemsOf k2 ds2 m) m
@[simp] theorem kJt2_ok (c : Cfg) (e' : Env) (own1 : List Nat) (t2 : Tg) (k2 : IK) (ifs2 : List C) (el : C) (acc : List D) (ds2 : (List D)) (m : Mem) : kJt2 c e' own1 t2 k2 ifs2 el acc (.ok ds2 m) = kJtI c e' own1 t2 ifs2 el acc (itemsOf k2 ds2 m) m := id rfl
@[simp] theorem kJt2_ex (c : Cfg) (e' : Env) (own1 : List Nat) (t2 : Tg) (k2 : IK) (ifs2 : List C) (el : C) (acc : List D) (k_ : Nat) (m_ : Mem) : kJt2 c e' own1 t2 k2 ifs2 el acc (.ex k_ m_) = .ex k_ m_ := id rfl
noncomputable def kJtB (c : Cfg) (e' : Env) (own1 : List Nat) (t2 : Tg) (k2 : IK) (its2 ifs2 : List C) (el : C) (acc : List D) (b : Bool) (m : Mem) : R (List D) := if b then kJt2 c e' own1 t2 k2 ifs2 el acc (evs c e' its2 m) else .ok acc m
@[simp] theorem kJtB_t (c : Cfg) (e' : Env) (own1 : List Nat) (t2 : Tg) (k2 : IK) (its2 ifs2 : List C) (el : C) (acc : List D) (m : Mem) : kJtB c e' own1 t2 k2 its2 ifs2 el acc true m = kJt2 c e' own1 t2 k2 ifs2 el acc (evs c e' its2 m) := id rfl
@[simp] theorem kJtB_f (c : Cfg) (e' : Env) (own1 : List Nat) (t2 : Tg) (k2 : IK) (its2 ifs2 : List C) (el : C) (acc : List D) (m : Mem) : kJtB c e' own1 t2 k2 its2 ifs2 el acc false m = .ok acc m := id rfl
noncomputable def kJt1 (c : Cfg) (e' : Env) (own1 : List Nat) (t2 : Tg) (k2 : IK) (its2 ifs2 : List C) (el : C) (acc : List D) (r : R Bool) : R (List D) := r.bind fun b m => kJtB c e' own1 t2 k2 its2 ifs2 el acc b m
@[simp] theorem kJt1_ok (c : Cfg) (e' : Env) (own1 : List Nat) (t2 : Tg) (k2 : IK) (its2 ifs2 : List C) (el : C) (acc : List D) (b : Bool) (m : Mem) : kJt1 c e' own1 t2 k2 its2 ifs2 el acc (.ok b m) = kJtB c e' own1 t2 k2 its2 ifs2 el acc b m := id rfl
@[simp] theorem kJt1_ex (c : Cfg) (e' : Env) (own1 : List Nat) (t2 : Tg) (k2 : IK) (its2 ifs2 : List C) (el : C) (acc : List D) (k_ : Nat) (m_ : Mem) : kJt1 c e' own1 t2 k2 its2 ifs2 el acc (.ex k_ m_) = .ex k_ m_ := id rfl
noncomputable def itB2 (c : Cfg) (own1 : List Nat) (ifs : List C) (t2 : Tg) (k2 : IK) (its2 ifs2 : List C) (el : C) (acc : List D) (o : Option Env) (m : Mem) : R (List D) := match o with
  | none => .no
  | some e' => kJt1 c e' own1 t2 k2 its2 ifs2 el acc (tests c e' ifs m)
@[simp] theorem itB2_some (c : Cfg) (own1 : List Nat) (ifs : List C) (t2 : Tg) (k2 : IK) (its2 ifs2 : List C) (el : C) (acc : List D) (e' : Env) (m : Mem) : itB2 c own1 ifs t2 k2 its2 ifs2 el acc (some e') m = kJt1 c e' own1 t2 k2 its2 ifs2 el acc (tests c e' ifs m) := id rfl
noncomputable def itS2 (c : Cfg) (e : Env) (own own1 : List Nat) (t : Tg) (ifs : List C) (t2 : Tg) (k2 : IK) (its2 : List C) (ifs2 : List C) (el : C) (x : D) (acc : List D) (m : Mem) : R (List D) := itB2 c own1 ifs t2 k2 its2 ifs2 el acc (bindT t x (wipeE e own)) m
theorem itS2_def (c : Cfg) (e : Env) (own own1 : List Nat) (t : Tg) (ifs : List C) (t2 : Tg) (k2 : IK) (its2 : List C) (ifs2 : List C) (el : C) : itS2 c e own own1 t ifs t2 k2 its2 ifs2 el = fun x acc m => match bindT t x (wipeE e own) with
        | none => .no
        | some e' => (tests c e' ifs m).bind fun b m2 => if b then (evs c e' its2 m2).bind fun ds2 m3 => (match itemsOf k2 ds2 m3 with
            | none => .no
            | some ys => compL (fun y acc m => match bindT t2 y (wipeE e' own1) with
              | none => .no
              | some e2 => (tests c e2 ifs2 m).bind fun b m2 => if b then (ev c e2 el m2).bind fun y m3 => (match settle y m3 with
                  | some (z, m4) => if fits acc.length then .ok (acc ++ [z]) m4 else .no
                  | none => .no)
                else .ok acc m2) ys acc m3)
          else .ok acc m2 := by
  funext x acc m
  unfold itS2 itB2
  split
  · rfl
  · simp only [kJt1, kJtB, kJt2, kJtI, itS_def]; try rfl
noncomputable def tsB (c : Cfg) (el : C) (o : Option Env) (m : Mem) : R Bool := match o with
  | none => .no
  | some e' => boolR (ev c e' el m)
@[simp] theorem tsB_some (c : Cfg) (el : C) (e' : Env) (m : Mem) : tsB c el (some e') m = boolR (ev c e' el m) := id rfl
noncomputable def tstS (c : Cfg) (e : Env) (own : List Nat) (t : Tg) (el : C) (x : D) (m : Mem) : R Bool := tsB c el (bindT t x (wipeE e own)) m
theorem tstS_def (c : Cfg) (e : Env) (own : List Nat) (t : Tg) (el : C) : tstS c e own t el = fun x m => match bindT t x (wipeE e own) with
        | none => .no
        | some e' => boolR (ev c e' el m) := by
  funext x m
  unfold tstS tsB
  split <;> rfl
theorem forS_ex : ∃ f : Cfg → Tg → List S → List D → Env → Mem → Out, f = fun c t b xs e m => forL t (fun e m => execs c b e m) xs e m := ⟨_, rfl⟩
noncomputable def forS : Cfg → Tg → List S → List D → Env → Mem → Out := Classical.choose forS_ex
theorem forS_eq (c : Cfg) (t : Tg) (b : List S) (xs : List D) (e : Env) (m : Mem) : forS c t b xs e m = forL t (fun e m => execs c b e m) xs e m := by
  rw [show forS = _ from Classical.choose_spec forS_ex]
theorem whlS_ex : ∃ f : Cfg → C → List S → Env → Mem → Out, f = fun c t b e m => whlL (fun e m => asBool (ev c e t m)) (fun e m => execs c b e m) c.W e m := ⟨_, rfl⟩
noncomputable def whlS : Cfg → C → List S → Env → Mem → Out := Classical.choose whlS_ex
theorem whlS_eq (c : Cfg) (t : C) (b : List S) (e : Env) (m : Mem) : whlS c t b e m = whlL (fun e m => asBool (ev c e t m)) (fun e m => execs c b e m) c.W e m := by
  rw [show whlS = _ from Classical.choose_spec whlS_ex]
theorem compS_ex : ∃ f : Cfg → Env → List Nat → Tg → List C → C → List D → Mem → R (List D), f = fun c e own t ifs el xs m => noEx (compL (itS c e own t ifs el) xs [] m) := ⟨_, rfl⟩
noncomputable def compS : Cfg → Env → List Nat → Tg → List C → C → List D → Mem → R (List D) := Classical.choose compS_ex
theorem compS_eq (c : Cfg) (e : Env) (own : List Nat) (t : Tg) (ifs : List C) (el : C) (xs : List D) (m : Mem) : compS c e own t ifs el xs m = noEx (compL (itS c e own t ifs el) xs [] m) := by
  rw [show compS = _ from Classical.choose_spec compS_ex]
theorem compS2_ex : ∃ f : Cfg → Env → List Nat → List Nat → Tg → List C → Tg → IK → List C → List C → C → List D → Mem → R (List D), f = fun c e own own1 t ifs t2 k2 its2 ifs2 el xs m => noEx (compL (itS2 c e own own1 t ifs t2 k2 its2 ifs2 el) xs [] m) := ⟨_, rfl⟩
noncomputable def compS2 : Cfg → Env → List Nat → List Nat → Tg → List C → Tg → IK → List C → List C → C → List D → Mem → R (List D) := Classical.choose compS2_ex
theorem compS2_eq (c : Cfg) (e : Env) (own own1 : List Nat) (t : Tg) (ifs : List C) (t2 : Tg) (k2 : IK) (its2 : List C) (ifs2 : List C) (el : C) (xs : List D) (m : Mem) : compS2 c e own own1 t ifs t2 k2 its2 ifs2 el xs m = noEx (compL (itS2 c e own own1 t ifs t2 k2 its2 ifs2 el) xs [] m) := by
  rw [show compS2 = _ from Classical.choose_spec compS2_ex]
theorem allS_ex : ∃ f : Cfg → Env → List Nat → Tg → C → List D → Mem → R Bool, f = fun c e own t el xs m => noEx (allL (tstS c e own t el) xs m) := ⟨_, rfl⟩
noncomputable def allS : Cfg → Env → List Nat → Tg → C → List D → Mem → R Bool := Classical.choose allS_ex
theorem allS_eq (c : Cfg) (e : Env) (own : List Nat) (t : Tg) (el : C) (xs : List D) (m : Mem) : allS c e own t el xs m = noEx (allL (tstS c e own t el) xs m) := by
  rw [show allS = _ from Classical.choose_spec allS_ex]
theorem anyS_ex : ∃ f : Cfg → Env → List Nat → Tg → C → List D → Mem → R Bool, f = fun c e own t el xs m => noEx (anyL (tstS c e own t el) xs m) := ⟨_, rfl⟩
noncomputable def anyS : Cfg → Env → List Nat → Tg → C → List D → Mem → R Bool := Classical.choose anyS_ex
theorem anyS_eq (c : Cfg) (e : Env) (own : List Nat) (t : Tg) (el : C) (xs : List D) (m : Mem) : anyS c e own t el xs m = noEx (anyL (tstS c e own t el) xs m) := by
  rw [show anyS = _ from Classical.choose_spec anyS_ex]
noncomputable def kCompI (c : Cfg) (e : Env) (own : List Nat) (t : Tg) (ifs : List C) (el : C) (o : Option (List D)) (m : Mem) : R D := match o with
    | none => .no
    | some xs => lstR (compS c e own t ifs el xs m)
@[simp] theorem kCompI_some (c : Cfg) (e : Env) (own : List Nat) (t : Tg) (ifs : List C) (el : C) (xs : List D) (m : Mem) : kCompI c e own t ifs el (some xs) m = lstR (compS c e own t ifs el xs m) := id rfl
noncomputable def kComp (c : Cfg) (e : Env) (own : List Nat) (t : Tg) (k : IK) (ifs : List C) (el : C) (r : R (List D)) : R D := r.bind fun ds m => kCompI c e own t ifs el (itemsOf k ds m) m
@[simp] theorem kComp_ok (c : Cfg) (e : Env) (own : List Nat) (t : Tg) (k : IK) (ifs : List C) (el : C) (ds : (List D)) (m : Mem) : kComp c e own t k ifs el (.ok ds m) = kCompI c e own t ifs el (itemsOf k ds m) m := id rfl
@[simp] theorem kComp_ex (c : Cfg) (e : Env) (own : List Nat) (t : Tg) (k : IK) (ifs : List C) (el : C) (k_ : Nat) (m_ : Mem) : kComp c e own t k ifs el (.ex k_ m_) = .ex k_ m_ := id rfl
noncomputable def kCompI2 (c : Cfg) (e : Env) (own own1 : List Nat) (t : Tg) (ifs : List C) (t2 : Tg) (k2 : IK) (its2 ifs2 : List C) (el : C) (o : Option (List D)) (m : Mem) : R D := match o with
    | none => .no
    | some xs => lstR (compS2 c e own own1 t ifs t2 k2 its2 ifs2 el xs m)
@[simp] theorem kCompI2_some (c : Cfg) (e : Env) (own own1 : List Nat) (t : Tg) (ifs : List C) (t2 : Tg) (k2 : IK) (its2 ifs2 : List C) (el : C) (xs : List D) (m : Mem) : kCompI2 c e own own1 t ifs t2 k2 its2 ifs2 el (some xs) m = lstR (compS2 c e own own1 t ifs t2 k2 its2 ifs2 el xs m) := id rfl
noncomputable def kComp2 (c : Cfg) (e : Env) (own own1 : List Nat) (t : Tg) (k : IK) (ifs : List C) (t2 : Tg) (k2 : IK) (its2 ifs2 : List C) (el : C) (r : R (List D)) : R D := r.bind fun ds m => kCompI2 c e own own1 t ifs t2 k2 its2 ifs2 el (itemsOf k ds m) m
@[simp] theorem kComp2_ok (c : Cfg) (e : Env) (own own1 : List Nat) (t : Tg) (k : IK) (ifs : List C) (t2 : Tg) (k2 : IK) (its2 ifs2 : List C) (el : C) (ds : (List D)) (m : Mem) : kComp2 c e own own1 t k ifs t2 k2 its2 ifs2 el (.ok ds m) = kCompI2 c e own own1 t ifs t2 k2 its2 ifs2 el (itemsOf k ds m) m := id rfl
@[simp] theorem kComp2_ex (c : Cfg) (e : Env) (own own1 : List Nat) (t : Tg) (k : IK) (ifs : List C) (t2 : Tg) (k2 : IK) (its2 ifs2 : List C) (el : C) (k_ : Nat) (m_ : Mem) : kComp2 c e own own1 t k ifs t2 k2 its2 ifs2 el (.ex k_ m_) = .ex k_ m_ := id rfl
noncomputable def kAllI (c : Cfg) (e : Env) (own : List Nat) (t : Tg) (el : C) (o : Option (List D)) (m : Mem) : R D := match o with
    | none => .no
    | some xs => blR (allS c e own t el xs m)
@[simp] theorem kAllI_some (c : Cfg) (e : Env) (own : List Nat) (t : Tg) (el : C) (xs : List D) (m : Mem) : kAllI c e own t el (some xs) m = blR (allS c e own t el xs m) := id rfl
noncomputable def kAll (c : Cfg) (e : Env) (own : List Nat) (t : Tg) (k : IK) (el : C) (r : R (List D)) : R D := r.bind fun ds m => kAllI c e own t el (itemsOf k ds m) m
@[simp] theorem kAll_ok (c : Cfg) (e : Env) (own : List Nat) (t : Tg) (k : IK) (el : C) (ds : (List D)) (m : Mem) : kAll c e own t k el (.ok ds m) = kAllI c e own t el (itemsOf k ds m) m := id rfl
@[simp] theorem kAll_ex (c : Cfg) (e : Env) (own : List Nat) (t : Tg) (k : IK) (el : C) (k_ : Nat) (m_ : Mem) : kAll c e own t k el (.ex k_ m_) = .ex k_ m_ := id rfl
noncomputable def kAnyI (c : Cfg) (e : Env) (own : List Nat) (t : Tg) (el : C) (o : Option (List D)) (m : Mem) : R D := match o with
    | none => .no
    | some xs => blR (anyS c e own t el xs m)
@[simp] theorem kAnyI_some (c : Cfg) (e : Env) (own : List Nat) (t : Tg) (el : C) (xs : List D) (m : Mem) : kAnyI c e own t el (some xs) m = blR (anyS c e own t el xs m) := id rfl
noncomputable def kAny (c : Cfg) (e : Env) (own : List Nat) (t : Tg) (k : IK) (el : C) (r : R (List D)) : R D := r.bind fun ds m => kAnyI c e own t el (itemsOf k ds m) m
@[simp] theorem kAny_ok (c : Cfg) (e : Env) (own : List Nat) (t : Tg) (k : IK) (el : C) (ds : (List D)) (m : Mem) : kAny c e own t k el (.ok ds m) = kAnyI c e own t el (itemsOf k ds m) m := id rfl
@[simp] theorem kAny_ex (c : Cfg) (e : Env) (own : List Nat) (t : Tg) (k : IK) (el : C) (k_ : Nat) (m_ : Mem) : kAny c e own t k el (.ex k_ m_) = .ex k_ m_ := id rfl
noncomputable def kEvs2 (x : D) (r : R (List D)) : R (List D) := r.bind fun xs m => .ok (x :: xs) m
@[simp] theorem kEvs2_ok (x : D) (xs : (List D)) (m : Mem) : kEvs2 x (.ok xs m) = .ok (x :: xs) m := id rfl
@[simp] theorem kEvs2_ex (x : D) (k_ : Nat) (m_ : Mem) : kEvs2 x (.ex k_ m_) = .ex k_ m_ := id rfl
noncomputable def kEvs1 (c : Cfg) (e : Env) (r_ : List C) (r : R D) : R (List D) := r.bind fun x m => kEvs2 x (evs c e r_ m)
@[simp] theorem kEvs1_ok (c : Cfg) (e : Env) (r_ : List C) (x : D) (m : Mem) : kEvs1 c e r_ (.ok x m) = kEvs2 x (evs c e r_ m) := id rfl
@[simp] theorem kEvs1_ex (c : Cfg) (e : Env) (r_ : List C) (k_ : Nat) (m_ : Mem) : kEvs1 c e r_ (.ex k_ m_) = .ex k_ m_ := id rfl
noncomputable def kEvD1 (c : Cfg) (e : Env) (r_ : List C) (r : R D) : R (List D) := r.bind fun x m => kEvs2 x (evD c e r_ m)
@[simp] theorem kEvD1_ok (c : Cfg) (e : Env) (r_ : List C) (x : D) (m : Mem) : kEvD1 c e r_ (.ok x m) = kEvs2 x (evD c e r_ m) := id rfl
@[simp] theorem kEvD1_ex (c : Cfg) (e : Env) (r_ : List C) (k_ : Nat) (m_ : Mem) : kEvD1 c e r_ (.ex k_ m_) = .ex k_ m_ := id rfl
noncomputable def kStar3 (xs : List D) (r : R (List D)) : R (List D) := r.bind fun ys m => .ok (xs ++ ys) m
@[simp] theorem kStar3_ok (xs : List D) (ys : (List D)) (m : Mem) : kStar3 xs (.ok ys m) = .ok (xs ++ ys) m := id rfl
@[simp] theorem kStar3_ex (xs : List D) (k_ : Nat) (m_ : Mem) : kStar3 xs (.ex k_ m_) = .ex k_ m_ := id rfl
noncomputable def kStar2 (c : Cfg) (e : Env) (r_ : List C) (o : Option (List D)) (m : Mem) : R (List D) := match o with
    | some xs => kStar3 xs (evD c e r_ m)
    | none => .no
@[simp] theorem kStar2_some (c : Cfg) (e : Env) (r_ : List C) (xs : List D) (m : Mem) : kStar2 c e r_ (some xs) m = kStar3 xs (evD c e r_ m) := id rfl
noncomputable def kStar1 (c : Cfg) (e : Env) (r_ : List C) (r : R D) : R (List D) := r.bind fun x m => kStar2 c e r_ (seqOf m x) m
@[simp] theorem kStar1_ok (c : Cfg) (e : Env) (r_ : List C) (x : D) (m : Mem) : kStar1 c e r_ (.ok x m) = kStar2 c e r_ (seqOf m x) m := id rfl
@[simp] theorem kStar1_ex (c : Cfg) (e : Env) (r_ : List C) (k_ : Nat) (m_ : Mem) : kStar1 c e r_ (.ex k_ m_) = .ex k_ m_ := id rfl
noncomputable def evOR (x : D) (m : Mem) : R (Option Int) := match x with
    | .int i => if small64 i then .ok (some i) m else .no
    | _ => .no
@[simp] theorem evOR_int (i : Int) (m : Mem) (h : small64 i = true) : evOR (.int i) m = .ok (some i) m := by simp [evOR, h]
noncomputable def kEvO  (r : R D) : R (Option Int) := r.bind fun x m => evOR x m
@[simp] theorem kEvO_ok  (x : D) (m : Mem) : kEvO  (.ok x m) = evOR x m := id rfl
@[simp] theorem kEvO_ex  (k_ : Nat) (m_ : Mem) : kEvO  (.ex k_ m_) = .ex k_ m_ := id rfl
noncomputable def kTstB (c : Cfg) (e : Env) (r_ : List C) (b : Bool) (m : Mem) : R Bool := if b then tests c e r_ m else .ok false m
@[simp] theorem kTstB_t (c : Cfg) (e : Env) (r_ : List C) (m : Mem) : kTstB c e r_ true m = tests c e r_ m := id rfl
@[simp] theorem kTstB_f (c : Cfg) (e : Env) (r_ : List C) (m : Mem) : kTstB c e r_ false m = .ok false m := id rfl
noncomputable def kTst (c : Cfg) (e : Env) (r_ : List C) (r : R Bool) : R Bool := r.bind fun b m => kTstB c e r_ b m
@[simp] theorem kTst_ok (c : Cfg) (e : Env) (r_ : List C) (b : Bool) (m : Mem) : kTst c e r_ (.ok b m) = kTstB c e r_ b m := id rfl
@[simp] theorem kTst_ex (c : Cfg) (e : Env) (r_ : List C) (k_ : Nat) (m_ : Mem) : kTst c e r_ (.ex k_ m_) = .ex k_ m_ := id rfl
section
variable (c : Cfg) (e : Env) (m : Mem)
@[simp] theorem ev_var (i : Nat) : ev c e (.var i) m = slot e i m := by rw [ev] <;> exact id rfl
@[simp] theorem ev_lit (d : D) : ev c e (.lit d) m = .ok d m := by rw [ev] <;> exact id rfl
@[simp] theorem ev_op (o : Bop) (a b : C) : ev c e (.op o a b) m = kOp1 c e o b (ev c e a m) := by rw [ev] <;> exact id rfl
@[simp] theorem ev_neg (a : C) : ev c e (.neg a) m = kNeg (ev c e a m) := by rw [ev] <;> exact id rfl
@[simp] theorem ev_not (a : C) : ev c e (.not a) m = kNot (asBool (ev c e a m)) := by rw [ev] <;> exact id rfl
@[simp] theorem ev_and (a b : C) : ev c e (.and a b) m = kAnd c e b (ev c e a m) := by rw [ev] <;> exact id rfl
@[simp] theorem ev_or (a b : C) : ev c e (.or a b) m = kOr c e b (ev c e a m) := by rw [ev] <;> exact id rfl
@[simp] theorem ev_ite (t a b : C) : ev c e (.ite t a b) m = kIte c e a b (asBool (ev c e t m)) := by rw [ev] <;> exact id rfl
@[simp] theorem ev_chn (o1 o2 : Bop) (a b d : C) : ev c e (.chn o1 o2 a b d) m = kChn1 c e o1 o2 b d (ev c e a m) := by
  rw [ev]; unfold kChn1 kChn2 kChn3; congr 1; funext x m1; congr 1; funext y m2
  unfold opR
  cases h : op2 o1 x y m2 with
  | none => rfl
  | some w => cases w <;> first | rfl | (rename_i b; cases b <;> first | rfl | (simp only [R.bind_ok, chnB, kOp2]; congr 1; funext z m3; unfold opR; cases op2 o2 y z m3 <;> rfl))
@[simp] theorem ev_tup (as : List C) : ev c e (.tup as) m = dispT (evD c e as m) := by rw [ev] <;> exact id rfl
@[simp] theorem ev_lst (as : List C) : ev c e (.lst as) m = dispL (evD c e as m) := by rw [ev] <;> exact id rfl
@[simp] theorem ev_mut (a : C) : ev c e (.mut a) m = kMut (ev c e a m) := by rw [ev] <;> exact id rfl
@[simp] theorem frzR_bl (m m' : Mem) (b : Bool) : frzR m (.ok (.bl b) m') = .ok (.bl b) m := id rfl
@[simp] theorem ev_frz (is : List Nat) (a : C) : ev c e (.frz is a) m = frzR m (ev c (thawE is m e) a []) := by rw [ev]
@[simp] theorem ev_dkeys (a : C) : ev c e (.dkeys a) m = (ev c e a m).bind fun x m1 => lockD x m1 := by rw [ev]
@[simp] theorem ev_deq (a b d g : C) : ev c e (.deq a b d g) m = (ev c e a m).bind fun x m1 => (ev c e b m1).bind fun y m2 => deqR x y fun i j => (ev c e d m2).bind fun z m3 => (ev c e g m3).bind fun w m4 => deqB i j z w m4 := by rw [ev]
@[simp] theorem ev_dnew : ev c e .dnew m = .ok (.ref m.length) (m ++ [.dtp []]) := by rw [ev]
@[simp] theorem ev_call (f : Nat) (as : List C) : ev c e (.call f as) m = kCall c f (evs c e as m) := by rw [ev] <;> exact id rfl
@[simp] theorem ev_prim (p : Prim) (as : List C) : ev c e (.prim p as) m = kPrim c p (evs c e as m) := by rw [ev] <;> exact id rfl
@[simp] theorem ev_meth (p : Prim) (o : C) (as : List C) : ev c e (.meth p o as) m = kMeth1 c e p as (ev c e o m) := by rw [ev] <;> exact id rfl
@[simp] theorem ev_idx (a i : C) : ev c e (.idx a i) m = kIdx1 c e i (ev c e a m) := by rw [ev] <;> exact id rfl
@[simp] theorem ev_sl (a : C) (lo hi : Option C) : ev c e (.sl a lo hi) m = kSl1 c e lo hi (ev c e a m) := by rw [ev] <;> exact id rfl
@[simp] theorem ev_slr (a : C) (hi : Option C) : ev c e (.slr a hi) m = kSlr1 c e hi (ev c e a m) := by rw [ev] <;> exact id rfl
@[simp] theorem ev_comp' (own : List Nat) (t : Tg) (k : IK) (its ifs : List C) (el : C) : ev c e (.comp own t k its ifs el) m = kComp c e own t k ifs el (evs c e its m) := by
  rw [ev]; simp only [kComp, kCompI, compS_eq, itS_def]; rfl
@[simp] theorem ev_comp2' (own own1 : List Nat) (t : Tg) (k : IK) (its ifs : List C) (t2 : Tg) (k2 : IK) (its2 ifs2 : List C) (el : C) : ev c e (.comp2 own own1 t k its ifs t2 k2 its2 ifs2 el) m = kComp2 c e own own1 t k ifs t2 k2 its2 ifs2 el (evs c e its m) := by
  rw [ev]; simp only [kComp2, kCompI2, compS2_eq, itS2_def]; rfl
@[simp] theorem ev_all' (own : List Nat) (t : Tg) (k : IK) (its : List C) (el : C) : ev c e (.all own t k its el) m = kAll c e own t k el (evs c e its m) := by
  rw [ev]; simp only [kAll, kAllI, allS_eq, tstS_def]; rfl
@[simp] theorem ev_any' (own : List Nat) (t : Tg) (k : IK) (its : List C) (el : C) : ev c e (.any own t k its el) m = kAny c e own t k el (evs c e its m) := by
  rw [ev]; simp only [kAny, kAnyI, anyS_eq, tstS_def]; rfl
@[simp] theorem evs_nil : evs c e [] m = .ok [] m := by rw [evs]
@[simp] theorem evs_cons (a : C) (r : List C) : evs c e (a :: r) m = kEvs1 c e r (ev c e a m) := by rw [evs] <;> exact id rfl
def isStar : C → Bool
  | .star _ => true
  | _ => false
@[simp] theorem isStar_var (i : Nat) : isStar (.var i) = false := id rfl
@[simp] theorem isStar_lit (d : D) : isStar (.lit d) = false := id rfl
@[simp] theorem isStar_op (o : Bop) (a b : C) : isStar (.op o a b) = false := id rfl
@[simp] theorem isStar_neg (a : C) : isStar (.neg a) = false := id rfl
@[simp] theorem isStar_not (a : C) : isStar (.not a) = false := id rfl
@[simp] theorem isStar_and (a b : C) : isStar (.and a b) = false := id rfl
@[simp] theorem isStar_or (a b : C) : isStar (.or a b) = false := id rfl
@[simp] theorem isStar_ite (t a b : C) : isStar (.ite t a b) = false := id rfl
@[simp] theorem isStar_chn (o1 o2 : Bop) (a b d : C) : isStar (.chn o1 o2 a b d) = false := id rfl
@[simp] theorem isStar_tup (as : List C) : isStar (.tup as) = false := id rfl
@[simp] theorem isStar_lst (as : List C) : isStar (.lst as) = false := id rfl
@[simp] theorem isStar_mut (a : C) : isStar (.mut a) = false := id rfl
@[simp] theorem isStar_call (f : Nat) (as : List C) : isStar (.call f as) = false := id rfl
@[simp] theorem isStar_prim (p : Prim) (as : List C) : isStar (.prim p as) = false := id rfl
@[simp] theorem isStar_meth (p : Prim) (o : C) (as : List C) : isStar (.meth p o as) = false := id rfl
@[simp] theorem isStar_idx (a i : C) : isStar (.idx a i) = false := id rfl
@[simp] theorem isStar_sl (a : C) (lo hi : Option C) : isStar (.sl a lo hi) = false := id rfl
@[simp] theorem isStar_slr (a : C) (hi : Option C) : isStar (.slr a hi) = false := id rfl
@[simp] theorem isStar_comp (own : List Nat) (t : Tg) (k : IK) (its ifs : List C) (e : C) : isStar (.comp own t k its ifs e) = false := id rfl
@[simp] theorem isStar_comp2 (own own1 : List Nat) (t : Tg) (k : IK) (its ifs : List C) (t2 : Tg) (k2 : IK) (its2 ifs2 : List C) (e : C) : isStar (.comp2 own own1 t k its ifs t2 k2 its2 ifs2 e) = false := id rfl
@[simp] theorem isStar_all (own : List Nat) (t : Tg) (k : IK) (its : List C) (e : C) : isStar (.all own t k its e) = false := id rfl
@[simp] theorem isStar_any (own : List Nat) (t : Tg) (k : IK) (its : List C) (e : C) : isStar (.any own t k its e) = false := id rfl
@[simp] theorem isStar_frz (is : List Nat) (a : C) : isStar (.frz is a) = false := id rfl
@[simp] theorem isStar_dkeys (a : C) : isStar (.dkeys a) = false := id rfl
@[simp] theorem isStar_dnew : isStar .dnew = false := id rfl
@[simp] theorem isStar_dnew1 (k v : C) : isStar (.dnew1 k v) = false := id rfl
@[simp] theorem evD_nil : evD c e [] m = .ok [] m := by rw [evD]
@[simp] theorem evD_star (a : C) (r : List C) : evD c e (.star a :: r) m = kStar1 c e r (ev c e a m) := by rw [evD] <;> exact id rfl
@[simp] theorem evD_cons' (a : C) (r : List C) (h : isStar a = false) : evD c e (a :: r) m = kEvD1 c e r (ev c e a m) := by
  cases a <;> first | (rw [evD]; exact id rfl; intro _ h; cases h) | (cases h)
@[simp] theorem evO_none : evO c e none m = .ok none m := by rw [evO]
@[simp] theorem evO_some (a : C) : evO c e (some a) m = kEvO (ev c e a m) := by rw [evO] <;> exact id rfl
@[simp] theorem tests_nil' : tests c e [] m = .ok true m := by rw [tests]
@[simp] theorem tests_cons (a : C) (r : List C) : tests c e (a :: r) m = kTst c e r (asBool (ev c e a m)) := by rw [tests] <;> exact id rfl
end
def asgO (t : Tg) (x : D) (e : Env) (m1 : Mem) : Out := match bindT t x e with
    | some e' => .nx e' m1
    | none => .no
@[simp] theorem asgO_nm (i : Nat) (x : D) (e : Env) (m : Mem) : asgO (.nm i) x e m = if i < e.length then .nx (e.set i (some x)) m else .no := by
  simp only [asgO, bindT]; split <;> rename_i h <;> split at h <;> simp_all
noncomputable def kAsg (t : Tg) (e : Env) (r : R D) : Out := r.out e fun x m => asgO t x e m
@[simp] theorem kAsg_ok (t : Tg) (e : Env) (x : D) (m : Mem) : kAsg t e (.ok x m) = asgO t x e m := id rfl
@[simp] theorem kAsg_ex (t : Tg) (e : Env) (k_ : Nat) (m_ : Mem) : kAsg t e (.ex k_ m_) = .ex k_ e m_ := id rfl
noncomputable def parO (is : List Nat) (ds : List D) (e : Env) (m : Mem) : Out := match bindTs (is.map Tg.nm) ds e with
    | some e' => .nx e' m
    | none => .no
@[simp] theorem parO_nil (e : Env) (m : Mem) : parO [] [] e m = .nx e m := id rfl
@[simp] theorem parO_cons (i : Nat) (is : List Nat) (d : D) (ds : List D) (e : Env) (m : Mem) (h : i < e.length) : parO (i :: is) (d :: ds) e m = parO is ds (e.set i (some d)) m := by
  simp [parO, bindTs, bindT, h]
noncomputable def kPar (is : List Nat) (e : Env) (r : R (List D)) : Out := r.out e fun ds m => parO is ds e m
@[simp] theorem kPar_ok (is : List Nat) (e : Env) (ds : (List D)) (m : Mem) : kPar is e (.ok ds m) = parO is ds e m := id rfl
@[simp] theorem kPar_ex (is : List Nat) (e : Env) (k_ : Nat) (m_ : Mem) : kPar is e (.ex k_ m_) = .ex k_ e m_ := id rfl
noncomputable def setO (e : Env) (x y v : D) (m : Mem) : Out := setD e x y v m
theorem setO_ok {e : Env} {l : Nat} {k : Int} {v v' : D} {m m4 : Mem} {xs : List D} (h0 : dctAt m (.ref l) = none) (h1 : settle v m = some (v', m4)) (h2 : cellL m4 l = some xs) (h3 : 0 ≤ k) (h4 : k.toNat < xs.length) : setO e (.ref l) (.int k) v m = .nx e (m4.set l (.lst (xs.set k.toNat v'))) := by
  simp [setO, setD, h0, setS, h1, h2, h3, h4]
noncomputable def kSet3 (e : Env) (v x : D) (r : R D) : Out := r.out e fun y m => setO e x y v m
@[simp] theorem kSet3_ok (e : Env) (v x : D) (y : D) (m : Mem) : kSet3 e v x (.ok y m) = setO e x y v m := id rfl
@[simp] theorem kSet3_ex (e : Env) (v x : D) (k_ : Nat) (m_ : Mem) : kSet3 e v x (.ex k_ m_) = .ex k_ e m_ := id rfl
noncomputable def kSet2 (c : Cfg) (e : Env) (i : C) (v : D) (r : R D) : Out := r.out e fun x m => kSet3 e v x (ev c e i m)
@[simp] theorem kSet2_ok (c : Cfg) (e : Env) (i : C) (v : D) (x : D) (m : Mem) : kSet2 c e i v (.ok x m) = kSet3 e v x (ev c e i m) := id rfl
@[simp] theorem kSet2_ex (c : Cfg) (e : Env) (i : C) (v : D) (k_ : Nat) (m_ : Mem) : kSet2 c e i v (.ex k_ m_) = .ex k_ e m_ := id rfl
noncomputable def kSet1 (c : Cfg) (e : Env) (o i : C) (r : R D) : Out := r.out e fun v m => kSet2 c e i v (ev c e o m)
@[simp] theorem kSet1_ok (c : Cfg) (e : Env) (o i : C) (v : D) (m : Mem) : kSet1 c e o i (.ok v m) = kSet2 c e i v (ev c e o m) := id rfl
@[simp] theorem kSet1_ex (c : Cfg) (e : Env) (o i : C) (k_ : Nat) (m_ : Mem) : kSet1 c e o i (.ex k_ m_) = .ex k_ e m_ := id rfl
noncomputable def kAug3 (e : Env) (i : Nat) (r : R D) : Out := r.out e fun d m => .nx (e.set i (some d)) m
@[simp] theorem kAug3_ok (e : Env) (i : Nat) (d : D) (m : Mem) : kAug3 e i (.ok d m) = .nx (e.set i (some d)) m := id rfl
@[simp] theorem kAug3_ex (e : Env) (i : Nat) (k_ : Nat) (m_ : Mem) : kAug3 e i (.ex k_ m_) = .ex k_ e m_ := id rfl
noncomputable def augR (o : Bop) (x y : D) (m : Mem) : R D := match x, y with
  | .int i, .int j => opR o (.int i) (.int j) m
  | _, _ => .no
@[simp] theorem augR_int (o : Bop) (i j : Int) (m : Mem) : augR o (.int i) (.int j) m = opR o (.int i) (.int j) m := id rfl
noncomputable def kAug2 (e : Env) (i : Nat) (o : Bop) (x : D) (r : R D) : Out := r.out e fun y m => kAug3 e i (augR o x y m)
@[simp] theorem kAug2_ok (e : Env) (i : Nat) (o : Bop) (x : D) (y : D) (m : Mem) : kAug2 e i o x (.ok y m) = kAug3 e i (augR o x y m) := id rfl
@[simp] theorem kAug2_ex (e : Env) (i : Nat) (o : Bop) (x : D) (k_ : Nat) (m_ : Mem) : kAug2 e i o x (.ex k_ m_) = .ex k_ e m_ := id rfl
noncomputable def kAug1 (c : Cfg) (e : Env) (i : Nat) (o : Bop) (a : C) (r : R D) : Out := r.out e fun x m => kAug2 e i o x (ev c e a m)
@[simp] theorem kAug1_ok (c : Cfg) (e : Env) (i : Nat) (o : Bop) (a : C) (x : D) (m : Mem) : kAug1 c e i o a (.ok x m) = kAug2 e i o x (ev c e a m) := id rfl
@[simp] theorem kAug1_ex (c : Cfg) (e : Env) (i : Nat) (o : Bop) (a : C) (k_ : Nat) (m_ : Mem) : kAug1 c e i o a (.ex k_ m_) = .ex k_ e m_ := id rfl
noncomputable def kExpr (e : Env) (r : R D) : Out := r.out e fun x m => .nx e m
@[simp] theorem kExpr_ok (e : Env) (x : D) (m : Mem) : kExpr e (.ok x m) = .nx e m := id rfl
@[simp] theorem kExpr_ex (e : Env) (k_ : Nat) (m_ : Mem) : kExpr e (.ex k_ m_) = .ex k_ e m_ := id rfl
noncomputable def kRet (e : Env) (r : R D) : Out := r.out e fun x m => .rt x m
@[simp] theorem kRet_ok (e : Env) (x : D) (m : Mem) : kRet e (.ok x m) = .rt x m := id rfl
@[simp] theorem kRet_ex (e : Env) (k_ : Nat) (m_ : Mem) : kRet e (.ex k_ m_) = .ex k_ e m_ := id rfl
noncomputable def kIffB (c : Cfg) (a b : List S) (e : Env) (k : Bool) (m : Mem) : Out := if k then execs c a e m else execs c b e m
@[simp] theorem kIffB_t (c : Cfg) (a b : List S) (e : Env) (m : Mem) : kIffB c a b e true m = execs c a e m := id rfl
@[simp] theorem kIffB_f (c : Cfg) (a b : List S) (e : Env) (m : Mem) : kIffB c a b e false m = execs c b e m := id rfl
noncomputable def kIff (c : Cfg) (a b : List S) (e : Env) (r : R Bool) : Out := r.out e fun k m => kIffB c a b e k m
@[simp] theorem kIff_ok (c : Cfg) (a b : List S) (e : Env) (k : Bool) (m : Mem) : kIff c a b e (.ok k m) = kIffB c a b e k m := id rfl
@[simp] theorem kIff_ex (c : Cfg) (a b : List S) (e : Env) (k_ : Nat) (m_ : Mem) : kIff c a b e (.ex k_ m_) = .ex k_ e m_ := id rfl
noncomputable def kForI (c : Cfg) (t : Tg) (b : List S) (e : Env) (o : Option (List D)) (m : Mem) : Out := match o with
    | none => .no
    | some xs => forS c t b xs e m
@[simp] theorem kForI_some (c : Cfg) (t : Tg) (b : List S) (e : Env) (xs : List D) (m : Mem) : kForI c t b e (some xs) m = forS c t b xs e m := id rfl
noncomputable def kFor (c : Cfg) (t : Tg) (b : List S) (e : Env) (k : IK) (r : R (List D)) : Out := r.out e fun ds m => kForI c t b e (itemsOf k ds m) m
@[simp] theorem kFor_ok (c : Cfg) (t : Tg) (b : List S) (e : Env) (k : IK) (ds : (List D)) (m : Mem) : kFor c t b e k (.ok ds m) = kForI c t b e (itemsOf k ds m) m := id rfl
@[simp] theorem kFor_ex (c : Cfg) (t : Tg) (b : List S) (e : Env) (k : IK) (k_ : Nat) (m_ : Mem) : kFor c t b e k (.ex k_ m_) = .ex k_ e m_ := id rfl
section
variable (c : Cfg) (e : Env) (m : Mem)
@[simp] theorem exec_asg (t : Tg) (a : C) : exec c (.asg t a) e m = kAsg t e (ev c e a m) := by rw [exec] <;> exact id rfl
@[simp] theorem exec_par (is : List Nat) (as : List C) : exec c (.par is as) e m = kPar is e (evs c e as m) := by rw [exec] <;> exact id rfl
@[simp] theorem exec_setix (o i a : C) : exec c (.setix o i a) e m = kSet1 c e o i (ev c e a m) := by rw [exec] <;> exact id rfl
@[simp] theorem exec_aug (i : Nat) (o : Bop) (a : C) : exec c (.aug i o a) e m = kAug1 c e i o a (slot e i m) := by
  rw [exec]; unfold slot kAug1 kAug2 kAug3
  cases h : e[i]? with
  | none => rfl
  | some q => cases q with
    | none => rfl
    | some x =>
      simp only [R.out_ok]
      congr 1; funext y m1
      cases x <;> first | rfl | skip
      cases y <;> first | rfl | skip
      simp only [augD, augR, opR]
      split <;> simp_all
@[simp] theorem exec_expr (a : C) : exec c (.expr a) e m = kExpr e (ev c e a m) := by rw [exec] <;> exact id rfl
@[simp] theorem exec_ret (a : C) : exec c (.ret a) e m = kRet e (ev c e a m) := by rw [exec] <;> exact id rfl
@[simp] theorem exec_iff (t : C) (a b : List S) : exec c (.iff t a b) e m = kIff c a b e (asBool (ev c e t m)) := by rw [exec] <;> exact id rfl
@[simp] theorem exec_whl (t : C) (b : List S) : exec c (.whl t b) e m = whlS c t b e m := by rw [exec]; simp only [whlS_eq]
@[simp] theorem exec_for (t : Tg) (k : IK) (its : List C) (b : List S) : exec c (.for_ t k its b) e m = kFor c t b e k (evs c e its m) := by rw [exec]; simp only [kFor, kForI, forS_eq]; try rfl
@[simp] theorem exec_brk : exec c .brk e m = .bk e m := by rw [exec]
@[simp] theorem exec_cnt : exec c .cnt e m = .ct e m := by rw [exec]
@[simp] theorem exec_pass : exec c .pass e m = .nx e m := by rw [exec]
@[simp] theorem exec_raise (k : Nat) : exec c (.raise k) e m = .ex k e m := by rw [exec]
def catchW (w : Option D) (s : Bool) (q : Nat) (e : Env) (m : Mem) : Out := match w with
      | some d => if s then .rt d m else .ex q e m
      | none => .no
@[simp] theorem catchW_t (d : D) (q : Nat) (e : Env) (m : Mem) : catchW (some d) true q e m = .rt d m := id rfl
@[simp] theorem catchW_f (d : D) (q : Nat) (e : Env) (m : Mem) : catchW (some d) false q e m = .ex q e m := id rfl
def catch_ (c : Cfg) (k : Nat) (o : Out) : Out := match o with
    | .ex q e' m1 => (match c.word q with
      | some d => if c.sub q k then .rt d m1 else .ex q e' m1
      | none => .no)
    | o => o
@[simp] theorem exec_try (b : List S) (k : Nat) : exec c (.tryRet b k) e m = catch_ c k (execs c b e m) := by rw [exec]; rfl
@[simp] theorem catch_nx (k : Nat) : catch_ c k (.nx e m) = .nx e m := id rfl
@[simp] theorem catch_rt (k : Nat) (d : D) : catch_ c k (.rt d m) = .rt d m := id rfl
@[simp] theorem catch_ex (k q : Nat) : catch_ c k (.ex q e m) = (match c.word q with
      | some d => if c.sub q k then .rt d m else .ex q e m
      | none => .no) := rfl
@[simp] theorem execs_nil : execs c [] e m = .nx e m := by rw [execs]
@[simp] theorem execs_cons (s : S) (r : List S) : execs c (s :: r) e m = thn c r (exec c s e m) := by rw [execs]; rfl
end
@[simp] theorem opR_eq_int (i j : Int) (m : Mem) : opR .eq (.int i) (.int j) m = .ok (.bl (i == j)) m := opR_some (op_eq_int i j m)
@[simp] theorem opR_ne_int (i j : Int) (m : Mem) : opR .ne (.int i) (.int j) m = .ok (.bl (i != j)) m := opR_some (op_ne_int i j m)
@[simp] theorem opR_add_int (i j : Int) (m : Mem) : opR .add (.int i) (.int j) m = .ok (.int (i + j)) m := id rfl
@[simp] theorem opR_sub_int (i j : Int) (m : Mem) : opR .sub (.int i) (.int j) m = .ok (.int (i - j)) m := id rfl
theorem opR_mul_int {i j : Int} (m : Mem) (h : small64 i = true ∨ small64 j = true) : opR .mul (.int i) (.int j) m = .ok (.int (i * j)) m := opR_some (op_mul_int m h)
@[simp] theorem opR_mod_int {i j : Int} (m : Mem) (h : j ≠ 0) : opR .mod (.int i) (.int j) m = .ok (.int (i.fmod j)) m := opR_some (op_mod_int m h)
@[simp] theorem opR_fdiv_int {i j : Int} (m : Mem) (h : j ≠ 0) (h2 : j.natAbs < 1073741824) : opR .fdiv (.int i) (.int j) m = .ok (.int (i.fdiv j)) m := opR_some (op_fdiv_int m h h2)
@[simp] theorem opR_lt_int (i j : Int) (m : Mem) : opR .lt (.int i) (.int j) m = .ok (.bl (decide (i < j))) m := opR_some (op_lt_int i j m)
@[simp] theorem opR_gt_int (i j : Int) (m : Mem) : opR .gt (.int i) (.int j) m = .ok (.bl (decide (j < i))) m := opR_some (op_gt_int i j m)
@[simp] theorem opR_le_int (i j : Int) (m : Mem) : opR .le (.int i) (.int j) m = .ok (.bl (decide (i ≤ j))) m := id rfl
@[simp] theorem opR_ge_int (i j : Int) (m : Mem) : opR .ge (.int i) (.int j) m = .ok (.bl (decide (j ≤ i))) m := id rfl
@[simp] theorem opR_eq_bl (i j : Bool) (m : Mem) : opR .eq (.bl i) (.bl j) m = .ok (.bl (i == j)) m := opR_some (by rw [op_eq_l m (by simp [dep]) (id rfl) (id rfl)]; simp [eqB])
@[simp] theorem opR_ne_bl (i j : Bool) (m : Mem) : opR .ne (.bl i) (.bl j) m = .ok (.bl (i != j)) m := opR_some (by rw [op_ne_l m (by simp [dep]) (id rfl) (id rfl)]; simp [eqB, bne])
@[simp] theorem opR_eq_str (i j : Str) (m : Mem) : opR .eq (.str i) (.str j) m = .ok (.bl (i == j)) m := opR_some (by rw [op_eq_l m (by simp [dep]) (id rfl) (id rfl)]; simp [eqB])
@[simp] theorem opR_ne_str (i j : Str) (m : Mem) : opR .ne (.str i) (.str j) m = .ok (.bl (i != j)) m := opR_some (by rw [op_ne_l m (by simp [dep]) (id rfl) (id rfl)]; simp [eqB, bne])
def isNon : D → Bool
  | .non => true
  | _ => false
@[simp] theorem isNon_non : isNon .non = true := id rfl
@[simp] theorem isNon_tup (ds : List D) : isNon (.tup ds) = false := id rfl
@[simp] theorem isNon_lst (ds : List D) : isNon (.lst ds) = false := id rfl
@[simp] theorem isNon_int (i : Int) : isNon (.int i) = false := id rfl
@[simp] theorem isNon_bl (i : Bool) : isNon (.bl i) = false := id rfl
@[simp] theorem isNon_str (i : Str) : isNon (.str i) = false := id rfl
theorem opR_is_non {d : D} (m : Mem) (h : plainK d = true) : opR .is_ d .non m = .ok (.bl (isNon d)) m := by cases d <;> first | rfl | cases h
theorem opR_isnot_non {d : D} (m : Mem) (h : plainK d = true) : opR .isnot d .non m = .ok (.bl !(isNon d)) m := by cases d <;> first | rfl | cases h
/-- == [] -/
theorem opR_eq_nil (xs : List D) (m : Mem) : opR .eq (.lst xs) (.lst []) m = .ok (.bl xs.isEmpty) m := opR_some (by rw [op_eq_r m (by simp [dep, deps, dq]) (id rfl) (id rfl)]; cases xs <;> simp [eqB, eqBs])
theorem opR_ne_nil (xs : List D) (m : Mem) : opR .ne (.lst xs) (.lst []) m = .ok (.bl !xs.isEmpty) m := opR_some (by rw [op_ne_r m (by simp [dep, deps, dq]) (id rfl) (id rfl)]; cases xs <;> simp [eqB, eqBs])
@[simp] theorem kI_non : kindIs .isI .non = false := id rfl
@[simp] theorem kI_str (s : Str) : kindIs .isI (.str s) = false := id rfl
@[simp] theorem kI_tup (s : List D) : kindIs .isI (.tup s) = false := id rfl
@[simp] theorem kI_lst (s : List D) : kindIs .isI (.lst s) = false := id rfl
@[simp] theorem kB_non : kindIs .isB .non = false := id rfl
@[simp] theorem kB_str (s : Str) : kindIs .isB (.str s) = false := id rfl
@[simp] theorem kB_tup (s : List D) : kindIs .isB (.tup s) = false := id rfl
@[simp] theorem kB_lst (s : List D) : kindIs .isB (.lst s) = false := id rfl
@[simp] theorem kT_non : kindIs .isT .non = false := id rfl
@[simp] theorem kT_bl (s : Bool) : kindIs .isT (.bl s) = false := id rfl
@[simp] theorem kT_int (s : Int) : kindIs .isT (.int s) = false := id rfl
@[simp] theorem kT_str (s : Str) : kindIs .isT (.str s) = false := id rfl
@[simp] theorem kT_lst (s : List D) : kindIs .isT (.lst s) = false := id rfl
@[simp] theorem kL_non : kindIs .isL .non = false := id rfl
@[simp] theorem kL_bl (s : Bool) : kindIs .isL (.bl s) = false := id rfl
@[simp] theorem kL_int (s : Int) : kindIs .isL (.int s) = false := id rfl
@[simp] theorem kL_str (s : Str) : kindIs .isL (.str s) = false := id rfl
@[simp] theorem kL_tup (s : List D) : kindIs .isL (.tup s) = false := id rfl
@[simp] theorem kS_non : kindIs .isS .non = false := id rfl
@[simp] theorem kS_bl (s : Bool) : kindIs .isS (.bl s) = false := id rfl
@[simp] theorem kS_int (s : Int) : kindIs .isS (.int s) = false := id rfl
@[simp] theorem kS_lst (s : List D) : kindIs .isS (.lst s) = false := id rfl
@[simp] theorem kS_tup (s : List D) : kindIs .isS (.tup s) = false := id rfl
/-- a loop by its invariant, step by step -/
theorem forS_nil (c : Cfg) (t : Tg) (b : List S) (e : Env) (m : Mem) : forS c t b [] e m = .nx e m := by rw [forS_eq]; rfl
theorem forS_cons (c : Cfg) (t : Tg) (b : List S) (x : D) (xs : List D) (e : Env) (m : Mem) : forS c t b (x :: xs) e m = match bindT t x e with
    | none => .no
    | some e' => (execs c b e' m).turn fun e2 m2 => forS c t b xs e2 m2 := by simp only [forS_eq]; rfl
theorem forS_next {c : Cfg} {t : Tg} {b : List S} {x : D} {xs : List D} {e e1 e2 : Env} {m m2 : Mem} (h : bindT t x e = some e1) (h2 : execs c b e1 m = .nx e2 m2 ∨ execs c b e1 m = .ct e2 m2) : forS c t b (x :: xs) e m = forS c t b xs e2 m2 := by
  rw [forS_cons, h]; rcases h2 with h2 | h2 <;> simp [h2]
/-! ### loops -/
/-- a loop by its invariant -/
theorem forL_inv {t : Tg} {body : Env → Mem → Out} (I : List D → Env → Mem → Prop) (hs : ∀ x r e m, I (x :: r) e m → ∃ e1, bindT t x e = some e1 ∧ ∃ e2 m2, (body e1 m = .nx e2 m2 ∨ body e1 m = .ct e2 m2) ∧ I r e2 m2) :
    ∀ xs e m, I xs e m → ∃ e2 m2, forL t body xs e m = .nx e2 m2 ∧ I [] e2 m2 := by
  intro xs
  induction xs with
  | nil => exact fun e m h => ⟨e, m, rfl, h⟩
  | cons x xs ih =>
    intro e m h
    obtain ⟨e1, h1, e2, m2, h2, h3⟩ := hs x xs e m h
    obtain ⟨e3, m3, h4, h5⟩ := ih e2 m2 h3
    refine ⟨e3, m3, ?_, h5⟩
    rw [forL, h1]
    rcases h2 with h2 | h2 <;> simp [h2, h4]
/-- a loop that may return: what it returns first -/
theorem forL_find {t : Tg} {body : Env → Mem → Out} (I : Env → Mem → Prop) (p : D → Bool) (d : D → D) (xs : List D)
    (hs : ∀ x ∈ xs, ∀ e m, I e m → ∃ e1, bindT t x e = some e1 ∧ (if p x then body e1 m = .rt (d x) m else ∃ e2, (body e1 m = .nx e2 m ∨ body e1 m = .ct e2 m) ∧ I e2 m)) :
    ∀ e m, I e m → match xs.find? p with
      | some x => forL t body xs e m = .rt (d x) m
      | none => ∃ e2, forL t body xs e m = .nx e2 m ∧ I e2 m := by
  induction xs with
  | nil => exact fun e m h => ⟨e, rfl, h⟩
  | cons x xs ih =>
    intro e m h
    obtain ⟨e1, h1, h2⟩ := hs x (by simp) e m h
    rw [List.find?_cons]
    by_cases hp : p x = true
    · rw [if_pos hp] at h2
      simp only [hp]
      rw [forL, h1]; simp [h2]
    · rw [if_neg hp] at h2
      simp only [hp]
      obtain ⟨e2, h2, h3⟩ := h2
      have := ih (fun y hy => hs y (by simp [hy])) e2 m h3
      have e : forL t body (x :: xs) e m = forL t body xs e2 m := by
        rw [forL, h1]
        rcases h2 with h2 | h2 <;> simp [h2]
      rw [e]; exact this
theorem compL_map {f : D → List D → Mem → R (List D)} (g : D → D) {m : Mem} : ∀ (xs acc : List D), (∀ x ∈ xs, ∀ acc, fits acc.length = true → f x acc m = .ok (acc ++ [g x]) m) → acc.length + xs.length ≤ 10000000 → compL f xs acc m = .ok (acc ++ xs.map g) m
  | [], acc, _, _ => by simp [compL]
  | x :: xs, acc, hf, hl => by
    simp at hl
    rw [compL, hf x (by simp) acc (fits_le (by omega))]
    simp only [R.bind_ok]
    rw [compL_map g xs _ (fun y hy => hf y (by simp [hy])) (by simp; omega)]
    simp
theorem compL_filter {f : D → List D → Mem → R (List D)} (p : D → Bool) (g : D → D) {m : Mem} : ∀ (xs acc : List D), (∀ x ∈ xs, ∀ acc, fits acc.length = true → f x acc m = .ok (if p x then acc ++ [g x] else acc) m) → acc.length + xs.length ≤ 10000000 → compL f xs acc m = .ok (acc ++ (xs.filter p).map g) m
  | [], acc, _, _ => by simp [compL]
  | x :: xs, acc, hf, hl => by
    simp at hl
    rw [compL, hf x (by simp) acc (fits_le (by omega))]
    simp only [R.bind_ok]
    have : (if p x = true then acc ++ [g x] else acc).length ≤ acc.length + 1 := by split <;> simp
    rw [compL_filter p g xs _ (fun y hy => hf y (by simp [hy])) (by omega)]
    by_cases h : p x = true <;> simp [h]
/-- each item adds some -/
theorem compL_flat {f : D → List D → Mem → R (List D)} (g : D → List D) (b : Nat) {m : Mem} : ∀ (xs acc : List D), (∀ x ∈ xs, (g x).length ≤ b ∧ ∀ acc, acc.length + b ≤ 10000000 → f x acc m = .ok (acc ++ g x) m) → acc.length + b * xs.length ≤ 10000000 → compL f xs acc m = .ok (acc ++ xs.flatMap g) m
  | [], acc, _, _ => by simp [compL]
  | x :: xs, acc, hf, hl => by
    simp only [List.length_cons, Nat.mul_add] at hl
    have hx := hf x (by simp)
    rw [compL, hx.2 acc (by omega)]
    simp only [R.bind_ok]
    rw [compL_flat g b xs _ (fun y hy => hf y (by simp [hy])) (by simp; omega)]
    simp
theorem allL_all {f : D → Mem → R Bool} (p : D → Bool) {m : Mem} : ∀ (xs : List D), (∀ x ∈ xs, f x m = .ok (p x) m) → allL f xs m = .ok (xs.all p) m
  | [], _ => by simp [allL]
  | x :: xs, hf => by
    rw [allL, hf x (by simp)]
    simp only [R.bind_ok]
    rw [allL_all p xs (fun y hy => hf y (by simp [hy]))]
    by_cases h : p x = true <;> simp [h]
theorem anyL_any {f : D → Mem → R Bool} (p : D → Bool) {m : Mem} : ∀ (xs : List D), (∀ x ∈ xs, f x m = .ok (p x) m) → anyL f xs m = .ok (xs.any p) m
  | [], _ => by simp [anyL]
  | x :: xs, hf => by
    rw [anyL, hf x (by simp)]
    simp only [R.bind_ok]
    rw [anyL_any p xs (fun y hy => hf y (by simp [hy]))]
    by_cases h : p x = true <;> simp [h]

theorem forS_find {c : Cfg} {t : Tg} {b : List S} (I : Env → Prop) (p : D → Bool) (d : D → D) (m : Mem) : ∀ (xs : List D)
    (hs : ∀ x ∈ xs, ∀ e, I e → ∃ e1, bindT t x e = some e1 ∧ (p x = true → execs c b e1 m = .rt (d x) m) ∧ (p x = false → ∃ e2, (execs c b e1 m = .nx e2 m ∨ execs c b e1 m = .ct e2 m) ∧ I e2)),
    ∀ e, I e → (∀ x, xs.find? p = some x → forS c t b xs e m = .rt (d x) m) ∧ (xs.find? p = none → ∃ e2, forS c t b xs e m = .nx e2 m ∧ I e2) := by
  intro xs
  induction xs with
  | nil => exact fun _ e h => ⟨by simp, fun _ => ⟨e, forS_nil .., h⟩⟩
  | cons x xs ih =>
    intro hs e h
    obtain ⟨e1, h1, h2, h3⟩ := hs x (by simp) e h
    rw [List.find?_cons]
    cases hp : p x
    · obtain ⟨e2, h4, h5⟩ := h3 hp
      have := ih (fun y hy => hs y (by simp [hy])) e2 h5
      rw [forS_next h1 h4]; exact this
    · refine ⟨fun y hy => ?_, fun h => by simp at h⟩
      simp at hy; subst hy
      rw [forS_cons, h1]; simp [h2 hp]

/-- a loop as a fold -/
theorem forS_fold {c : Cfg} {t : Tg} {b : List S} {σ : Type} (I : σ → List D → Env → Mem → Prop) (f : σ → D → σ) (hs : ∀ s x r e m, I s (x :: r) e m → ∃ e1, bindT t x e = some e1 ∧ ∃ e2 m2, (execs c b e1 m = .nx e2 m2 ∨ execs c b e1 m = .ct e2 m2) ∧ I (f s x) r e2 m2) :
    ∀ xs s e m, I s xs e m → ∃ e2 m2, forS c t b xs e m = .nx e2 m2 ∧ I (xs.foldl f s) [] e2 m2 := by
  intro xs
  induction xs with
  | nil => exact fun s e m h => ⟨e, m, forS_nil .., h⟩
  | cons x xs ih =>
    intro s e m h
    obtain ⟨e1, h1, e2, m2, h2, h3⟩ := hs s x xs e m h
    rw [forS_next h1 h2]
    exact ih _ e2 m2 h3
@[simp] theorem opR_add_lst {xs ys : List D} (m : Mem) (h : fits (xs.length + ys.length) = true) : opR .add (.lst xs) (.lst ys) m = .ok (.lst (xs ++ ys)) m := opR_some (by simp [op2, addD, h])
@[simp] theorem opR_add_tup {xs ys : List D} (m : Mem) (h : fits (xs.length + ys.length) = true) : opR .add (.tup xs) (.tup ys) m = .ok (.tup (xs ++ ys)) m := opR_some (by simp [op2, addD, h])
@[simp] theorem opR_add_new {xs ys : List D} (m : Mem) (h : fits (xs.length + ys.length) = true) : opR .add (.ref m.length) (.lst ys) (m ++ [.lst xs]) = .ok (.lst (xs ++ ys)) (m ++ [.lst xs]) := opR_some (by simp [op2, addD, h])
theorem range3_items (a b : Int) (m : Mem) (h : okB a = true) (h2 : okB b = true) : itemsOf .rng3 [.int a, .int b, .int (-1)] m = some (rngDown a (a - b).toNat) := by simp [itemsOf, h, h2]

@[simp] theorem small64_0 : small64 0 = true := by decide
@[simp] theorem small64_1 : small64 1 = true := by decide
@[simp] theorem small64_2 : small64 2 = true := by decide
@[simp] theorem small64_m1 : small64 (-1) = true := by decide
theorem slot_ix (e : Env) (i : Nat) (d : D) (m : Mem) (h : e[i]? = some (some d)) : slot e i m = .ok d m := by rw [slot, h]

@[simp] theorem opR_add_r1 {xs ys : List D} (a : D) (m : Mem) (h : fits (xs.length + ys.length) = true) : opR .add (.ref 1) (.lst ys) (a :: .lst xs :: m) = .ok (.lst (xs ++ ys)) (a :: .lst xs :: m) := opR_some (by simp [op2, addD, h, derX])

theorem forS_inv {c : Cfg} {t : Tg} {b : List S} (I : Env → Mem → Prop) : ∀ (xs : List D) (hs : ∀ x ∈ xs, ∀ e m, I e m → ∃ e1, bindT t x e = some e1 ∧ ∃ e2 m2, (execs c b e1 m = .nx e2 m2 ∨ execs c b e1 m = .ct e2 m2) ∧ I e2 m2) (e : Env) (m : Mem), I e m → ∃ e2 m2, forS c t b xs e m = .nx e2 m2 ∧ I e2 m2 := by
  intro xs
  induction xs with
  | nil => exact fun _ e m h => ⟨e, m, forS_nil .., h⟩
  | cons x xs ih =>
    intro hs e m h
    obtain ⟨e1, h1, e2, m2, h2, h3⟩ := hs x (by simp) e m h
    rw [forS_next h1 h2]
    exact ih (fun y hy => hs y (by simp [hy])) e2 m2 h3
end Py
end

section
set_option linter.all false
set_option Elab.async false
/-! PyDraws: the draws of the laws (_law_draws, _law_take). Plain Lean. -/
namespace Py
open PySem (Str)
/-- draws -/
def drw (ds : List Int) : D := .lst (ds.map D.int)
def drawsB : List S := [.asg (.nm 1) (.mut (.lst [])), .for_ (.nm 2) .seq [.var 0] [.asg (.nm 3) (.prim .abs [.var 2]), .iff (.op .lt (.var 3) (.op .pow (.lit (.int 10)) (.lit (.int 18)))) [.asg (.nm 4) (.op .mod (.prim .int [.op .add (.op .mul (.var 3) (.lit (.int 48271))) (.lit (.int 11))]) (.lit (.int 2147483647))), .expr (.meth .append (.var 1) [.op .mod (.prim .int [.op .add (.op .mul (.var 4) (.lit (.int 69621))) (.var 3)]) (.lit (.int 2147483629))]), .expr (.meth .append (.var 1) [.op .mod (.prim .int [.op .add (.var 4) (.op .fdiv (.var 3) (.lit (.int 7)))]) (.lit (.int 1000003))]), .asg (.nm 3) (.lit (.int 0))] [], .for_ (.nm 5) .rng1 [.lit (.int 60)] [.iff (.op .gt (.var 3) (.lit (.int 0))) [.expr (.meth .append (.var 1) [.op .mod (.prim .int [.var 3]) (.lit (.int 997))]), .asg (.nm 3) (.op .fdiv (.var 3) (.lit (.int 997)))] []]], .asg (.nm 6) (.lit (.int 1)), .iff (.op .gt (.prim .len [.var 0]) (.lit (.int 0))) [.asg (.nm 6) (.op .add (.lit (.int 1)) (.prim .abs [.idx (.var 0) (.lit (.int 0))]))] [], .for_ (.nm 5) .rng1 [.lit (.int 900)] [.asg (.nm 6) (.op .mod (.prim .int [.op .add (.op .mul (.var 6) (.lit (.int 48271))) (.lit (.int 69621))]) (.lit (.int 2147483647))), .expr (.meth .append (.var 1) [.op .fdiv (.var 6) (.lit (.int 5))])], .ret (.mut (.prim .listrev [.var 1]))]
def takeB : List S := [.iff (.op .eq (.prim .len [.var 0]) (.lit (.int 0))) [.ret (.lit (.int 0))] [], .ret (.op .mod (.prim .int [.meth .pop (.var 0) []]) (.var 1))]

/-- the value drawn, the draws behind it -/
def takeV (ds : List Int) (b : Int) : Int := match ds.getLast? with
  | none => 0
  | some d => d.fmod b
theorem takeV_bd (ds : List Int) {b : Int} (h : 0 < b) : 0 ≤ takeV ds b ∧ takeV ds b < b := by
  unfold takeV
  split
  · omega
  · exact ⟨Int.fmod_nonneg_of_pos _ h, Int.fmod_lt_of_pos _ h⟩
theorem take_run (c : Cfg) (ds : List Int) {b : Int} (h : b ≠ 0) (r : Mem) : runFn c ⟨2, 2, takeB, false⟩ [.ref 0, .int b] (drw ds :: r) = .ok (.int (takeV ds b)) (drw ds.dropLast :: r) := by
  rcases List.eq_nil_or_concat ds with rfl | ⟨ds, d, rfl⟩
  · simp [runFn, takeB, drw, takeV, lenD, der]
  · simp only [List.concat_eq_append]
    simp [runFn, takeB, drw, takeV, lenD, der, cellL, h, show ((ds.length : Int) + 1 == 0) = false by simp; omega]
end Py
namespace Py
open PySem (Str)
theorem last_map_int (ds : List Int) (d : Int) : drw (ds ++ [d]) = .lst (ds.map D.int ++ [.int d]) := by simp [drw]
theorem pow18 (m : Mem) : opR .pow (.int 10) (.int 18) m = .ok (.int 1000000000000000000) m := by rfl
theorem small_48271 : small64 48271 = true := by decide
theorem small_69621 : small64 69621 = true := by decide
/-- an append to the draws -/
theorem pr_append_drw (sub : Nat → Nat → Bool) (ds : List Int) (d : Int) (h : ds.length ≤ 10000000) : pr sub .append [.ref 0, .int d] [drw ds] = some (.non, [drw (ds ++ [d])]) := by
  simp [drw, cellL, fits_le h]
theorem fits_drw {ds : List Int} (h : ds.length ≤ 10000000) : fits ds.length = true := fits_le h
/-- a loop that leaves draws -/
theorem draws_loop {c : Cfg} {t : Tg} {body : List S} (k b : Nat) (J : Env → Prop) (hs : ∀ x e ds, J e → ds.length ≤ b → ∃ e1, bindT t x e = some e1 ∧ ∃ e2 ds2, (execs c body e1 [drw ds] = .nx e2 [drw ds2] ∨ execs c body e1 [drw ds] = .ct e2 [drw ds2]) ∧ J e2 ∧ ds2.length ≤ ds.length + k) :
    ∀ xs e ds, J e → ds.length + k * xs.length ≤ b → ∃ e2 ds2, forS c t body xs e [drw ds] = .nx e2 [drw ds2] ∧ J e2 ∧ ds2.length ≤ ds.length + k * xs.length := by
  intro xs
  induction xs with
  | nil => exact fun e ds h _ => ⟨e, ds, forS_nil .., h, by simp⟩
  | cons x xs ih =>
    intro e ds h hl
    simp only [List.length_cons, Nat.mul_add, Nat.mul_one] at hl ⊢
    obtain ⟨e1, h1, e2, ds2, h2, h3, h4⟩ := hs x e ds h (by omega)
    obtain ⟨e3, ds3, h5, h6, h7⟩ := ih e2 ds2 h3 (by omega)
    refine ⟨e3, ds3, ?_, h6, by omega⟩
    rw [forS_next h1 h2, h5]
theorem draws_in (c : Cfg) (xs : List D) (x0 x2 x4 x6 : Option D) (ds : List Int) (e : Env) (he : ∃ x5 n, e = [x0, some (.ref 0), x2, some (.int n), x4, x5, x6]) (hl : ds.length + xs.length ≤ 9000000) : ∃ e2 ds2, forS c (.nm 5) [.iff (.op .gt (.var 3) (.lit (.int 0))) [.expr (.meth .append (.var 1) [.op .mod (.prim .int [.var 3]) (.lit (.int 997))]), .asg (.nm 3) (.op .fdiv (.var 3) (.lit (.int 997)))] []] xs e [drw ds] = .nx e2 [drw ds2] ∧ (∃ x5 n, e2 = [x0, some (.ref 0), x2, some (.int n), x4, x5, x6]) ∧ ds2.length ≤ ds.length + 1 * xs.length := by
  refine draws_loop 1 9000000 (fun e => ∃ x5 n, e = [x0, some (.ref 0), x2, some (.int n), x4, x5, x6]) ?_ xs e ds he (by omega)
  rintro x e ds ⟨x5, n, rfl⟩ hl
  refine ⟨_, rfl, ?_⟩
  by_cases hn : n > 0
  · refine ⟨_, ds ++ [n.fmod 997], .inl ?_, ⟨some x, n.fdiv 997, rfl⟩, by simp⟩
    simp [hn, bindT, fits_drw (show ds.length ≤ 10000000 by omega), der, drw]
  · refine ⟨_, ds, .inl ?_, ⟨some x, n, rfl⟩, by simp⟩
    simp [hn, bindT]
theorem rng_len' (a : Int) (n : Nat) : (rng a n).length = n := by simp [rng]
theorem draws_outer (c : Cfg) (s : D) : ∀ xs : List D, xs.length ≤ 63 → (∀ x ∈ xs, ∃ i, x = .int i) → ∀ e ds, (∃ x2 x3 x4 x5, e = [some s, some (.ref 0), x2, x3, x4, x5, none]) → ds.length + 62 * xs.length ≤ 62 * 63 → ∃ e2 ds2, forS c (.nm 2) [.asg (.nm 3) (.prim .abs [.var 2]), .iff (.op .lt (.var 3) (.op .pow (.lit (.int 10)) (.lit (.int 18)))) [.asg (.nm 4) (.op .mod (.prim .int [.op .add (.op .mul (.var 3) (.lit (.int 48271))) (.lit (.int 11))]) (.lit (.int 2147483647))), .expr (.meth .append (.var 1) [.op .mod (.prim .int [.op .add (.op .mul (.var 4) (.lit (.int 69621))) (.var 3)]) (.lit (.int 2147483629))]), .expr (.meth .append (.var 1) [.op .mod (.prim .int [.op .add (.var 4) (.op .fdiv (.var 3) (.lit (.int 7)))]) (.lit (.int 1000003))]), .asg (.nm 3) (.lit (.int 0))] [], .for_ (.nm 5) .rng1 [.lit (.int 60)] [.iff (.op .gt (.var 3) (.lit (.int 0))) [.expr (.meth .append (.var 1) [.op .mod (.prim .int [.var 3]) (.lit (.int 997))]), .asg (.nm 3) (.op .fdiv (.var 3) (.lit (.int 997)))] []]] xs e [drw ds] = .nx e2 [drw ds2] ∧ (∃ x2 x3 x4 x5, e2 = [some s, some (.ref 0), x2, x3, x4, x5, none]) ∧ ds2.length ≤ 62 * 63 := by
  intro xs
  induction xs with
  | nil => exact fun _ _ e ds he hd => ⟨e, ds, forS_nil .., he, by simpa using hd⟩
  | cons x xs ih =>
    rintro hl hx e ds ⟨x2, x3, x4, x5, rfl⟩ hd
    obtain ⟨i, rfl⟩ := hx x (by simp)
    simp only [List.length_cons] at hd hl
    have main : ∃ e2 ds2, execs c [.asg (.nm 3) (.prim .abs [.var 2]), .iff (.op .lt (.var 3) (.op .pow (.lit (.int 10)) (.lit (.int 18)))) [.asg (.nm 4) (.op .mod (.prim .int [.op .add (.op .mul (.var 3) (.lit (.int 48271))) (.lit (.int 11))]) (.lit (.int 2147483647))), .expr (.meth .append (.var 1) [.op .mod (.prim .int [.op .add (.op .mul (.var 4) (.lit (.int 69621))) (.var 3)]) (.lit (.int 2147483629))]), .expr (.meth .append (.var 1) [.op .mod (.prim .int [.op .add (.var 4) (.op .fdiv (.var 3) (.lit (.int 7)))]) (.lit (.int 1000003))]), .asg (.nm 3) (.lit (.int 0))] [], .for_ (.nm 5) .rng1 [.lit (.int 60)] [.iff (.op .gt (.var 3) (.lit (.int 0))) [.expr (.meth .append (.var 1) [.op .mod (.prim .int [.var 3]) (.lit (.int 997))]), .asg (.nm 3) (.op .fdiv (.var 3) (.lit (.int 997)))] []]] [some s, some (.ref 0), some (.int i), x3, x4, x5, none] [drw ds] = .nx e2 [drw ds2] ∧ (∃ x2 x3 x4 x5, e2 = [some s, some (.ref 0), x2, x3, x4, x5, none]) ∧ ds2.length ≤ ds.length + 62 := by
      obtain ⟨j, hj⟩ : ∃ j : Int, j = if i < 0 then -i else i := ⟨_, rfl⟩
      have r60 : (rng 0 60).length = 60 := by rw [rng_len']
      by_cases h18 : j < 1000000000000000000
      · obtain ⟨e2, ds2, h1, ⟨y5, n, h2⟩, h3⟩ := draws_in c (rng 0 60) (some s) (some (.int i)) (some (.int ((j * 48271 + 11).fmod 2147483647))) none (ds ++ [((j * 48271 + 11).fmod 2147483647 * 69621 + j).fmod 2147483629] ++ [((j * 48271 + 11).fmod 2147483647 + j.fdiv 7).fmod 1000003]) [some s, some (.ref 0), some (.int i), some (.int 0), some (.int ((j * 48271 + 11).fmod 2147483647)), x5, none] ⟨_, _, rfl⟩ (by simp [rng_len']; omega)
        refine ⟨e2, ds2, ?_, ⟨_, _, _, _, h2⟩, by simp [rng_len'] at h3; omega⟩
        have fa : fits (ds.length + 1) = true := fits_le (by omega)
        simp [bindT, ← hj, pow18, h18, opR_mul_int, small_48271, small_69621, der, drw, fits_drw (show ds.length ≤ 10000000 by omega), fa, range_lit 60 60 _ rfl rfl]
        simp [drw] at h1
        rw [h1]
        simp
      · obtain ⟨e2, ds2, h1, ⟨y5, n, h2⟩, h3⟩ := draws_in c (rng 0 60) (some s) (some (.int i)) x4 none ds [some s, some (.ref 0), some (.int i), some (.int j), x4, x5, none] ⟨_, _, rfl⟩ (by simp [rng_len']; omega)
        refine ⟨e2, ds2, ?_, ⟨_, _, _, _, h2⟩, by simp [rng_len'] at h3; omega⟩
        simp [bindT, ← hj, pow18, h18, range_lit 60 60 _ rfl rfl, drw]
        simp [drw] at h1
        rw [h1]
        simp
    obtain ⟨e2, ds2, h1, h2, h3⟩ := main
    rw [forS_next rfl (.inl h1)]
    exact ih (by omega) (fun y hy => hx y (by simp [hy])) e2 ds2 h2 (by omega)
theorem draws_tail (c : Cfg) (s : D) (y2 y3 y4 y5 : Option D) (ds2 : List Int) (h3 : ds2.length ≤ 62 * 63) : ∀ k6 : Int, ∃ ds, thn c [.ret (.mut (.prim .listrev [.var 1]))] (forS c (.nm 5) [.asg (.nm 6) (.op .mod (.prim .int [.op .add (.op .mul (.var 6) (.lit (.int 48271))) (.lit (.int 69621))]) (.lit (.int 2147483647))), .expr (.meth .append (.var 1) [.op .fdiv (.var 6) (.lit (.int 5))])] (rng 0 900) [some s, some (.ref 0), y2, y3, y4, y5, some (.int k6)] [drw ds2]) = .rt (.ref 1) [drw ds, drw ds.reverse] := by
  intro k6
  obtain ⟨e3, ds3, h4, ⟨z5, k7, h5⟩, h6⟩ := draws_loop (c := c) (t := .nm 5) (body := [.asg (.nm 6) (.op .mod (.prim .int [.op .add (.op .mul (.var 6) (.lit (.int 48271))) (.lit (.int 69621))]) (.lit (.int 2147483647))), .expr (.meth .append (.var 1) [.op .fdiv (.var 6) (.lit (.int 5))])]) 1 9000000 (fun e => ∃ x5 k, e = [some s, some (.ref 0), y2, y3, y4, x5, some (.int k)]) (by
    rintro x e ds ⟨x5, k, rfl⟩ hl
    refine ⟨_, rfl, _, ds ++ [((k * 48271 + 69621).fmod 2147483647).fdiv 5], .inl ?_, ⟨some x, (k * 48271 + 69621).fmod 2147483647, rfl⟩, by simp⟩
    simp [bindT, opR_mul_int, small_48271, der, drw, fits_drw (show ds.length ≤ 10000000 by omega)]
    try rfl) (rng 0 900) [some s, some (.ref 0), y2, y3, y4, y5, some (.int k6)] ds2 ⟨_, _, rfl⟩ (by simp [rng_len']; omega)
  subst h5
  refine ⟨ds3, ?_⟩
  rw [h4]
  simp [drw, der]
theorem draws_run (c : Cfg) (ns : List Int) (hn : ns.length ≤ 63) : ∃ ds, runFn c ⟨1, 7, drawsB, true⟩ [.lck (.lst (ns.map D.int))] [] = .ok (.ref 0) [drw ds] := by
  obtain ⟨s, hs⟩ : ∃ s : D, s = .lck (.lst (ns.map D.int)) := ⟨_, rfl⟩
  obtain ⟨e2, ds2, h1, ⟨y2, y3, y4, y5, h2⟩, h3⟩ := draws_outer c s (ns.map D.int) (by simpa using hn) (by simp) [some s, some (.ref 0), none, none, none, none, none] [] ⟨_, _, _, _, rfl⟩ (by simp; omega)
  subst h2
  have tail := draws_tail c s y2 y3 y4 y5 ds2 h3
  have fin : ∀ ds : List Int, finish true 0 (.rt (.ref 1) [drw ds, drw ds.reverse]) = .ok (.ref 0) [drw ds.reverse] := fun ds => rfl
  cases ns with
  | nil =>
    obtain ⟨ds, hd⟩ := tail 1
    refine ⟨ds.reverse, ?_⟩
    rw [← fin ds, ← hd]
    rw [← hs]
    simp [runFn, drawsB, bindT]
    rw [hs] at h1 ⊢
    simp [forS_nil, drw] at h1 ⊢
    obtain ⟨⟨rfl, rfl, rfl, rfl⟩, rfl⟩ := h1
    simp [range_lit 900 900 _ rfl rfl]
  | cons n ns =>
    obtain ⟨ds, hd⟩ := tail (1 + (if n < 0 then -n else n))
    refine ⟨ds.reverse, ?_⟩
    rw [← fin ds, ← hd]
    rw [← hs]
    simp [runFn, drawsB, bindT]
    rw [hs] at h1 ⊢
    simp [drw] at h1 ⊢
    rw [h1]
    simp [idxR, idxD, idxS, dctOf, der, at?, range_lit 900 900 _ rfl rfl]
end Py
end

section
set_option linter.all false
set_option Elab.async false
/-! PyCell: pairs of ints as data: equality, order, sorting; comprehensions over them. Plain Lean. -/
namespace Py
open PySem (Str)
def cellD (p : Int × Int) : D := .tup [.int p.1, .int p.2]
def ltP (p q : Int × Int) : Bool := if p.1 = q.1 then decide (p.2 < q.2) else decide (p.1 < q.1)
def leP (p q : Int × Int) : Bool := !ltP q p
@[simp] theorem plainK_cell (p : Int × Int) : plainK (cellD p) = true := id rfl
@[simp] theorem nr_cell (p : Int × Int) : nr (cellD p) = true := id rfl
@[simp] theorem der_cell (m : Mem) (p : Int × Int) : der m (cellD p) = some (cellD p) := id rfl
@[simp] theorem settle_cell (m : Mem) (p : Int × Int) : settle (cellD p) m = some (cellD p, m) := id rfl
theorem dep_cell (p : Int × Int) : dep (cellD p) = 1 := by simp [cellD, dep, deps]
theorem eqB_cell (p q : Int × Int) : eqB (cellD p) (cellD q) = decide (p = q) := by
  obtain ⟨a, b⟩ := p; obtain ⟨c, d⟩ := q
  simp [cellD, eqB, eqBs, Prod.ext_iff, Bool.decide_and]
  rfl
theorem eqBs_cells : ∀ ps qs : List (Int × Int), eqBs (ps.map cellD) (qs.map cellD) = decide (ps = qs)
  | [], [] => by simp [eqBs]
  | [], q :: qs => by simp [eqBs]
  | p :: ps, [] => by simp [eqBs]
  | p :: ps, q :: qs => by simp [eqBs, eqB_cell, eqBs_cells ps qs, Bool.decide_and]
theorem deps_cells : ∀ ps : List (Int × Int), deps (ps.map cellD) ≤ 1
  | [] => by simp [deps]
  | p :: ps => by have := deps_cells ps; simp [deps, dep_cell]; omega
theorem deps_le {ds : List D} {k : Nat} (h : ∀ d ∈ ds, dep d ≤ k) : deps ds ≤ k := by
  induction ds with
  | nil => simp [deps]
  | cons d ds ih =>
    have h1 := h d (by simp)
    have h2 := ih fun x hx => h x (by simp [hx])
    simp [deps]; omega
theorem ltB_cell (p q : Int × Int) : ltB (cellD p) (cellD q) = ltP p q := by
  obtain ⟨a, b⟩ := p; obtain ⟨c, d⟩ := q
  by_cases h : a = c <;> simp [cellD, ltB, ltBs, ltP, eqB, h]
  intro h1 h2; omega
theorem ordOk_cell (p q : Int × Int) : ordOk (cellD p) (cellD q) = true := by simp [cellD, ordOk, ordOks]
theorem leD_cell (p q : Int × Int) : leD (cellD p) (cellD q) = leP p q := by simp [leD, leP, ltB_cell]
theorem sortD_cells (ps : List (Int × Int)) : sortD (ps.map cellD) = some ((ps.mergeSort leP).map cellD) := by
  have h : sortOk (ps.map cellD) = true := by
    have := deps_cells ps
    simp [sortOk, ordOk_cell]
    refine ⟨.inl ?_, by simp [dq]; omega⟩
    intro a b _
    rfl
  rw [sortD, if_pos h, List.map_mergeSort (s := leD)]
  intro a _ b _
  exact (leD_cell a b).symm
theorem any_cell (ps : List (Int × Int)) (q : Int × Int) : ((ps.map cellD).any fun y => eqB y (cellD q)) = decide (q ∈ ps) := by
  induction ps with
  | nil => simp
  | cons p ps ih => simp [eqB_cell, ih, Bool.decide_or, eq_comm]
theorem at_map {α β : Type} (f : α → β) (xs : List α) (i : Int) : at? (xs.map f) i = (at? xs i).map f := by
  simp only [at?, List.length_map, List.getElem?_map]; repeat' split
  all_goals simp
theorem at_nat {α : Type} (xs : List α) (j : Nat) : at? xs (j : Int) = xs[j]? := by simp [at?]
theorem at_nat1 {α : Type} (xs : List α) (j : Nat) : at? xs ((j : Int) + 1) = xs[j + 1]? := at_nat xs (j + 1)
theorem at_last {α : Type} (xs : List α) : at? xs (-1) = xs.getLast? := by
  cases xs with
  | nil => rfl
  | cons x xs => rw [List.getLast?_eq_getElem?, at?, if_neg (by omega), if_pos (by simp; omega)]; congr 1; simp; omega
theorem sliceL_map {α β : Type} (f : α → β) (xs : List α) (lo hi : Option Int) : sliceL (xs.map f) lo hi = (sliceL xs lo hi).map f := by
  simp [sliceL, List.map_take, List.map_drop]
theorem sliceR_map {α β : Type} (f : α → β) (xs : List α) (hi : Option Int) : sliceR (xs.map f) hi = (sliceR xs hi).map f := by
  cases hi <;> simp [sliceR, List.map_take, List.map_reverse]
theorem sliceL_len {α : Type} (xs : List α) (lo hi : Option Int) : (sliceL xs lo hi).length ≤ xs.length := by
  simp only [sliceL, List.length_take, List.length_drop]; omega
theorem sliceR_len {α : Type} (xs : List α) (hi : Option Int) : (sliceR xs hi).length ≤ xs.length := by
  cases hi <;> simp only [sliceR, List.length_take, List.length_reverse] <;> omega
theorem sliceL_sub {α : Type} (xs : List α) (lo hi : Option Int) : ∀ x ∈ sliceL xs lo hi, x ∈ xs := by
  intro x h; exact List.mem_of_mem_drop (List.mem_of_mem_take h)
theorem sliceR_sub {α : Type} (xs : List α) (hi : Option Int) : ∀ x ∈ sliceR xs hi, x ∈ xs := by
  intro x h
  cases hi with
  | none => simpa [sliceR] using h
  | some i => simpa using List.mem_of_mem_take h
/-- a comprehension that makes one item of each -/
theorem compS_map {c : Cfg} {e : Env} {own : List Nat} {t : Tg} {ifs : List C} {el : C} {m : Mem} (g : D → D) {xs : List D} (h : ∀ x ∈ xs, ∀ acc, fits acc.length = true → itS c e own t ifs el x acc m = .ok (acc ++ [g x]) m) (hl : xs.length ≤ 10000000) : compS c e own t ifs el xs m = .ok (xs.map g) m := by
  rw [compS_eq, compL_map g xs [] h (by simpa using hl)]; simp
theorem compS_filter {c : Cfg} {e : Env} {own : List Nat} {t : Tg} {ifs : List C} {el : C} {m : Mem} (p : D → Bool) (g : D → D) {xs : List D} (h : ∀ x ∈ xs, ∀ acc, fits acc.length = true → itS c e own t ifs el x acc m = .ok (if p x then acc ++ [g x] else acc) m) (hl : xs.length ≤ 10000000) : compS c e own t ifs el xs m = .ok ((xs.filter p).map g) m := by
  rw [compS_eq, compL_filter p g xs [] h (by simpa using hl)]; simp
/-- over the ints of a range -/
theorem compS_rng {c : Cfg} {e : Env} {own : List Nat} {t : Tg} {ifs : List C} {el : C} {m : Mem} (g : Int → D) {a : Int} {n : Nat} (h : ∀ k : Int, a ≤ k → k < a + n → ∀ acc, fits acc.length = true → itS c e own t ifs el (.int k) acc m = .ok (acc ++ [g k]) m) (hl : n ≤ 10000000) : compS c e own t ifs el (rng a n) m = .ok ((List.range n).map fun (k : Nat) => g (a + (k : Int))) m := by
  rw [compS_map (fun d => match d with | .int i => g i | _ => .non)]
  · simp [rng]
  · intro x hx acc ha
    simp only [rng, List.mem_map, List.mem_range] at hx
    obtain ⟨k, hk, rfl⟩ := hx
    exact h _ (by omega) (by omega) acc ha
  · simpa [rng] using hl
theorem compS_rng_filter {c : Cfg} {e : Env} {own : List Nat} {t : Tg} {ifs : List C} {el : C} {m : Mem} (p : Int → Bool) (g : Int → D) {a : Int} {n : Nat} (h : ∀ k : Int, a ≤ k → k < a + n → ∀ acc, fits acc.length = true → itS c e own t ifs el (.int k) acc m = .ok (if p k then acc ++ [g k] else acc) m) (hl : n ≤ 10000000) : compS c e own t ifs el (rng a n) m = .ok ((((List.range n).map fun (k : Nat) => a + (k : Int)).filter p).map g) m := by
  rw [compS_filter (fun d => match d with | .int i => p i | _ => false) (fun d => match d with | .int i => g i | _ => .non)]
  · have : rng a n = ((List.range n).map fun (k : Nat) => a + (k : Int)).map D.int := by simp [rng]
    rw [this, List.filter_map, List.map_map]; rfl
  · intro x hx acc ha
    simp only [rng, List.mem_map, List.mem_range] at hx
    obtain ⟨k, hk, rfl⟩ := hx
    exact h _ (by omega) (by omega) acc ha
  · simpa [rng] using hl
/-- over cells -/
theorem compS_cells {c : Cfg} {e : Env} {own : List Nat} {t : Tg} {ifs : List C} {el : C} {m : Mem} (g : Int × Int → D) {ps : List (Int × Int)} (h : ∀ p ∈ ps, ∀ acc, fits acc.length = true → itS c e own t ifs el (cellD p) acc m = .ok (acc ++ [g p]) m) (hl : ps.length ≤ 10000000) : compS c e own t ifs el (ps.map cellD) m = .ok (ps.map g) m := by
  rw [compS_map (fun d => match d with | .tup [.int a, .int b] => g (a, b) | _ => .non)]
  · simp [cellD]
  · intro x hx acc ha
    simp only [List.mem_map] at hx
    obtain ⟨p, hp, rfl⟩ := hx
    exact h p hp acc ha
  · simpa using hl
theorem allS_all {c : Cfg} {e : Env} {own : List Nat} {t : Tg} {el : C} {m : Mem} (p : D → Bool) {xs : List D} (h : ∀ x ∈ xs, tstS c e own t el x m = .ok (p x) m) : allS c e own t el xs m = .ok (xs.all p) m := by
  rw [allS_eq, allL_all p xs h]; simp
theorem anyS_any {c : Cfg} {e : Env} {own : List Nat} {t : Tg} {el : C} {m : Mem} (p : D → Bool) {xs : List D} (h : ∀ x ∈ xs, tstS c e own t el x m = .ok (p x) m) : anyS c e own t el xs m = .ok (xs.any p) m := by
  rw [anyS_eq, anyL_any p xs h]; simp
theorem allS_rng {c : Cfg} {e : Env} {own : List Nat} {t : Tg} {el : C} {m : Mem} (p : Int → Bool) {a : Int} {n : Nat} (h : ∀ k : Int, a ≤ k → k < a + n → tstS c e own t el (.int k) m = .ok (p k) m) : allS c e own t el (rng a n) m = .ok ((List.range n).all fun k => p (a + k)) m := by
  rw [allS_all (fun d => match d with | .int i => p i | _ => false)]
  · simp [rng, List.all_map]; rfl
  · intro x hx
    simp only [rng, List.mem_map, List.mem_range] at hx
    obtain ⟨k, hk, rfl⟩ := hx
    exact h _ (by omega) (by omega)
/-- two ranges in one another -/
theorem compS2_flat {c : Cfg} {e : Env} {own own1 : List Nat} {t : Tg} {ifs : List C} {t2 : Tg} {k2 : IK} {its2 ifs2 : List C} {el : C} {m : Mem} (g : D → List D) (b : Nat) {xs : List D} (h : ∀ x ∈ xs, (g x).length ≤ b ∧ ∀ acc, acc.length + b ≤ 10000000 → itS2 c e own own1 t ifs t2 k2 its2 ifs2 el x acc m = .ok (acc ++ g x) m) (hl : b * xs.length ≤ 10000000) : compS2 c e own own1 t ifs t2 k2 its2 ifs2 el xs m = .ok (xs.flatMap g) m := by
  rw [compS2_eq, compL_flat g b xs [] h (by simpa using hl)]; simp
theorem run_tbl {tbl : Nat → Option Fn} {sub : Nat → Nat → Bool} {W : Nat} {word : Nat → Option D} {n f : Nat} {g : Fn} {as : List D} {m : Mem} (h : tbl f = some g) : run tbl sub W word (n + 1) f as m = runFn ⟨run tbl sub W word n, sub, W, word⟩ g as m := by rw [run, h]
end Py
namespace Py
/-! ### sorting by insertion, for the kernel -/
def insP (p : Int × Int) : List (Int × Int) → List (Int × Int)
  | [] => [p]
  | q :: qs => if leP p q then p :: q :: qs else q :: insP p qs
def isortP : List (Int × Int) → List (Int × Int)
  | [] => []
  | p :: ps => insP p (isortP ps)
theorem leP_iff (p q : Int × Int) : leP p q = true ↔ p.1 < q.1 ∨ (p.1 = q.1 ∧ p.2 ≤ q.2) := by
  obtain ⟨a, b⟩ := p; obtain ⟨c, d⟩ := q
  simp only [leP, ltP, Bool.not_eq_true']
  split <;> simp <;> omega
theorem leP_trans (p q r : Int × Int) (h1 : leP p q = true) (h2 : leP q r = true) : leP p r = true := by
  rw [leP_iff] at *; omega
theorem leP_total (p q : Int × Int) : (leP p q || leP q p) = true := by
  rw [Bool.or_eq_true, leP_iff, leP_iff]; omega
theorem leP_antisymm (p q : Int × Int) (h1 : leP p q = true) (h2 : leP q p = true) : p = q := by
  rw [leP_iff] at *
  exact Prod.ext (by omega) (by omega)
theorem insP_perm (p : Int × Int) : ∀ qs, (insP p qs).Perm (p :: qs)
  | [] => .refl _
  | q :: qs => by
    unfold insP; split
    · exact .refl _
    · exact ((insP_perm p qs).cons q).trans (.swap p q qs)
theorem isortP_perm : ∀ ps, (isortP ps).Perm ps
  | [] => .refl _
  | p :: ps => (insP_perm p _).trans ((isortP_perm ps).cons p)
theorem insP_sorted (p : Int × Int) : ∀ qs, qs.Pairwise (fun a b => leP a b = true) → (insP p qs).Pairwise (fun a b => leP a b = true)
  | [], _ => by simp [insP]
  | q :: qs, h => by
    unfold insP
    rw [List.pairwise_cons] at h
    split
    · rename_i hp
      refine List.pairwise_cons.mpr ⟨fun x hx => ?_, List.pairwise_cons.mpr h⟩
      rcases List.mem_cons.mp hx with rfl | hx
      · exact hp
      · exact leP_trans _ _ _ hp (h.1 x hx)
    · rename_i hp
      refine List.pairwise_cons.mpr ⟨fun x hx => ?_, insP_sorted p qs h.2⟩
      have := (insP_perm p qs).mem_iff.mp hx
      rcases List.mem_cons.mp this with rfl | hx
      · have := leP_total q x
        simp [hp] at this; simpa [hp] using this
      · exact h.1 x hx
theorem isortP_sorted : ∀ ps, (isortP ps).Pairwise (fun a b => leP a b = true)
  | [] => .nil
  | p :: ps => insP_sorted p _ (isortP_sorted ps)
theorem mergeSort_isort (ps : List (Int × Int)) : ps.mergeSort leP = isortP ps := by
  apply List.Perm.eq_of_pairwise (le := fun a b => leP a b = true)
  · intro a b _ _ h1 h2; exact leP_antisymm a b h1 h2
  · exact List.pairwise_mergeSort leP_trans leP_total ps
  · exact isortP_sorted ps
  · exact (List.mergeSort_perm ps leP).trans (isortP_perm ps).symm
end Py
end

section
set_option linter.all false
set_option Elab.async false
/-! PyAlike: the laws' own likeness (_law_alike). Plain Lean. -/
namespace Py
open PySem (Str)
def alikeB (f : Nat) : List S := [.iff (.or (.prim .isL [.var 1]) (.prim .isT [.var 1])) [.iff (.or (.op .ne (.prim .isL [.var 0]) (.prim .isL [.var 1])) (.op .ne (.prim .isT [.var 0]) (.prim .isT [.var 1]))) [.ret (.lit (.bl false))] [], .ret (.and (.op .eq (.prim .len [.var 0]) (.prim .len [.var 1])) (.op .eq (.comp [2] (.nm 2) .rng1 [.prim .len [.var 1]] [.not (.call f [.idx (.var 0) (.var 2), .idx (.var 1) (.var 2)])] (.var 2)) (.lst [])))] [], .iff (.op .is_ (.var 1) (.lit .non)) [.ret (.op .is_ (.var 0) (.lit .non))] [], .iff (.or (.prim .isB [.var 1]) (.prim .isB [.var 0])) [.ret (.and (.prim .isB [.var 0]) (.and (.prim .isB [.var 1]) (.op .eq (.var 0) (.var 1))))] [], .iff (.prim .isI [.var 1]) [.ret (.and (.prim .isI [.var 0]) (.op .eq (.var 0) (.var 1)))] [], .ret (.and (.prim .isS [.var 0]) (.op .eq (.var 0) (.var 1)))]
def most : Nat := 1000000
theorem most_le : most ≤ 1000000 := Nat.le_refl _
mutual
/-- data through and through -/
def pure_ : D → Bool
  | .non => true
  | .bl _ => true
  | .int _ => true
  | .str _ => true
  | .tup ds => decide (ds.length ≤ most) && pures ds
  | .lst ds => decide (ds.length ≤ most) && pures ds
  | _ => false
def pures : List D → Bool
  | [] => true
  | d :: ds => pure_ d && pures ds
end
mutual
def alk : D → D → Bool
  | .non, .non => true
  | .bl a, .bl b => a == b
  | .int a, .int b => a == b
  | .str a, .str b => a == b
  | .tup xs, .tup ys => alks xs ys
  | .lst xs, .lst ys => alks xs ys
  | _, _ => false
def alks : List D → List D → Bool
  | [], [] => true
  | x :: xs, y :: ys => alk x y && alks xs ys
  | _, _ => false
end
theorem pures_mem {ds : List D} (h : pures ds = true) : ∀ d ∈ ds, pure_ d = true := by
  induction ds with
  | nil => simp
  | cons d ds ih => simp [pures] at h; simp [h.1]; exact ih h.2
theorem pures_of {ds : List D} (h : ∀ d ∈ ds, pure_ d = true) : pures ds = true := by
  induction ds with
  | nil => simp [pures]
  | cons d ds ih => simp [pures, h d (by simp), ih (fun x hx => h x (by simp [hx]))]
theorem pure_plain {d : D} (h : pure_ d = true) : plainK d = true := by cases d <;> first | rfl | (simp [pure_] at h)
theorem alks_len {xs ys : List D} (h : alks xs ys = true) : xs.length = ys.length := by
  induction xs generalizing ys with
  | nil => cases ys <;> simp_all [alks]
  | cons x xs ih => cases ys with
    | nil => simp [alks] at h
    | cons y ys => simp [alks] at h; simp [ih h.2]
theorem alks_iff : ∀ (xs ys : List D), xs.length = ys.length → alks xs ys = (List.range ys.length).all fun (k : Nat) => alk (xs.getD k .non) (ys.getD k .non)
  | [], [], _ => by simp [alks]
  | x :: xs, y :: ys, h => by
    simp at h
    simp [alks, List.range_succ_eq_map, List.all_map, alks_iff xs ys h]
    rfl
mutual
theorem alk_refl : ∀ {d : D}, pure_ d = true → alk d d = true
  | .non, _ => rfl
  | .bl b, _ => by simp [alk]
  | .int i, _ => by simp [alk]
  | .str s, _ => by simp [alk]
  | .tup ds, h => by simp [pure_] at h; simp [alk, alks_refl h.2]
  | .lst ds, h => by simp [pure_] at h; simp [alk, alks_refl h.2]
  | .dct _, h => by simp [pure_] at h
  | .dtp _, h => by simp [pure_] at h
  | .ref _, h => by simp [pure_] at h
  | .exc _, h => by simp [pure_] at h
  | .lck _, h => by simp [pure_] at h
theorem alks_refl : ∀ {ds : List D}, pures ds = true → alks ds ds = true
  | [], _ => rfl
  | d :: ds, h => by simp [pures] at h; simp [alks, alk_refl h.1, alks_refl h.2]
end
theorem dep_mem {ds : List D} {d : D} (h : d ∈ ds) : dep d ≤ deps ds := by
  induction ds with
  | nil => cases h
  | cons x ds ih =>
    simp [deps]
    rcases List.mem_cons.mp h with rfl | h
    · omega
    · have := ih h; omega
theorem alike_fin : ∀ xs ys : List D, xs.length = ys.length → ((((List.range ys.length).map fun (k : Nat) => 0 + (k : Int)).filter fun (i : Int) => !(alk (xs.getD i.toNat .non) (ys.getD i.toNat .non))).map D.int).isEmpty = alks xs ys := by
  intro xs ys hl
  rw [alks_iff xs ys hl, List.isEmpty_map]
  rw [Bool.eq_iff_iff]
  simp [List.isEmpty_iff, List.filter_eq_nil_iff]
theorem alike_body {tbl : Nat → Option Fn} {sub : Nat → Nat → Bool} {W : Nat} {word : Nat → Option D} {f : Nat} (hf : tbl f = some ⟨2, 3, alikeB f, false⟩) (m : Mem) (M : most ≤ 1000000) (k n : Nat) (ih : ∀ (n : Nat) (x y : D), pure_ x = true → pure_ y = true → dep y ≤ k → run tbl sub W word (n + k + 1) f [x, y] m = .ok (.bl (alk x y)) m) : ∀ xs ys : List D, pures xs = true → pures ys = true → xs.length = ys.length → ys.length ≤ most → deps ys ≤ k → ∀ X Y : D, (X = .tup xs ∨ X = .lst xs) → (Y = .tup ys ∨ Y = .lst ys) → compS ⟨run tbl sub W word (n + (k + 1)), sub, W, word⟩ [some X, some Y, none] [2] (.nm 2) [.not (.call f [.idx (.var 0) (.var 2), .idx (.var 1) (.var 2)])] (.var 2) (rng 0 ys.length) m = .ok ((((List.range ys.length).map fun (k : Nat) => 0 + (k : Int)).filter fun (i : Int) => !(alk (xs.getD i.toNat .non) (ys.getD i.toNat .non))).map D.int) m := by
  intro xs ys hxs hys hl hy6 hdy X Y hX hY
  refine compS_rng_filter (fun i => !(alk (xs.getD i.toNat .non) (ys.getD i.toNat .non))) D.int ?_ (by omega)
  intro i h1 h2 acc ha
  obtain ⟨j, rfl⟩ : ∃ j : Nat, i = j := ⟨i.toNat, by omega⟩
  have jx : j < xs.length := by omega
  have jy : j < ys.length := by omega
  have a1 : at? xs (j : Int) = some xs[j] := by rw [at_nat, List.getElem?_eq_getElem jx]
  have a2 : at? ys (j : Int) = some ys[j] := by rw [at_nat, List.getElem?_eq_getElem jy]
  have i1 : idxR X (.int j) m = .ok xs[j] m := by rcases hX with rfl | rfl <;> simp [idxR, idxD, idxS, dctOf, a1]
  have i2 : idxR Y (.int j) m = .ok ys[j] m := by rcases hY with rfl | rfl <;> simp [idxR, idxD, idxS, dctOf, a2]
  have r := ih n xs[j] ys[j] (pures_mem hxs _ (List.getElem_mem jx)) (pures_mem hys _ (List.getElem_mem jy)) (Nat.le_trans (dep_mem (List.getElem_mem jy)) hdy)
  have g1 : xs.getD (j : Int).toNat .non = xs[j] := by simp [jx]
  have g2 : ys.getD (j : Int).toNat .non = ys[j] := by simp [jy]
  rw [show n + (k + 1) = n + k + 1 from rfl]
  simp only [g1, g2]
  cases hb : alk xs[j] ys[j] <;> rw [hb] at r <;> simp [itS, wipeE, bindT, i1, i2, r, ha]
theorem alike_zero {tbl : Nat → Option Fn} {sub : Nat → Nat → Bool} {W : Nat} {word : Nat → Option D} {f : Nat} (hf : tbl f = some ⟨2, 3, alikeB f, false⟩) (m : Mem) (n : Nat) (x y : D) (px : plainK x = true) (py : plainK y = true) (hd : dep y ≤ 0) : runFn ⟨run tbl sub W word (n + 0), sub, W, word⟩ ⟨2, 3, alikeB f, false⟩ [x, y] m = .ok (.bl (alk x y)) m := by
  cases y with
  | tup ys => simp [dep] at hd
  | lst ys => simp [dep] at hd
  | non => simp [runFn, alikeB, pr_isL, pr_isT, px, opR_is_non]; cases x <;> simp [alk, isNon]
  | bl b => cases x <;> first | (simp [plainK] at px; done) | simp [runFn, alikeB, pr_isL, pr_isT, pr_isB, px, opR_is_non, alk]
  | int b => cases x <;> first | (simp [plainK] at px; done) | simp [runFn, alikeB, pr_isL, pr_isT, pr_isB, pr_isI, px, opR_is_non, alk]
  | str b => cases x <;> first | (simp [plainK] at px; done) | simp [runFn, alikeB, pr_isL, pr_isT, pr_isB, pr_isI, pr_isS, px, opR_is_non, alk]
  | dct _ => simp [plainK] at py
  | dtp _ => simp [plainK] at py
  | ref _ => simp [plainK] at py
  | exc _ => simp [plainK] at py
  | lck _ => simp [plainK] at py
theorem alike_run {tbl : Nat → Option Fn} {sub : Nat → Nat → Bool} {W : Nat} {word : Nat → Option D} {f : Nat} (hf : tbl f = some ⟨2, 3, alikeB f, false⟩) (m : Mem) :
    ∀ (k n : Nat) (x y : D), pure_ x = true → pure_ y = true → dep y ≤ k → run tbl sub W word (n + k + 1) f [x, y] m = .ok (.bl (alk x y)) m := by
  have M := most_le
  intro k
  induction k with
  | zero =>
    intro n x y hx hy hd
    rw [run_tbl hf]
    have px := pure_plain hx
    have py := pure_plain hy
    exact alike_zero hf m n x y px py hd
  | succ k ih =>
    intro n x y hx hy hd
    rw [run_tbl hf]
    have px := pure_plain hx
    have py := pure_plain hy
    have body := alike_body hf m M k n ih
    cases y with
    | tup ys =>
      simp [pure_] at hy
      have hr : okB (ys.length : Int) = true := okB_mk (by omega) (by omega)
      simp [dep] at hd
      cases x with
      | tup xs =>
        simp [pure_] at hx
        by_cases hl : xs.length = ys.length
        · obtain ⟨L, b, f2⟩ : ∃ L, compS ⟨run tbl sub W word (n + (k + 1)), sub, W, word⟩ [some (.tup xs), some (.tup ys), none] [2] (.nm 2) [.not (.call f [.idx (.var 0) (.var 2), .idx (.var 1) (.var 2)])] (.var 2) (rng 0 ys.length) m = .ok L m ∧ L.isEmpty = alks xs ys := ⟨_, body xs ys hx.2 hy.2 hl hy.1 (by omega) (.tup xs) (.tup ys) (.inl rfl) (.inl rfl), alike_fin xs ys hl⟩
          simp only [alk]
          rw [← f2]
          simp [runFn, alikeB, pr_isL, pr_isT, hl, range_nat _ _ hr, b, opR_eq_nil]
        · have : alks xs ys = false := by
            cases h : alks xs ys
            · rfl
            · exact absurd (alks_len h) hl
          simp [runFn, alikeB, pr_isL, pr_isT, alk, this, show ((xs.length : Int) == (ys.length : Int)) = false by simp; omega]
      | _ => first | (simp [plainK] at px; done) | simp [runFn, alikeB, pr_isL, pr_isT, alk]
    | lst ys =>
      simp [pure_] at hy
      have hr : okB (ys.length : Int) = true := okB_mk (by omega) (by omega)
      simp [dep] at hd
      cases x with
      | lst xs =>
        simp [pure_] at hx
        by_cases hl : xs.length = ys.length
        · obtain ⟨L, b, f2⟩ : ∃ L, compS ⟨run tbl sub W word (n + (k + 1)), sub, W, word⟩ [some (.lst xs), some (.lst ys), none] [2] (.nm 2) [.not (.call f [.idx (.var 0) (.var 2), .idx (.var 1) (.var 2)])] (.var 2) (rng 0 ys.length) m = .ok L m ∧ L.isEmpty = alks xs ys := ⟨_, body xs ys hx.2 hy.2 hl hy.1 (by omega) (.lst xs) (.lst ys) (.inr rfl) (.inr rfl), alike_fin xs ys hl⟩
          simp only [alk]
          rw [← f2]
          simp [runFn, alikeB, pr_isL, pr_isT, hl, range_nat _ _ hr, b, opR_eq_nil]
        · have : alks xs ys = false := by
            cases h : alks xs ys
            · rfl
            · exact absurd (alks_len h) hl
          simp [runFn, alikeB, pr_isL, pr_isT, alk, this, show ((xs.length : Int) == (ys.length : Int)) = false by simp; omega]
      | _ => first | (simp [plainK] at px; done) | simp [runFn, alikeB, pr_isL, pr_isT, alk]
    | non => simp [runFn, alikeB, pr_isL, pr_isT, px, opR_is_non]; cases x <;> simp [alk, isNon]
    | bl b => cases x <;> first | (simp [plainK] at px; done) | simp [runFn, alikeB, pr_isL, pr_isT, pr_isB, px, opR_is_non, alk]
    | int b => cases x <;> first | (simp [plainK] at px; done) | simp [runFn, alikeB, pr_isL, pr_isT, pr_isB, pr_isI, px, opR_is_non, alk]
    | str b => cases x <;> first | (simp [plainK] at px; done) | simp [runFn, alikeB, pr_isL, pr_isT, pr_isB, pr_isI, pr_isS, px, opR_is_non, alk]
    | dct _ => simp [plainK] at py
    | dtp _ => simp [plainK] at py
    | ref _ => simp [plainK] at py
    | exc _ => simp [plainK] at py
    | lck _ => simp [plainK] at py
end Py
end

section
set_option linter.all false
set_option Elab.async false
set_option maxRecDepth 20000
/-! PyFig: cells and tuples of cells as data: in, ==, keys. Plain Lean. -/
namespace Py
open PySem (Str)
abbrev Cell := Int × Int
abbrev figD (F : List Cell) : D := .tup (F.map cellD)
theorem keyOk_cell (p : Cell) : keyOk (cellD p) = true := by simp [keyOk, cellD, isTupD, keyd, keyds, dep, deps]
theorem in_ok (ps : List Cell) (p : Cell) : min (deps (ps.map cellD)) (dep (cellD p)) ≤ dq ∧ plainK (cellD p) = true := ⟨by rw [dep_cell]; simp [dq]; omega, rfl⟩
theorem in_lst (p : Cell) (ps : List Cell) (m : Mem) : opR .in_ (cellD p) (.lst (ps.map cellD)) m = .ok (.bl (decide (p ∈ ps))) m := by
  apply opR_some
  simp only [op2, inD, der_cell, dctOf, inS, der_lst, Option.bind_some, if_pos (in_ok ps p), any_cell]; rfl
theorem in_tup (p : Cell) (ps : List Cell) (m : Mem) : opR .in_ (cellD p) (.tup (ps.map cellD)) m = .ok (.bl (decide (p ∈ ps))) m := by
  apply opR_some
  simp only [op2, inD, der_cell, dctOf, inS, der_tup', Option.bind_some, if_pos (in_ok ps p), any_cell]; rfl
theorem notin_lst (p : Cell) (ps : List Cell) (m : Mem) : opR .notin (cellD p) (.lst (ps.map cellD)) m = .ok (.bl !(decide (p ∈ ps))) m := by
  apply opR_some
  simp only [op2, inD, der_cell, dctOf, inS, der_lst, Option.bind_some, if_pos (in_ok ps p), any_cell]; rfl
theorem notin_tup (p : Cell) (ps : List Cell) (m : Mem) : opR .notin (cellD p) (.tup (ps.map cellD)) m = .ok (.bl !(decide (p ∈ ps))) m := by
  apply opR_some
  simp only [op2, inD, der_cell, dctOf, inS, der_tup', Option.bind_some, if_pos (in_ok ps p), any_cell]; rfl
theorem notin_ref (p : Cell) (ps : List Cell) (m : Mem) (l : Nat) (h : m[l]? = some (.lst (ps.map cellD))) : opR .notin (cellD p) (.ref l) m = .ok (.bl !(decide (p ∈ ps))) m := by
  apply opR_some
  have h0 : dctOf m (.ref l) = none := by simp [dctOf, h]
  simp only [op2, inD, der_cell, h0, inS, der_ref m h, Option.bind_some, if_pos (in_ok ps p), any_cell]; rfl
theorem beq_nat (a b : Nat) : ((a : Int) == (b : Int)) = decide (a = b) := by
  by_cases h : a = b
  · subst h; simp
  · have : ((a : Int) == (b : Int)) = false := by rw [beq_eq_false_iff_ne]; omega
    rw [this]; simp [h]
/-! ### the law's hangs -/
def onC {α : Type} (d : D) (z : α) (f : Cell → α) : α := match d with
  | .tup [.int x, .int y] => f (x, y)
  | _ => z
theorem onC_cell {α : Type} (p : Cell) (z : α) (f : Cell → α) : onC (cellD p) z f = f p := rfl
theorem compS_cf {c : Cfg} {e : Env} {own : List Nat} {t : Tg} {ifs : List C} {el : C} {m : Mem} (p : Cell → Bool) (g : Cell → D) {ps : List Cell} (h : ∀ x ∈ ps, ∀ acc, fits acc.length = true → itS c e own t ifs el (cellD x) acc m = .ok (if p x then acc ++ [g x] else acc) m) (hl : ps.length ≤ 10000000) : compS c e own t ifs el (ps.map cellD) m = .ok ((ps.filter p).map g) m := by
  rw [compS_filter (fun d => onC d false p) (fun d => onC d .non g) ?_ (by simpa using hl)]
  · rw [List.filter_map, List.map_map]; rfl
  · intro x hx acc ha
    obtain ⟨q, hq, rfl⟩ := List.mem_map.mp hx
    rw [onC_cell, onC_cell]
    exact h q hq acc ha
theorem i0 (p : Cell) (m : Mem) : idxR (cellD p) (.int 0) m = .ok (.int p.1) m := idxR_tup rfl
theorem i1 (p : Cell) (m : Mem) : idxR (cellD p) (.int 1) m = .ok (.int p.2) m := idxR_tup rfl
theorem eqB_fig (a b : List Cell) : eqB (figD a) (figD b) = decide (a = b) := by rw [figD, figD, eqB, eqBs_cells]
theorem dep_fig (a : List Cell) : dep (figD a) ≤ 2 := by have := deps_cells a; simp [figD, dep]; omega
theorem deps_figs (L : List (List Cell)) : deps (L.map figD) ≤ 2 := deps_le fun d hd => by obtain ⟨p, _, rfl⟩ := List.mem_map.mp hd; exact dep_fig p
theorem any_fig (L : List (List Cell)) (q : List Cell) : ((L.map figD).any fun y => eqB y (figD q)) = decide (q ∈ L) := by
  induction L with
  | nil => simp
  | cons p L ih => rw [List.map_cons, List.any_cons, ih, eqB_fig]; simp [eq_comm, Bool.decide_or]
theorem keyds_cells : ∀ ps : List Cell, keyds (ps.map cellD) = true
  | [] => rfl
  | p :: ps => by simp [keyds, keyds_cells ps, cellD, keyd]
theorem keyOk_fig (ps : List Cell) : keyOk (figD ps) = true := by
  have := dep_fig ps
  simp only [keyOk, Bool.and_eq_true, decide_eq_true_eq]
  exact ⟨⟨rfl, by simp [figD, keyd, keyds_cells]⟩, by omega⟩
theorem lt_cell (p q : Cell) (m : Mem) : opR .lt (cellD p) (cellD q) m = .ok (.bl (ltP p q)) m := by
  apply opR_some
  have : min (dep (cellD p)) (dep (cellD q)) ≤ dq := by rw [dep_cell, dep_cell]; decide
  simp only [op2, ltC, if_pos (And.intro this (ordOk_cell _ _)), ltB_cell]; rfl
theorem isnot_bl (a b : Bool) (m : Mem) : opR .isnot (.bl a) (.bl b) m = .ok (.bl !(a == b)) m := opR_some rfl
theorem eq_fig (a b : List Cell) (m : Mem) : opR .eq (figD a) (figD b) m = .ok (.bl (decide (a = b))) m := by
  rw [opR_some (op_eq_l m (by have := dep_fig a; simp only [dq]; omega) rfl rfl), eqB_fig]
theorem ne_nilT (F : List Cell) (m : Mem) : opR .ne (figD F) (.tup []) m = .ok (.bl !F.isEmpty) m := by
  rw [opR_some (op_ne_r m (by decide) rfl rfl)]
  cases F <;> simp [eqB, eqBs]
/-! ### the law, step by step -/
theorem pure_cell (p : Cell) : pure_ (cellD p) = true := by simp [cellD, pure_, pures, most]
theorem pure_fig {F : List Cell} (h : F.length ≤ 1000) : pure_ (figD F) = true := by
  simp only [figD, pure_, Bool.and_eq_true, decide_eq_true_eq]
  exact ⟨by simp [most]; omega, pures_of fun d hd => by obtain ⟨p, _, rfl⟩ := List.mem_map.mp hd; exact pure_cell p⟩
theorem gt_cell (p q : Int × Int) (m : Mem) : opR .gt (cellD p) (cellD q) m = .ok (.bl (ltP q p)) m := by
  apply opR_some
  have : min (dep (cellD q)) (dep (cellD p)) ≤ dq := by rw [dep_cell, dep_cell]; decide
  simp only [op2, ltC, if_pos (And.intro this (ordOk_cell _ _)), ltB_cell]; rfl
theorem ne_cell (p q : Int × Int) (m : Mem) : opR .ne (cellD p) (cellD q) m = .ok (.bl !(decide (p = q))) m := by
  apply opR_some
  rw [op_ne_l m (by rw [dep_cell]; decide) (plainK_cell _) (plainK_cell _), eqB_cell]
theorem eq_cell (p q : Cell) (m : Mem) : opR .eq (cellD p) (cellD q) m = .ok (.bl (decide (p = q))) m := by
  apply opR_some
  rw [op_eq_l m (by rw [dep_cell]; decide) (plainK_cell _) (plainK_cell _), eqB_cell]
end Py
end

section
set_option Elab.async false
set_option linter.all false
set_option maxRecDepth 100000
set_option maxHeartbeats 4000000
namespace K74
open PySem (Str)
open Py
/-- _law_draws(script, draws, cell, number, first, k, seed) -/
def b0 : List Py.S := [.asg (.nm 1) (.mut (.lst [])), .for_ (.nm 2) .seq [.var 0] [.asg (.nm 3) (.prim .abs [.var 2]), .iff (.op .lt (.var 3) (.op .pow (.lit (.int 10)) (.lit (.int 18)))) [.asg (.nm 4) (.op .mod (.prim .int [.op .add (.op .mul (.var 3) (.lit (.int 48271))) (.lit (.int 11))]) (.lit (.int 2147483647))), .expr (.meth .append (.var 1) [.op .mod (.prim .int [.op .add (.op .mul (.var 4) (.lit (.int 69621))) (.var 3)]) (.lit (.int 2147483629))]), .expr (.meth .append (.var 1) [.op .mod (.prim .int [.op .add (.var 4) (.op .fdiv (.var 3) (.lit (.int 7)))]) (.lit (.int 1000003))]), .asg (.nm 3) (.lit (.int 0))] [], .for_ (.nm 5) .rng1 [.lit (.int 60)] [.iff (.op .gt (.var 3) (.lit (.int 0))) [.expr (.meth .append (.var 1) [.op .mod (.prim .int [.var 3]) (.lit (.int 997))]), .asg (.nm 3) (.op .fdiv (.var 3) (.lit (.int 997)))] []]], .asg (.nm 6) (.lit (.int 1)), .iff (.op .gt (.prim .len [.var 0]) (.lit (.int 0))) [.asg (.nm 6) (.op .add (.lit (.int 1)) (.prim .abs [.idx (.var 0) (.lit (.int 0))]))] [], .for_ (.nm 5) .rng1 [.lit (.int 900)] [.asg (.nm 6) (.op .mod (.prim .int [.op .add (.op .mul (.var 6) (.lit (.int 48271))) (.lit (.int 69621))]) (.lit (.int 2147483647))), .expr (.meth .append (.var 1) [.op .fdiv (.var 6) (.lit (.int 5))])], .ret (.mut (.prim .listrev [.var 1]))]
/-- _law_take(draws, bound) -/
def b1 : List Py.S := [.iff (.op .eq (.prim .len [.var 0]) (.lit (.int 0))) [.ret (.lit (.int 0))] [], .ret (.op .mod (.prim .int [.meth .pop (.var 0) []]) (.var 1))]
/-- _law_grid(r, c, k) -/
def b2 : List Py.S := [.ret (.comp [2] (.nm 2) .rng1 [.op .mul (.var 0) (.var 1)] [] (.tup [.op .fdiv (.prim .int [.var 2]) (.var 1), .op .mod (.prim .int [.var 2]) (.var 1)]))]
/-- _law_ends(r, c, one, cells, near, x, y, powers, k, start, rows, turn, later, gone, last) -/
def b3 : List Py.S := [.par [3, 4] [.call 2 [.var 0, .var 1], .mut (.lst [])], .for_ (.tp [.nm 5, .nm 6]) .seq [.var 3] [.expr (.meth .append (.var 4) [.comp [8] (.nm 8) .rng1 [.prim .len [.var 3]] [.op .eq (.op .add (.prim .abs [.op .sub (.idx (.idx (.var 3) (.var 8)) (.lit (.int 0))) (.var 5)]) (.prim .abs [.op .sub (.idx (.idx (.var 3) (.var 8)) (.lit (.int 1))) (.var 6)])) (.lit (.int 1))] (.var 8)])], .asg (.nm 7) (.mut (.lst [.lit (.int 1)])), .for_ (.nm 8) .rng1 [.prim .len [.var 3]] [.expr (.meth .append (.var 7) [.op .mul (.lit (.int 2)) (.idx (.var 7) (.neg (.lit (.int 1))))])], .asg (.nm 9) (.meth .index (.var 3) [.var 2]), .asg (.nm 10) (.dnew1 (.tup [.idx (.var 7) (.var 9), .var 9]) (.lit (.bl true))), .for_ (.nm 11) .rng1 [.op .sub (.prim .len [.var 3]) (.lit (.int 1))] [.asg (.nm 12) (.dnew), .for_ (.tp [.nm 13, .nm 14]) .seq [.dkeys (.var 10)] [.for_ (.nm 8) .seq [.idx (.var 4) (.var 14)] [.iff (.op .eq (.op .mod (.prim .int [.op .fdiv (.var 13) (.idx (.var 7) (.var 8))]) (.lit (.int 2))) (.lit (.int 0))) [.setix (.var 12) (.tup [.op .add (.var 13) (.idx (.var 7) (.var 8)), .var 8]) (.lit (.bl true))] []]], .asg (.nm 10) (.var 12)], .ret (.prim .sorted [.comp [13, 14] (.tp [.nm 13, .nm 14]) .seq [.dkeys (.var 10)] [] (.idx (.var 3) (.var 14))])]
/-- _law_alike(found, due, k) -/
def b4 : List Py.S := [.iff (.or (.prim .isL [.var 1]) (.prim .isT [.var 1])) [.iff (.or (.op .ne (.prim .isL [.var 0]) (.prim .isL [.var 1])) (.op .ne (.prim .isT [.var 0]) (.prim .isT [.var 1]))) [.ret (.lit (.bl false))] [], .ret (.and (.op .eq (.prim .len [.var 0]) (.prim .len [.var 1])) (.op .eq (.comp [2] (.nm 2) .rng1 [.prim .len [.var 1]] [.not (.call 4 [.idx (.var 0) (.var 2), .idx (.var 1) (.var 2)])] (.var 2)) (.lst [])))] [], .iff (.op .is_ (.var 1) (.lit .non)) [.ret (.op .is_ (.var 0) (.lit .non))] [], .iff (.or (.prim .isB [.var 1]) (.prim .isB [.var 0])) [.ret (.and (.prim .isB [.var 0]) (.and (.prim .isB [.var 1]) (.op .eq (.var 0) (.var 1))))] [], .iff (.prim .isI [.var 1]) [.ret (.and (.prim .isI [.var 0]) (.op .eq (.var 0) (.var 1)))] [], .ret (.and (.prim .isS [.var 0]) (.op .eq (.var 0) (.var 1)))]
/-- is_number(value, least, most) -/
def b5 : List Py.S := [.ret (.and (.prim .isI [.var 0]) (.and (.not (.prim .isB [.var 0])) (.chn .le .le (.var 1) (.var 0) (.var 2))))]
/-- check_sides(r, c) -/
def b6 : List Py.S := [.iff (.or (.not (.call 5 [.var 0, .lit (.int 1), .lit (.int 10)])) (.not (.call 5 [.var 1, .lit (.int 1), .lit (.int 10)]))) [.raise 1] []]
/-- grid(r, c, x, y) -/
def b7 : List Py.S := [.expr (.call 6 [.var 0, .var 1]), .ret (.prim .tuple [.comp2 [2, 3] [3] (.nm 2) .rng1 [.var 0] [] (.nm 3) .rng1 [.var 1] [] (.tup [.var 2, .var 3])])]
/-- is_barred(c, one, other, x, y, later) -/
def b8 : List Py.S := [.asg (.tp [.tp [.nm 3, .nm 4], .nm 5]) (.tup [.var 1, .idx (.var 2) (.lit (.int 1))]), .ret (.and (.op .eq (.op .mod (.op .add (.var 3) (.var 4)) (.lit (.int 2))) (.lit (.int 1))) (.or (.op .lt (.var 4) (.op .sub (.var 5) (.lit (.int 1)))) (.and (.op .eq (.var 3) (.lit (.int 1))) (.op .lt (.var 4) (.var 5)))))]
/-- is_three(c, one, other, mirrored, pairs, x, y, first, second) -/
def b9 : List Py.S := [.asg (.nm 3) (.comp [5, 6] (.tp [.nm 5, .nm 6]) .seq [.tup [.var 1, .var 2]] [] (.tup [.var 5, .op .sub (.op .sub (.var 0) (.lit (.int 1))) (.var 6)])), .asg (.nm 4) (.lst [.tup [.var 1, .var 2], .tup [.var 2, .var 1], .tup [.idx (.var 3) (.lit (.int 0)), .idx (.var 3) (.lit (.int 1))], .tup [.idx (.var 3) (.lit (.int 1)), .idx (.var 3) (.lit (.int 0))]]), .ret (.any [7, 8] (.tp [.nm 7, .nm 8]) .seq [.var 4] (.call 8 [.var 0, .var 7, .var 8]))]
/-- rule(r, c, one, other, a, b, x, y) -/
def b10 : List Py.S := [.asg (.tp [.tp [.nm 4, .nm 5], .tp [.nm 6, .nm 7]]) (.tup [.var 2, .var 3]), .iff (.or (.and (.op .eq (.op .mod (.op .mul (.var 0) (.var 1)) (.lit (.int 2))) (.lit (.int 0))) (.op .eq (.op .mod (.op .add (.op .add (.op .add (.var 4) (.var 5)) (.var 6)) (.var 7)) (.lit (.int 2))) (.lit (.int 0)))) (.and (.op .eq (.op .mod (.op .mul (.var 0) (.var 1)) (.lit (.int 2))) (.lit (.int 1))) (.or (.op .eq (.op .mod (.op .add (.var 4) (.var 5)) (.lit (.int 2))) (.lit (.int 1))) (.op .eq (.op .mod (.op .add (.var 6) (.var 7)) (.lit (.int 2))) (.lit (.int 1)))))) [.ret (.lit (.bl false))] [], .iff (.op .eq (.var 0) (.lit (.int 1))) [.ret (.op .eq (.prim .sorted [.lst [.var 5, .var 7]]) (.lst [.lit (.int 0), .op .sub (.var 1) (.lit (.int 1))]))] [], .iff (.op .eq (.var 0) (.lit (.int 2))) [.ret (.or (.op .ne (.var 5) (.var 7)) (.op .in_ (.var 5) (.tup [.lit (.int 0), .op .sub (.var 1) (.lit (.int 1))])))] [], .ret (.or (.op .ne (.var 0) (.lit (.int 3))) (.or (.op .eq (.op .mod (.var 1) (.lit (.int 2))) (.lit (.int 1))) (.not (.call 9 [.var 1, .var 2, .var 3]))))]
/-- has_trail(r, c, one, other, cells) -/
def b11 : List Py.S := [.asg (.nm 4) (.call 7 [.var 0, .var 1]), .iff (.or (.op .notin (.var 2) (.var 4)) (.op .notin (.var 3) (.var 4))) [.raise 3] [], .iff (.op .eq (.var 2) (.var 3)) [.ret (.op .eq (.prim .len [.var 4]) (.lit (.int 1)))] [], .iff (.op .gt (.var 0) (.var 1)) [.ret (.call 10 [.var 1, .var 0, .slr (.var 2) none, .slr (.var 3) none])] [], .ret (.call 10 [.var 0, .var 1, .var 2, .var 3])]
/-- sides_of(cell, x, y) -/
def b12 : List Py.S := [.asg (.tp [.nm 1, .nm 2]) (.var 0), .ret (.lst [.tup [.op .sub (.var 1) (.lit (.int 1)), .var 2], .tup [.var 1, .op .sub (.var 2) (.lit (.int 1))], .tup [.var 1, .op .add (.var 2) (.lit (.int 1))], .tup [.op .add (.var 1) (.lit (.int 1)), .var 2]])]
/-- gone_on(cells, way, goal, dead, key, side, found) -/
def b13 : List Py.S := [.iff (.op .eq (.prim .len [.var 1]) (.prim .len [.var 0])) [.ret (.ite (.op .eq (.idx (.var 1) (.neg (.lit (.int 1)))) (.var 2)) (.var 1) (.lit .non))] [], .asg (.nm 4) (.tup [.prim .tuple [.prim .sorted [.var 1]], .idx (.var 1) (.neg (.lit (.int 1)))]), .iff (.or (.op .in_ (.var 4) (.var 3)) (.op .eq (.idx (.var 1) (.neg (.lit (.int 1)))) (.var 2))) [.ret (.lit .non)] [], .for_ (.nm 5) .seq [.call 12 [.idx (.var 1) (.neg (.lit (.int 1)))]] [.iff (.and (.op .in_ (.var 5) (.var 0)) (.op .notin (.var 5) (.var 1))) [.asg (.nm 6) (.call 13 [.var 0, .tup [.star (.var 1), .var 5], .var 2, .var 3]), .iff (.op .isnot (.var 6) (.lit .non)) [.ret (.var 6)] []] []], .setix (.var 3) (.var 4) (.lit (.bl true)), .ret (.lit .non)]
/-- trail(r, c, one, other, there) -/
def b14 : List Py.S := [.asg (.nm 4) (.call 11 [.var 0, .var 1, .var 2, .var 3]), .iff (.op .gt (.op .mul (.var 0) (.var 1)) (.lit (.int 20))) [.raise 5] [], .ret (.ite (.var 4) (.call 13 [.call 7 [.var 0, .var 1], .tup [.var 2], .var 3, .dnew]) (.lit .non))]
/-- _law_asked(which, r, c, one, other, e) -/
def b15 : List Py.S := [.tryRet [.ret (.ite (.op .eq (.var 0) (.lit (.int 0))) (.call 11 [.var 1, .var 2, .var 3, .var 4]) (.call 14 [.var 1, .var 2, .var 3, .var 4]))] 0]
/-- _law_is_trail(r, c, one, other, value, cell, part, k) -/
def b16 : List Py.S := [.iff (.or (.not (.prim .isT [.var 4])) (.op .ne (.prim .len [.var 4]) (.op .mul (.var 0) (.var 1)))) [.ret (.lit (.bl false))] [], .for_ (.nm 5) .seq [.var 4] [.iff (.or (.not (.prim .isT [.var 5])) (.or (.op .ne (.prim .len [.var 5]) (.lit (.int 2))) (.op .ne (.comp [6] (.nm 6) .seq [.var 5] [.or (.prim .isB [.var 6]) (.not (.prim .isI [.var 6]))] (.var 6)) (.lst [])))) [.ret (.lit (.bl false))] []], .iff (.or (.op .ne (.prim .sorted [.var 4]) (.call 2 [.var 0, .var 1])) (.or (.op .ne (.idx (.var 4) (.lit (.int 0))) (.var 2)) (.op .ne (.idx (.var 4) (.neg (.lit (.int 1)))) (.var 3)))) [.ret (.lit (.bl false))] [], .ret (.op .eq (.comp [7] (.nm 7) .rng2 [.lit (.int 1), .prim .len [.var 4]] [.op .ne (.op .add (.prim .abs [.op .sub (.idx (.idx (.var 4) (.var 7)) (.lit (.int 0))) (.idx (.idx (.var 4) (.op .sub (.var 7) (.lit (.int 1)))) (.lit (.int 0)))]) (.prim .abs [.op .sub (.idx (.idx (.var 4) (.var 7)) (.lit (.int 1))) (.idx (.idx (.var 4) (.op .sub (.var 7) (.lit (.int 1)))) (.lit (.int 1)))])) (.lit (.int 1))] (.var 7)) (.lst []))]
/-- _law_bent(draws, value, k, j, low, high, x, y, found, part) -/
def b17 : List Py.S := [.asg (.tp [.nm 2, .nm 3]) (.tup [.call 1 [.var 0, .prim .len [.var 1]], .call 1 [.var 0, .prim .len [.var 1]]]), .par [4, 5] [.prim .min2 [.var 2, .var 3], .prim .max2 [.var 2, .var 3]], .asg (.tp [.nm 6, .nm 7]) (.idx (.var 1) (.var 2)), .asg (.nm 8) (.mut (.lst [.var 1, .slr (.var 1) none, .prim .list [.var 1], .sl (.var 1) none (some (.neg (.lit (.int 1)))), .op .add (.var 1) (.sl (.var 1) none (some (.lit (.int 1)))), .lit .non, .tup [], .lit (.str "trail"), .op .add (.op .add (.sl (.var 1) none (some (.var 4))) (.slr (.sl (.var 1) (some (.var 4)) (some (.var 5))) none)) (.sl (.var 1) (some (.var 5)) none)])), .iff (.op .lt (.var 4) (.var 5)) [.expr (.meth .append (.var 8) [.op .add (.op .add (.op .add (.op .add (.sl (.var 1) none (some (.var 4))) (.sl (.var 1) (some (.var 5)) (some (.op .add (.var 5) (.lit (.int 1)))))) (.sl (.var 1) (some (.op .add (.var 4) (.lit (.int 1)))) (some (.var 5)))) (.sl (.var 1) (some (.var 4)) (some (.op .add (.var 4) (.lit (.int 1)))))) (.sl (.var 1) (some (.op .add (.var 5) (.lit (.int 1)))) none)])] [], .ret (.op .add (.var 8) (.comp [9] (.nm 9) .seq [.lst [.tup [.op .eq (.var 6) (.lit (.int 1)), .var 7], .lst [.var 6, .var 7], .lit .non, .tup [.var 6, .var 7, .lit (.int 0)], .tup [.var 7, .var 6]]] [] (.op .add (.op .add (.sl (.var 1) none (some (.var 2))) (.tup [.var 9])) (.sl (.var 1) (some (.op .add (.var 2) (.lit (.int 1)))) none))))]
/-- is_cell(value) -/
def b18 : List Py.S := [.iff (.or (.not (.prim .isT [.var 0])) (.op .ne (.prim .len [.var 0]) (.lit (.int 2)))) [.ret (.lit (.bl false))] [], .ret (.and (.call 5 [.idx (.var 0) (.lit (.int 0)), .lit (.int 0), .lit (.int 9)]) (.call 5 [.idx (.var 0) (.lit (.int 1)), .lit (.int 0), .lit (.int 9)]))]
/-- are_all(r, c, value, cell) -/
def b19 : List Py.S := [.iff (.or (.not (.prim .isT [.var 2])) (.or (.op .ne (.prim .len [.var 2]) (.op .mul (.var 0) (.var 1))) (.not (.all [3] (.nm 3) .seq [.var 2] (.call 18 [.var 3]))))) [.ret (.lit (.bl false))] [], .ret (.op .eq (.prim .tuple [.prim .sorted [.var 2]]) (.call 7 [.var 0, .var 1]))]
/-- are_beside(cells, place) -/
def b20 : List Py.S := [.ret (.all [1] (.nm 1) .rng1 [.op .sub (.prim .len [.var 0]) (.lit (.int 1))] (.op .in_ (.idx (.var 0) (.var 1)) (.call 12 [.idx (.var 0) (.op .add (.var 1) (.lit (.int 1)))])))]
/-- is_trail(r, c, one, other, value) -/
def b21 : List Py.S := [.expr (.call 6 [.var 0, .var 1]), .ret (.and (.call 19 [.var 0, .var 1, .var 4]) (.and (.op .eq (.idx (.var 4) (.lit (.int 0))) (.var 2)) (.and (.op .eq (.idx (.var 4) (.neg (.lit (.int 1)))) (.var 3)) (.call 20 [.var 4]))))]
/-- _law_is_small(draws, sizes, r, c, cells, one, ends, other, due, told, value, which) -/
def b22 : List Py.S := [.asg (.nm 1) (.lst [.tup [.lit (.int 1), .lit (.int 5)], .tup [.lit (.int 2), .lit (.int 2)], .tup [.lit (.int 2), .lit (.int 3)], .tup [.lit (.int 2), .lit (.int 5)], .tup [.lit (.int 2), .lit (.int 7)], .tup [.lit (.int 3), .lit (.int 3)], .tup [.lit (.int 3), .lit (.int 4)], .tup [.lit (.int 3), .lit (.int 5)], .tup [.lit (.int 4), .lit (.int 4)], .tup [.lit (.int 5), .lit (.int 3)], .tup [.lit (.int 4), .lit (.int 3)], .tup [.lit (.int 7), .lit (.int 2)], .tup [.lit (.int 6), .lit (.int 1)], .tup [.lit (.int 1), .lit (.int 1)], .tup [.lit (.int 1), .lit (.int 2)], .tup [.lit (.int 2), .lit (.int 8)]]), .asg (.tp [.nm 2, .nm 3]) (.idx (.var 1) (.call 1 [.var 0, .lit (.int 16)])), .asg (.nm 4) (.call 2 [.var 2, .var 3]), .asg (.nm 5) (.idx (.var 4) (.call 1 [.var 0, .prim .len [.var 4]])), .asg (.nm 6) (.call 3 [.var 2, .var 3, .var 5]), .for_ (.nm 7) .seq [.var 4] [.asg (.nm 8) (.and (.op .in_ (.var 7) (.var 6)) (.or (.op .ne (.var 7) (.var 5)) (.op .eq (.prim .len [.var 4]) (.lit (.int 1))))), .iff (.not (.call 4 [.call 15 [.lit (.int 0), .var 2, .var 3, .var 5, .var 7], .var 8])) [.ret (.lit (.bl false))] []], .asg (.nm 7) (.ite (.op .le (.op .add (.prim .len [.var 6]) (.lit (.int 2))) (.op .add (.prim .len [.var 6]) (.prim .len [.var 4]))) (.idx (.op .add (.var 6) (.var 4)) (.call 1 [.var 0, .op .add (.prim .len [.var 6]) (.lit (.int 2))])) (.idx (.var 4) (.lit (.int 0)))), .asg (.nm 9) (.call 15 [.lit (.int 1), .var 2, .var 3, .var 5, .var 7]), .iff (.or (.op .ne (.op .isnot (.var 9) (.lit .non)) (.op .in_ (.var 7) (.var 6))) (.and (.op .isnot (.var 9) (.lit .non)) (.not (.call 16 [.var 2, .var 3, .var 5, .var 7, .var 9])))) [.ret (.lit (.bl false))] [], .for_ (.nm 10) .seq [.call 17 [.var 0, .ite (.op .isnot (.var 9) (.lit .non)) (.var 9) (.prim .tuple [.var 4])]] [.iff (.not (.call 4 [.call 21 [.var 2, .var 3, .var 5, .var 7, .var 10], .call 16 [.var 2, .var 3, .var 5, .var 7, .var 10]])) [.ret (.lit (.bl false))] []], .ret (.and (.op .eq (.comp [11] (.nm 11) .rng1 [.lit (.int 2)] [] (.call 15 [.var 11, .var 2, .var 3, .var 5, .tup [.var 2, .lit (.int 0)]])) (.op .mul (.lst [.lit (.str "none")]) (.lit (.int 2)))) (.op .eq (.call 15 [.lit (.int 0), .var 2, .var 3, .tup [.lit (.int 0), .var 3], .var 5]) (.lit (.str "none"))))]
/-- _law_rule(r, c, one, other, a, b, x, y, first, second, turn, u, v, k) -/
def b23 : List Py.S := [.iff (.op .gt (.var 0) (.var 1)) [.ret (.call 23 [.var 1, .var 0, .slr (.var 2) none, .slr (.var 3) none])] [], .asg (.tp [.tp [.nm 4, .nm 5], .tp [.nm 6, .nm 7]]) (.tup [.var 2, .var 3]), .iff (.or (.and (.op .eq (.op .mod (.op .mul (.var 0) (.var 1)) (.lit (.int 2))) (.lit (.int 0))) (.op .eq (.op .mod (.prim .int [.op .add (.op .add (.op .add (.var 4) (.var 5)) (.var 6)) (.var 7)]) (.lit (.int 2))) (.lit (.int 0)))) (.and (.op .eq (.op .mod (.op .mul (.var 0) (.var 1)) (.lit (.int 2))) (.lit (.int 1))) (.op .ne (.comp [13] (.nm 13) .seq [.lst [.op .add (.var 4) (.var 5), .op .add (.var 6) (.var 7)]] [.op .eq (.op .mod (.prim .int [.var 13]) (.lit (.int 2))) (.lit (.int 1))] (.lit (.int 1))) (.lst [])))) [.ret (.lit (.bl false))] [], .iff (.op .eq (.var 0) (.lit (.int 1))) [.ret (.deq (.var 5) (.var 7) (.lit (.int 0)) (.op .sub (.var 1) (.lit (.int 1))))] [], .iff (.op .eq (.var 0) (.lit (.int 2))) [.ret (.or (.op .ne (.var 5) (.var 7)) (.op .in_ (.var 5) (.lst [.lit (.int 0), .op .sub (.var 1) (.lit (.int 1))])))] [], .iff (.and (.op .eq (.var 0) (.lit (.int 3))) (.op .eq (.op .mod (.prim .int [.var 1]) (.lit (.int 2))) (.lit (.int 0)))) [.for_ (.tp [.nm 8, .nm 9]) .seq [.lst [.tup [.var 2, .var 3], .tup [.var 3, .var 2]]] [.for_ (.nm 10) .rng1 [.lit (.int 2)] [.asg (.tp [.nm 11, .nm 12]) (.ite (.op .eq (.var 10) (.lit (.int 0))) (.lst [.idx (.var 8) (.lit (.int 1)), .idx (.var 9) (.lit (.int 1))]) (.lst [.op .sub (.op .sub (.var 1) (.lit (.int 1))) (.idx (.var 8) (.lit (.int 1))), .op .sub (.op .sub (.var 1) (.lit (.int 1))) (.idx (.var 9) (.lit (.int 1)))])), .iff (.and (.op .eq (.op .mod (.prim .int [.op .add (.idx (.var 8) (.lit (.int 0))) (.var 11)]) (.lit (.int 2))) (.lit (.int 1))) (.and (.op .lt (.var 11) (.var 12)) (.or (.op .eq (.idx (.var 8) (.lit (.int 0))) (.lit (.int 1))) (.op .lt (.var 11) (.op .sub (.var 12) (.lit (.int 1))))))) [.ret (.lit (.bl false))] []]]] [], .ret (.lit (.bl true))]
/-- law(script, draws, turn, r, c, one, other, due, told) -/
def b24 : List Py.S := [.asg (.nm 1) (.call 0 [.var 0]), .iff (.not (.call 22 [.var 1])) [.ret (.lit (.bl false))] [], .for_ (.nm 2) .rng1 [.lit (.int 12)] [.par [3, 4] [.idx (.lst [.op .add (.lit (.int 1)) (.call 1 [.var 1, .lit (.int 10)]), .op .add (.lit (.int 2)) (.call 1 [.var 1, .lit (.int 2)]), .lit (.int 3)]) (.call 1 [.var 1, .lit (.int 3)]), .op .add (.lit (.int 1)) (.call 1 [.var 1, .lit (.int 10)])], .par [5, 6] [.tup [.call 1 [.var 1, .var 3], .call 1 [.var 1, .var 4]], .tup [.call 1 [.var 1, .var 3], .call 1 [.var 1, .var 4]]], .asg (.nm 7) (.ite (.op .ne (.var 5) (.var 6)) (.call 23 [.var 3, .var 4, .var 5, .var 6]) (.op .eq (.op .mul (.var 3) (.var 4)) (.lit (.int 1)))), .asg (.nm 8) (.mut (.lst [.call 15 [.lit (.int 0), .var 3, .var 4, .var 5, .var 6], .call 15 [.lit (.int 0), .var 3, .var 4, .var 6, .var 5], .call 15 [.lit (.int 0), .var 4, .var 3, .slr (.var 5) none, .slr (.var 6) none]])), .expr (.meth .append (.var 8) [.call 15 [.lit (.int 0), .var 3, .var 4, .tup [.op .sub (.op .sub (.var 3) (.lit (.int 1))) (.idx (.var 5) (.lit (.int 0))), .idx (.var 5) (.lit (.int 1))], .tup [.op .sub (.op .sub (.var 3) (.lit (.int 1))) (.idx (.var 6) (.lit (.int 0))), .idx (.var 6) (.lit (.int 1))]]]), .iff (.not (.call 4 [.var 8, .op .mul (.lst [.var 7]) (.lit (.int 4))])) [.ret (.lit (.bl false))] [], .iff (.and (.op .gt (.op .mul (.var 3) (.var 4)) (.lit (.int 20))) (.op .ne (.call 15 [.lit (.int 1), .var 3, .var 4, .var 5, .var 6]) (.lit (.str "much")))) [.ret (.lit (.bl false))] []], .ret (.lit (.bl true))]
def tbl (i : Nat) : Option Fn := match i with
  | 0 => some ⟨1, 7, b0, true⟩
  | 1 => some ⟨2, 2, b1, false⟩
  | 2 => some ⟨2, 3, b2, false⟩
  | 3 => some ⟨3, 15, b3, false⟩
  | 4 => some ⟨2, 3, b4, false⟩
  | 5 => some ⟨3, 3, b5, false⟩
  | 6 => some ⟨2, 2, b6, false⟩
  | 7 => some ⟨2, 4, b7, false⟩
  | 8 => some ⟨3, 6, b8, false⟩
  | 9 => some ⟨3, 9, b9, false⟩
  | 10 => some ⟨4, 8, b10, false⟩
  | 11 => some ⟨4, 5, b11, false⟩
  | 12 => some ⟨1, 3, b12, false⟩
  | 13 => some ⟨4, 7, b13, false⟩
  | 14 => some ⟨4, 5, b14, false⟩
  | 15 => some ⟨5, 6, b15, false⟩
  | 16 => some ⟨5, 8, b16, false⟩
  | 17 => some ⟨2, 10, b17, false⟩
  | 18 => some ⟨1, 1, b18, false⟩
  | 19 => some ⟨3, 4, b19, false⟩
  | 20 => some ⟨1, 2, b20, false⟩
  | 21 => some ⟨5, 5, b21, false⟩
  | 22 => some ⟨1, 12, b22, false⟩
  | 23 => some ⟨4, 14, b23, false⟩
  | 24 => some ⟨1, 9, b24, false⟩
  | _ => none
def sub (q k : Nat) : Bool := match q, k with
  | 0, 0 => true
  | 1, 0 => true
  | 1, 1 => true
  | 2, 0 => true
  | 2, 2 => true
  | 3, 0 => true
  | 3, 3 => true
  | 4, 0 => true
  | 4, 4 => true
  | 5, 0 => true
  | 5, 5 => true
  | _, _ => false
def word (q : Nat) : Option D := match q with
  | 1 => some (.str "range")
  | 3 => some (.str "none")
  | 5 => some (.str "much")
  | _ => none
end K74
end

section
set_option Elab.async false
set_option linter.all false
set_option maxRecDepth 100000
set_option maxHeartbeats 4000000
namespace K74
open PySem PySem.Spec PyProof.Rows L2 GxR GenW Py
open PySem (Str)
variable [Tabs]
def top (i : Nat) : Stmt := PySem.Challenge.pw_setright_k74_whole_trails_through_grids.main.body.getD i (.Pass ⟨0, 0, 0, 0⟩)
def lay : Lay where
  fns := [(0, "_law_draws", 1), (1, "_law_take", 2), (2, "_law_grid", 2), (3, "_law_ends", 3), (4, "_law_alike", 2), (5, "is_number", 3), (6, "check_sides", 2), (7, "grid", 2), (8, "is_barred", 3), (9, "is_three", 3), (10, "rule", 4), (11, "has_trail", 4), (12, "sides_of", 1), (13, "gone_on", 4), (14, "trail", 4), (15, "_law_asked", 5), (16, "_law_is_trail", 5), (17, "_law_bent", 2), (18, "is_cell", 1), (19, "are_all", 3), (20, "are_beside", 1), (21, "is_trail", 5), (22, "_law_is_small", 1), (23, "_law_rule", 4), (24, "law", 1)]
  blts := ["abs", "int", "range", "len", "list", "reversed", "sorted", "isinstance", "tuple", "bool", "str", "any", "min", "max", "all"]
  cls := [(1, "OutOfRange"), (3, "NotThere"), (5, "TooMuch"), (0, "RightError")]
  cons := [("MOST_SIDE", V.int (10)), ("MOST_SEARCHED", V.int (20)), ("MOST_COORDINATE", V.int (9))]
  words := ["_law_word"]
  hdl := [0]
def N0 : List Str := ["script", "draws", "cell", "number", "first", "k", "seed"]
def N1 : List Str := ["draws", "bound"]
def N2 : List Str := ["r", "c", "k"]
def N3 : List Str := ["r", "c", "one", "cells", "near", "x", "y", "powers", "k", "start", "rows", "turn", "later", "gone", "last"]
def N4 : List Str := ["found", "due", "k"]
def N5 : List Str := ["value", "least", "most"]
def N6 : List Str := ["r", "c"]
def N7 : List Str := ["r", "c", "x", "y"]
def N8 : List Str := ["c", "one", "other", "x", "y", "later"]
def N9 : List Str := ["c", "one", "other", "mirrored", "pairs", "x", "y", "first", "second"]
def N10 : List Str := ["r", "c", "one", "other", "a", "b", "x", "y"]
def N11 : List Str := ["r", "c", "one", "other", "cells"]
def N12 : List Str := ["cell", "x", "y"]
def N13 : List Str := ["cells", "way", "goal", "dead", "key", "side", "found"]
def N14 : List Str := ["r", "c", "one", "other", "there"]
def N15 : List Str := ["which", "r", "c", "one", "other", "e"]
def N16 : List Str := ["r", "c", "one", "other", "value", "cell", "part", "k"]
def N17 : List Str := ["draws", "value", "k", "j", "low", "high", "x", "y", "found", "part"]
def N18 : List Str := ["value"]
def N19 : List Str := ["r", "c", "value", "cell"]
def N20 : List Str := ["cells", "place"]
def N21 : List Str := ["r", "c", "one", "other", "value"]
def N22 : List Str := ["draws", "sizes", "r", "c", "cells", "one", "ends", "other", "due", "told", "value", "which"]
def N23 : List Str := ["r", "c", "one", "other", "a", "b", "x", "y", "first", "second", "turn", "u", "v", "k"]
def N24 : List Str := ["script", "draws", "turn", "r", "c", "one", "other", "due", "told"]
section
variable {cl : Nat → Addr} {c : Cfg} {lev : Nat} {X : Cx} {W : WX}
theorem d0 (F : Fs cl c lay lev N0 (defScope (top 28)) 2 false X W) : Mb X cl W c (defBody (top 28)) b0 :=
    mb_cons (s_set F 1 (me_mut (mf_lst (md_nil)))) (
    mb_cons (s_for F (h_nm F 2) (mi_seq (e_var F.toFx 0)) (mb_cons (s_set F 3 (e_abs F.toFx (e_var F.toFx 2))) (
    mb_cons (ms_if (mt_cmp (opLt F.toFx.hu) (bl_ .lt) (e_var F.toFx 3) (me_bin opPow (me_int) (me_int)) rfl) (mb_cons (s_set F 4 (me_bin opMod (e_intOf F.toFx (me_bin opAdd (me_bin opMul (e_var F.toFx 3) (me_int)) (me_int))) (me_int))) (
    mb_cons (ms_expr (e_append F.toFx (e_var F.toFx 1) (me_bin opMod (e_intOf F.toFx (me_bin opAdd (me_bin opMul (e_var F.toFx 4) (me_int)) (e_var F.toFx 3))) (me_int))) rfl) (
    mb_cons (ms_expr (e_append F.toFx (e_var F.toFx 1) (me_bin opMod (e_intOf F.toFx (me_bin opAdd (e_var F.toFx 4) (me_bin opFdiv (e_var F.toFx 3) (me_int)))) (me_int))) rfl) (
    mb_cons (s_set F 3 (me_int)) (
    mb_nil))))) (mb_nil)) (
    mb_cons (s_for F (h_nm F 5) (i_rng1 F.toFx (me_int)) (mb_cons (ms_if (mt_cmp (opGt F.toFx.hu) (bl_ .gt) (e_var F.toFx 3) (me_int) rfl) (mb_cons (ms_expr (e_append F.toFx (e_var F.toFx 1) (me_bin opMod (e_intOf F.toFx (e_var F.toFx 3)) (me_int))) rfl) (
    mb_cons (s_set F 3 (me_bin opFdiv (e_var F.toFx 3) (me_int))) (
    mb_nil))) (mb_nil)) (
    mb_nil))) (
    mb_nil))))) (
    mb_cons (s_set F 6 (me_int)) (
    mb_cons (ms_if (mt_cmp (opGt F.toFx.hu) (bl_ .gt) (e_len F.toFx (e_var F.toFx 0)) (me_int) rfl) (mb_cons (s_set F 6 (me_bin opAdd (me_int) (e_abs F.toFx (e_idx F.toFx (e_var F.toFx 0) (me_int) (fun _ _ => rfl))))) (
    mb_nil)) (mb_nil)) (
    mb_cons (s_for F (h_nm F 5) (i_rng1 F.toFx (me_int)) (mb_cons (s_set F 6 (me_bin opMod (e_intOf F.toFx (me_bin opAdd (me_bin opMul (e_var F.toFx 6) (me_int)) (me_int))) (me_int))) (
    mb_cons (ms_expr (e_append F.toFx (e_var F.toFx 1) (me_bin opFdiv (e_var F.toFx 6) (me_int))) rfl) (
    mb_nil)))) (
    mb_cons (ms_ret (me_mut (f_listrev F.toFx (e_var F.toFx 1)))) (
    mb_nil))))))
theorem d1 (F : Fs cl c lay lev N1 (defScope (top 29)) 2 false X W) : Mb X cl W c (defBody (top 29)) b1 :=
    mb_cons (ms_if (mt_cmp (opEq F.toFx.hu) (bl_ .eq) (e_len F.toFx (e_var F.toFx 0)) (me_int) rfl) (mb_cons (ms_ret (me_int)) (
    mb_nil)) (mb_nil)) (
    mb_cons (ms_ret (me_bin opMod (e_intOf F.toFx (e_pop F.toFx (e_var F.toFx 0))) (e_var F.toFx 1))) (
    mb_nil))
theorem d2 (F : Fs cl c lay lev N2 (defScope (top 32)) 2 false X W) : Mb X cl W c (defBody (top 32)) b2 :=
    mb_cons (ms_ret ((f_lc F.toFx [("k", 2)] (i_rng1 F.toFx (me_bin opMul (e_var F.toFx 0) (e_var F.toFx 1))) (fun Y1 G1 => ⟨g_nm G1 2, mc_nil, me_tup (d_cons (me_bin opFdiv (e_intOf G1 (e_var G1 2)) (e_var G1 1)) (d_cons (me_bin opMod (e_intOf G1 (e_var G1 2)) (e_var G1 1)) (md_nil)))⟩)).me)) (
    mb_nil)
theorem d3 (F : Fs cl c lay lev N3 (defScope (top 33)) 2 false X W) : Mb X cl W c (defBody (top 33)) b3 :=
    mb_cons (s_parU F 3 4 (e_call F.toFx (a_cons (e_var F.toFx 0) (a_cons (e_var F.toFx 1) (ma_nil)))) (me_mut (mf_lst (md_nil)))) (
    mb_cons (s_for F (g_tp F.toFx (gs_cons (h_nm F 5) (gs_cons (h_nm F 6) (mgs_nil)))) (mi_seq (e_var F.toFx 3)) (mb_cons (ms_expr (e_append F.toFx (e_var F.toFx 4) ((f_lc F.toFx [("k", 8)] (i_rng1 F.toFx (e_len F.toFx (e_var F.toFx 3))) (fun Y1 G1 => ⟨g_nm G1 8, mc_one (mt_cmp (opEq G1.hu) (bl_ .eq) (me_bin opAdd (e_abs G1 (me_bin opSub (e_idx G1 (e_idx G1 (e_var G1 3) (e_var G1 8) (fun _ _ => rfl)) (me_int) (fun _ _ => rfl)) (e_var G1 5))) (e_abs G1 (me_bin opSub (e_idx G1 (e_idx G1 (e_var G1 3) (e_var G1 8) (fun _ _ => rfl)) (me_int) (fun _ _ => rfl)) (e_var G1 6)))) (me_int) rfl), e_var G1 8⟩)).me)) rfl) (
    mb_nil))) (
    mb_cons (s_set F 7 (me_mut (mf_lst (d_cons (me_int) (md_nil))))) (
    mb_cons (s_for F (h_nm F 8) (i_rng1 F.toFx (e_len F.toFx (e_var F.toFx 3))) (mb_cons (ms_expr (e_append F.toFx (e_var F.toFx 7) (me_bin opMul (me_int) (e_idx F.toFx (e_var F.toFx 7) (me_neg (me_int)) (fun _ _ => rfl)))) rfl) (
    mb_nil))) (
    mb_cons (s_set F 9 (e_index F.toFx (e_var F.toFx 3) (e_var F.toFx 2))) (
    mb_cons (s_set F 10 (e_dnew1 F.toFx (me_tup (d_cons (e_idx F.toFx (e_var F.toFx 7) (e_var F.toFx 9) (fun _ _ => rfl)) (d_cons (e_var F.toFx 9) (md_nil)))) (me_bl))) (
    mb_cons (s_for F (h_nm F 11) (i_rng1 F.toFx (me_bin opSub (e_len F.toFx (e_var F.toFx 3)) (me_int))) (mb_cons (s_set F 12 (me_dnew)) (
    mb_cons (s_for F (g_tp F.toFx (gs_cons (h_nm F 13) (gs_cons (h_nm F 14) (mgs_nil)))) (mi_dict (e_var F.toFx 10)) (mb_cons (s_for F (h_nm F 8) (mi_seq (e_idx F.toFx (e_var F.toFx 4) (e_var F.toFx 14) (fun _ _ => rfl))) (mb_cons (ms_if (mt_cmp (opEq F.toFx.hu) (bl_ .eq) (me_bin opMod (e_intOf F.toFx (me_bin opFdiv (e_var F.toFx 13) (e_idx F.toFx (e_var F.toFx 7) (e_var F.toFx 8) (fun _ _ => rfl)))) (me_int)) (me_int) rfl) (mb_cons (ms_setix F.toFx.hu F.toFx.gb.wd (me_bl) (e_var F.toFx 12) (me_tup (d_cons (me_bin opAdd (e_var F.toFx 13) (e_idx F.toFx (e_var F.toFx 7) (e_var F.toFx 8) (fun _ _ => rfl))) (d_cons (e_var F.toFx 8) (md_nil)))) (fun _ => rfl) rfl rfl rfl) (
    mb_nil)) (mb_nil)) (
    mb_nil))) (
    mb_nil))) (
    mb_cons (s_set F 10 (e_var F.toFx 12)) (
    mb_nil))))) (
    mb_cons (ms_ret ((f_sorted F.toFx ((f_lc F.toFx [("gone", 13), ("last", 14)] (mi_dict (e_var F.toFx 10)) (fun Y2 G2 => ⟨g_tp G2 (gs_cons (g_nm G2 13) (gs_cons (g_nm G2 14) (mgs_nil))), mc_nil, e_idx G2 (e_var G2 3) (e_var G2 14) (fun _ _ => rfl)⟩)).me)).me)) (
    mb_nil))))))))
theorem d4 (F : Fs cl c lay lev N4 (defScope (top 30)) 2 false X W) : Mb X cl W c (defBody (top 30)) b4 :=
    mb_cons (ms_if (mt_w (mw_or (mt_val (e_isL F.toFx (e_var F.toFx 1)) (fun _ => rfl)) (mw_or1 (mt_val (e_isT F.toFx (e_var F.toFx 1)) (fun _ => rfl))))) (mb_cons (ms_if (mt_w (mw_or (mt_cmp (opNe F.toFx.hu) (bl_ .ne) (e_isL F.toFx (e_var F.toFx 0)) (e_isL F.toFx (e_var F.toFx 1)) rfl) (mw_or1 (mt_cmp (opNe F.toFx.hu) (bl_ .ne) (e_isT F.toFx (e_var F.toFx 0)) (e_isT F.toFx (e_var F.toFx 1)) rfl)))) (mb_cons (ms_ret (me_bl)) (
    mb_nil)) (mb_nil)) (
    mb_cons (ms_ret (me_and (me_cmp (opEq F.toFx.hu) (e_len F.toFx (e_var F.toFx 0)) (e_len F.toFx (e_var F.toFx 1)) rfl) (me_one (me_cmp (opEq F.toFx.hu) ((f_lc F.toFx [("k", 2)] (i_rng1 F.toFx (e_len F.toFx (e_var F.toFx 1))) (fun Y1 G1 => ⟨g_nm G1 2, mc_one (mt_not (mt_val (e_call G1 (a_cons (e_idx G1 (e_var G1 0) (e_var G1 2) (fun _ _ => rfl)) (a_cons (e_idx G1 (e_var G1 1) (e_var G1 2) (fun _ _ => rfl)) (ma_nil)))) (fun _ => rfl))), e_var G1 2⟩)).me) ((mf_lst (md_nil)).me) rfl)))) (
    mb_nil))) (mb_nil)) (
    mb_cons (ms_if (mt_cmp opIs (bl_ .is_) (e_var F.toFx 1) (me_non) rfl) (mb_cons (ms_ret (me_cmp opIs (e_var F.toFx 0) (me_non) rfl)) (
    mb_nil)) (mb_nil)) (
    mb_cons (ms_if (mt_w (mw_or (mt_val (e_isB F.toFx (e_var F.toFx 1)) (fun _ => rfl)) (mw_or1 (mt_val (e_isB F.toFx (e_var F.toFx 0)) (fun _ => rfl))))) (mb_cons (ms_ret (me_and (e_isB F.toFx (e_var F.toFx 0)) (me_and (e_isB F.toFx (e_var F.toFx 1)) (me_one (me_cmp (opEq F.toFx.hu) (e_var F.toFx 0) (e_var F.toFx 1) rfl))))) (
    mb_nil)) (mb_nil)) (
    mb_cons (ms_if (mt_val (e_isI F.toFx (e_var F.toFx 1)) (fun _ => rfl)) (mb_cons (ms_ret (me_and (e_isI F.toFx (e_var F.toFx 0)) (me_one (me_cmp (opEq F.toFx.hu) (e_var F.toFx 0) (e_var F.toFx 1) rfl)))) (
    mb_nil)) (mb_nil)) (
    mb_cons (ms_ret (me_and (e_isS F.toFx (e_var F.toFx 0)) (me_one (me_cmp (opEq F.toFx.hu) (e_var F.toFx 0) (e_var F.toFx 1) rfl)))) (
    mb_nil)))))
theorem d5 (F : Fs cl c lay lev N5 (defScope (top 8)) 2 false X W) : Mb X cl W c (defBody (top 8)) b5 :=
    mb_cons (ms_ret (me_and (e_isI F.toFx (e_var F.toFx 0)) (me_and (me_not (e_isB F.toFx (e_var F.toFx 0))) (me_one (me_chn opLe opLe (e_var F.toFx 1) (e_var F.toFx 0) (e_var F.toFx 2) rfl))))) (
    mb_nil)
theorem d6 (F : Fs cl c lay lev N6 (defScope (top 16)) 2 false X W) : Mb X cl W c (defBody (top 16)) b6 :=
    mb_cons (ms_if (mt_w (mw_or (mt_not (mt_val (e_call F.toFx (a_cons (e_var F.toFx 0) (a_cons (me_int) (a_cons (e_conI F.toFx 10) (ma_nil))))) (fun _ => rfl))) (mw_or1 (mt_not (mt_val (e_call F.toFx (a_cons (e_var F.toFx 1) (a_cons (me_int) (a_cons (e_conI F.toFx 10) (ma_nil))))) (fun _ => rfl)))))) (mb_cons (s_raise F) (
    mb_nil)) (mb_nil)) (
    mb_nil)
theorem d7 (F : Fs cl c lay lev N7 (defScope (top 17)) 2 false X W) : Mb X cl W c (defBody (top 17)) b7 :=
    mb_cons (ms_expr (e_call F.toFx (a_cons (e_var F.toFx 0) (a_cons (e_var F.toFx 1) (ma_nil)))) rfl) (
    mb_cons (ms_ret (e_tuple F.toFx ((f_lc2 F.toFx [("x", 2), ("y", 3)] [3] (i_rng1 F.toFx (e_var F.toFx 0)) (fun Y1 G1 => ⟨g_nm G1 2, mc_nil, i_rng1 G1 (e_var G1 1), g_nm G1 3, mc_nil, me_tup (d_cons (e_var G1 2) (d_cons (e_var G1 3) (md_nil)))⟩)).me))) (
    mb_nil))
theorem d8 (F : Fs cl c lay lev N8 (defScope (top 20)) 2 false X W) : Mb X cl W c (defBody (top 20)) b8 :=
    mb_cons (s_asg F (me_tup (d_cons (e_var F.toFx 1) (d_cons (e_idx F.toFx (e_var F.toFx 2) (me_int) (fun _ _ => rfl)) (md_nil)))) (g_tp F.toFx (gs_cons (g_tp F.toFx (gs_cons (h_nm F 3) (gs_cons (h_nm F 4) (mgs_nil)))) (gs_cons (h_nm F 5) (mgs_nil))))) (
    mb_cons (ms_ret (me_and (me_cmp (opEq F.toFx.hu) (me_bin opMod (me_bin opAdd (e_var F.toFx 3) (e_var F.toFx 4)) (me_int)) (me_int) rfl) (me_one (me_or (me_cmp (opLt F.toFx.hu) (e_var F.toFx 4) (me_bin opSub (e_var F.toFx 5) (me_int)) rfl) (me_one (me_and (me_cmp (opEq F.toFx.hu) (e_var F.toFx 3) (me_int) rfl) (me_one (me_cmp (opLt F.toFx.hu) (e_var F.toFx 4) (e_var F.toFx 5) rfl)))))))) (
    mb_nil))
theorem d9 (F : Fs cl c lay lev N9 (defScope (top 21)) 2 true X W) : Mb X cl W c (defBody (top 21)) b9 :=
    mb_cons (s_setLc F 3 [("x", 5), ("y", 6)] (mi_seq (me_tup (d_cons (e_var F.toFx 1) (d_cons (e_var F.toFx 2) (md_nil))))) (fun Y1 G1 => ⟨g_tp G1 (gs_cons (g_nm G1 5) (gs_cons (g_nm G1 6) (mgs_nil))), mc_nil, me_tup (d_cons (e_var G1 5) (d_cons (me_bin opSub (me_bin opSub (e_var G1 0) (me_int)) (e_var G1 6)) (md_nil)))⟩)) (
    mb_cons (s_set F 4 ((mf_lst (d_cons (me_tup (d_cons (e_var F.toFx 1) (d_cons (e_var F.toFx 2) (md_nil)))) (d_cons (me_tup (d_cons (e_var F.toFx 2) (d_cons (e_var F.toFx 1) (md_nil)))) (d_cons (me_tup (d_cons (e_idx F.toFx (e_var F.toFx 3) (me_int) (fun _ _ => rfl)) (d_cons (e_idx F.toFx (e_var F.toFx 3) (me_int) (fun _ _ => rfl)) (md_nil)))) (d_cons (me_tup (d_cons (e_idx F.toFx (e_var F.toFx 3) (me_int) (fun _ _ => rfl)) (d_cons (e_idx F.toFx (e_var F.toFx 3) (me_int) (fun _ _ => rfl)) (md_nil)))) (md_nil)))))).me)) (
    mb_cons (ms_ret (e_any F.toFx [("first", 7), ("second", 8)] (mi_seq (e_var F.toFx 4)) (fun Y2 G2 => ⟨g_tp G2 (gs_cons (g_nm G2 7) (gs_cons (g_nm G2 8) (mgs_nil))), e_call G2 (a_cons (e_var G2 0) (a_cons (e_var G2 7) (a_cons (e_var G2 8) (ma_nil))))⟩))) (
    mb_nil)))
theorem d10 (F : Fs cl c lay lev N10 (defScope (top 22)) 2 false X W) : Mb X cl W c (defBody (top 22)) b10 :=
    mb_cons (s_asg F (me_tup (d_cons (e_var F.toFx 2) (d_cons (e_var F.toFx 3) (md_nil)))) (g_tp F.toFx (gs_cons (g_tp F.toFx (gs_cons (h_nm F 4) (gs_cons (h_nm F 5) (mgs_nil)))) (gs_cons (g_tp F.toFx (gs_cons (h_nm F 6) (gs_cons (h_nm F 7) (mgs_nil)))) (mgs_nil))))) (
    mb_cons (ms_if (mt_w (mw_or (mt_w (mw_and (mt_cmp (opEq F.toFx.hu) (bl_ .eq) (me_bin opMod (me_bin opMul (e_var F.toFx 0) (e_var F.toFx 1)) (me_int)) (me_int) rfl) (mw_and1 (mt_cmp (opEq F.toFx.hu) (bl_ .eq) (me_bin opMod (me_bin opAdd (me_bin opAdd (me_bin opAdd (e_var F.toFx 4) (e_var F.toFx 5)) (e_var F.toFx 6)) (e_var F.toFx 7)) (me_int)) (me_int) rfl)))) (mw_or1 (mt_w (mw_and (mt_cmp (opEq F.toFx.hu) (bl_ .eq) (me_bin opMod (me_bin opMul (e_var F.toFx 0) (e_var F.toFx 1)) (me_int)) (me_int) rfl) (mw_and1 (mt_w (mw_or (mt_cmp (opEq F.toFx.hu) (bl_ .eq) (me_bin opMod (me_bin opAdd (e_var F.toFx 4) (e_var F.toFx 5)) (me_int)) (me_int) rfl) (mw_or1 (mt_cmp (opEq F.toFx.hu) (bl_ .eq) (me_bin opMod (me_bin opAdd (e_var F.toFx 6) (e_var F.toFx 7)) (me_int)) (me_int) rfl)))))))))) (mb_cons (ms_ret (me_bl)) (
    mb_nil)) (mb_nil)) (
    mb_cons (ms_if (mt_cmp (opEq F.toFx.hu) (bl_ .eq) (e_var F.toFx 0) (me_int) rfl) (mb_cons (ms_ret (me_cmp (opEq F.toFx.hu) ((f_sorted F.toFx ((mf_lst (d_cons (e_var F.toFx 5) (d_cons (e_var F.toFx 7) (md_nil)))).me)).me) ((mf_lst (d_cons (me_int) (d_cons (me_bin opSub (e_var F.toFx 1) (me_int)) (md_nil)))).me) rfl)) (
    mb_nil)) (mb_nil)) (
    mb_cons (ms_if (mt_cmp (opEq F.toFx.hu) (bl_ .eq) (e_var F.toFx 0) (me_int) rfl) (mb_cons (ms_ret (me_or (me_cmp (opNe F.toFx.hu) (e_var F.toFx 5) (e_var F.toFx 7) rfl) (me_one (me_cmp (opIn F.toFx.hu F.toFx.gb.wd) (e_var F.toFx 5) (me_tup (d_cons (me_int) (d_cons (me_bin opSub (e_var F.toFx 1) (me_int)) (md_nil)))) rfl)))) (
    mb_nil)) (mb_nil)) (
    mb_cons (ms_ret (me_or (me_cmp (opNe F.toFx.hu) (e_var F.toFx 0) (me_int) rfl) (me_or (me_cmp (opEq F.toFx.hu) (me_bin opMod (e_var F.toFx 1) (me_int)) (me_int) rfl) (me_one (me_not (e_call F.toFx (a_cons (e_var F.toFx 1) (a_cons (e_var F.toFx 2) (a_cons (e_var F.toFx 3) (ma_nil)))))))))) (
    mb_nil)))))
theorem d11 (F : Fs cl c lay lev N11 (defScope (top 23)) 2 false X W) : Mb X cl W c (defBody (top 23)) b11 :=
    mb_cons (s_set F 4 (e_call F.toFx (a_cons (e_var F.toFx 0) (a_cons (e_var F.toFx 1) (ma_nil))))) (
    mb_cons (ms_if (mt_w (mw_or (mt_cmp (opNotIn F.toFx.hu F.toFx.gb.wd) (bl_ .notin) (e_var F.toFx 2) (e_var F.toFx 4) rfl) (mw_or1 (mt_cmp (opNotIn F.toFx.hu F.toFx.gb.wd) (bl_ .notin) (e_var F.toFx 3) (e_var F.toFx 4) rfl)))) (mb_cons (s_raise F) (
    mb_nil)) (mb_nil)) (
    mb_cons (ms_if (mt_cmp (opEq F.toFx.hu) (bl_ .eq) (e_var F.toFx 2) (e_var F.toFx 3) rfl) (mb_cons (ms_ret (me_cmp (opEq F.toFx.hu) (e_len F.toFx (e_var F.toFx 4)) (me_int) rfl)) (
    mb_nil)) (mb_nil)) (
    mb_cons (ms_if (mt_cmp (opGt F.toFx.hu) (bl_ .gt) (e_var F.toFx 0) (e_var F.toFx 1) rfl) (mb_cons (ms_ret (e_call F.toFx (a_cons (e_var F.toFx 1) (a_cons (e_var F.toFx 0) (a_cons (me_slr (e_var F.toFx 2) mo_none) (a_cons (me_slr (e_var F.toFx 3) mo_none) (ma_nil))))))) (
    mb_nil)) (mb_nil)) (
    mb_cons (ms_ret (e_call F.toFx (a_cons (e_var F.toFx 0) (a_cons (e_var F.toFx 1) (a_cons (e_var F.toFx 2) (a_cons (e_var F.toFx 3) (ma_nil))))))) (
    mb_nil)))))
theorem d12 (F : Fs cl c lay lev N12 (defScope (top 12)) 2 false X W) : Mb X cl W c (defBody (top 12)) b12 :=
    mb_cons (s_asg F (e_var F.toFx 0) (g_tp F.toFx (gs_cons (h_nm F 1) (gs_cons (h_nm F 2) (mgs_nil))))) (
    mb_cons (ms_ret ((mf_lst (d_cons (me_tup (d_cons (me_bin opSub (e_var F.toFx 1) (me_int)) (d_cons (e_var F.toFx 2) (md_nil)))) (d_cons (me_tup (d_cons (e_var F.toFx 1) (d_cons (me_bin opSub (e_var F.toFx 2) (me_int)) (md_nil)))) (d_cons (me_tup (d_cons (e_var F.toFx 1) (d_cons (me_bin opAdd (e_var F.toFx 2) (me_int)) (md_nil)))) (d_cons (me_tup (d_cons (me_bin opAdd (e_var F.toFx 1) (me_int)) (d_cons (e_var F.toFx 2) (md_nil)))) (md_nil)))))).me)) (
    mb_nil))
theorem d13 (F : Fs cl c lay lev N13 (defScope (top 24)) 2 false X W) : Mb X cl W c (defBody (top 24)) b13 :=
    mb_cons (ms_if (mt_cmp (opEq F.toFx.hu) (bl_ .eq) (e_len F.toFx (e_var F.toFx 1)) (e_len F.toFx (e_var F.toFx 0)) rfl) (mb_cons (ms_ret (me_ite (mt_cmp (opEq F.toFx.hu) (bl_ .eq) (e_idx F.toFx (e_var F.toFx 1) (me_neg (me_int)) (fun _ _ => rfl)) (e_var F.toFx 2) rfl) (e_var F.toFx 1) (me_non))) (
    mb_nil)) (mb_nil)) (
    mb_cons (s_set F 4 (me_tup (d_cons (e_tuple F.toFx ((f_sorted F.toFx (e_var F.toFx 1)).me)) (d_cons (e_idx F.toFx (e_var F.toFx 1) (me_neg (me_int)) (fun _ _ => rfl)) (md_nil))))) (
    mb_cons (ms_if (mt_w (mw_or (mt_cmp (opIn F.toFx.hu F.toFx.gb.wd) (bl_ .in_) (e_var F.toFx 4) (e_var F.toFx 3) rfl) (mw_or1 (mt_cmp (opEq F.toFx.hu) (bl_ .eq) (e_idx F.toFx (e_var F.toFx 1) (me_neg (me_int)) (fun _ _ => rfl)) (e_var F.toFx 2) rfl)))) (mb_cons (ms_ret (me_non)) (
    mb_nil)) (mb_nil)) (
    mb_cons (s_for F (h_nm F 5) (mi_seq (e_call F.toFx (a_cons (e_idx F.toFx (e_var F.toFx 1) (me_neg (me_int)) (fun _ _ => rfl)) (ma_nil)))) (mb_cons (ms_if (mt_w (mw_and (mt_cmp (opIn F.toFx.hu F.toFx.gb.wd) (bl_ .in_) (e_var F.toFx 5) (e_var F.toFx 0) rfl) (mw_and1 (mt_cmp (opNotIn F.toFx.hu F.toFx.gb.wd) (bl_ .notin) (e_var F.toFx 5) (e_var F.toFx 1) rfl)))) (mb_cons (s_set F 6 (e_call F.toFx (a_cons (e_var F.toFx 0) (a_cons (me_tup (d_star (e_var F.toFx 1) (d_cons (e_var F.toFx 5) (md_nil)))) (a_cons (e_var F.toFx 2) (a_cons (e_var F.toFx 3) (ma_nil))))))) (
    mb_cons (ms_if (mt_cmp opIsNot (bl_ .isnot) (e_var F.toFx 6) (me_non) rfl) (mb_cons (ms_ret (e_var F.toFx 6)) (
    mb_nil)) (mb_nil)) (
    mb_nil))) (mb_nil)) (
    mb_nil))) (
    mb_cons (ms_setix F.toFx.hu F.toFx.gb.wd (me_bl) (e_var F.toFx 3) (e_var F.toFx 4) (fun _ => rfl) rfl rfl rfl) (
    mb_cons (ms_ret (me_non)) (
    mb_nil))))))
theorem d14 (F : Fs cl c lay lev N14 (defScope (top 25)) 2 false X W) : Mb X cl W c (defBody (top 25)) b14 :=
    mb_cons (s_set F 4 (e_call F.toFx (a_cons (e_var F.toFx 0) (a_cons (e_var F.toFx 1) (a_cons (e_var F.toFx 2) (a_cons (e_var F.toFx 3) (ma_nil))))))) (
    mb_cons (ms_if (mt_cmp (opGt F.toFx.hu) (bl_ .gt) (me_bin opMul (e_var F.toFx 0) (e_var F.toFx 1)) (e_conI F.toFx 20) rfl) (mb_cons (s_raise F) (
    mb_nil)) (mb_nil)) (
    mb_cons (ms_ret (me_ite (mt_val (e_var F.toFx 4) (fun _ => rfl)) (e_call F.toFx (a_cons (e_call F.toFx (a_cons (e_var F.toFx 0) (a_cons (e_var F.toFx 1) (ma_nil)))) (a_cons (me_tup (d_cons (e_var F.toFx 2) (md_nil))) (a_cons (e_var F.toFx 3) (a_cons (me_dnew) (ma_nil)))))) (me_non))) (
    mb_nil)))
theorem d15 (F : Fs cl c lay lev N15 (defScope (top 37)) 2 false X W) : Mb X cl W c (defBody (top 37)) b15 :=
    mb_cons (s_try F 5 0 (fun _ _ F1 => mb_cons (ms_ret (me_ite (mt_cmp (opEq F1.toFx.hu) (bl_ .eq) (e_var F1.toFx 0) (me_int) rfl) (e_call F1.toFx (a_cons (e_var F1.toFx 1) (a_cons (e_var F1.toFx 2) (a_cons (e_var F1.toFx 3) (a_cons (e_var F1.toFx 4) (ma_nil)))))) (e_call F1.toFx (a_cons (e_var F1.toFx 1) (a_cons (e_var F1.toFx 2) (a_cons (e_var F1.toFx 3) (a_cons (e_var F1.toFx 4) (ma_nil)))))))) (
    mb_nil))) (
    mb_nil)
theorem d16 (F : Fs cl c lay lev N16 (defScope (top 35)) 2 false X W) : Mb X cl W c (defBody (top 35)) b16 :=
    mb_cons (ms_if (mt_w (mw_or (mt_not (mt_val (e_isT F.toFx (e_var F.toFx 4)) (fun _ => rfl))) (mw_or1 (mt_cmp (opNe F.toFx.hu) (bl_ .ne) (e_len F.toFx (e_var F.toFx 4)) (me_bin opMul (e_var F.toFx 0) (e_var F.toFx 1)) rfl)))) (mb_cons (ms_ret (me_bl)) (
    mb_nil)) (mb_nil)) (
    mb_cons (s_for F (h_nm F 5) (mi_seq (e_var F.toFx 4)) (mb_cons (ms_if (mt_w (mw_or (mt_not (mt_val (e_isT F.toFx (e_var F.toFx 5)) (fun _ => rfl))) (mw_or (mt_cmp (opNe F.toFx.hu) (bl_ .ne) (e_len F.toFx (e_var F.toFx 5)) (me_int) rfl) (mw_or1 (mt_cmp (opNe F.toFx.hu) (bl_ .ne) ((f_lc F.toFx [("part", 6)] (mi_seq (e_var F.toFx 5)) (fun Y1 G1 => ⟨g_nm G1 6, mc_one (mt_w (mw_or (mt_val (e_isB G1 (e_var G1 6)) (fun _ => rfl)) (mw_or1 (mt_not (mt_val (e_isI G1 (e_var G1 6)) (fun _ => rfl)))))), e_var G1 6⟩)).me) ((mf_lst (md_nil)).me) rfl))))) (mb_cons (ms_ret (me_bl)) (
    mb_nil)) (mb_nil)) (
    mb_nil))) (
    mb_cons (ms_if (mt_w (mw_or (mt_cmp (opNe F.toFx.hu) (bl_ .ne) ((f_sorted F.toFx (e_var F.toFx 4)).me) (e_call F.toFx (a_cons (e_var F.toFx 0) (a_cons (e_var F.toFx 1) (ma_nil)))) rfl) (mw_or (mt_cmp (opNe F.toFx.hu) (bl_ .ne) (e_idx F.toFx (e_var F.toFx 4) (me_int) (fun _ _ => rfl)) (e_var F.toFx 2) rfl) (mw_or1 (mt_cmp (opNe F.toFx.hu) (bl_ .ne) (e_idx F.toFx (e_var F.toFx 4) (me_neg (me_int)) (fun _ _ => rfl)) (e_var F.toFx 3) rfl))))) (mb_cons (ms_ret (me_bl)) (
    mb_nil)) (mb_nil)) (
    mb_cons (ms_ret (me_cmp (opEq F.toFx.hu) ((f_lc F.toFx [("k", 7)] (i_rng2 F.toFx (me_int) (e_len F.toFx (e_var F.toFx 4))) (fun Y2 G2 => ⟨g_nm G2 7, mc_one (mt_cmp (opNe G2.hu) (bl_ .ne) (me_bin opAdd (e_abs G2 (me_bin opSub (e_idx G2 (e_idx G2 (e_var G2 4) (e_var G2 7) (fun _ _ => rfl)) (me_int) (fun _ _ => rfl)) (e_idx G2 (e_idx G2 (e_var G2 4) (me_bin opSub (e_var G2 7) (me_int)) (fun _ _ => rfl)) (me_int) (fun _ _ => rfl)))) (e_abs G2 (me_bin opSub (e_idx G2 (e_idx G2 (e_var G2 4) (e_var G2 7) (fun _ _ => rfl)) (me_int) (fun _ _ => rfl)) (e_idx G2 (e_idx G2 (e_var G2 4) (me_bin opSub (e_var G2 7) (me_int)) (fun _ _ => rfl)) (me_int) (fun _ _ => rfl))))) (me_int) rfl), e_var G2 7⟩)).me) ((mf_lst (md_nil)).me) rfl)) (
    mb_nil))))
theorem d17 (F : Fs cl c lay lev N17 (defScope (top 36)) 2 false X W) : Mb X cl W c (defBody (top 36)) b17 :=
    mb_cons (s_asg F (me_tup (d_cons (e_call F.toFx (a_cons (e_var F.toFx 0) (a_cons (e_len F.toFx (e_var F.toFx 1)) (ma_nil)))) (d_cons (e_call F.toFx (a_cons (e_var F.toFx 0) (a_cons (e_len F.toFx (e_var F.toFx 1)) (ma_nil)))) (md_nil)))) (g_tp F.toFx (gs_cons (h_nm F 2) (gs_cons (h_nm F 3) (mgs_nil))))) (
    mb_cons (s_par F 4 5 (e_min F.toFx (e_var F.toFx 2) (e_var F.toFx 3)) (e_max F.toFx (e_var F.toFx 2) (e_var F.toFx 3))) (
    mb_cons (s_asg F (e_idx F.toFx (e_var F.toFx 1) (e_var F.toFx 2) (fun _ _ => rfl)) (g_tp F.toFx (gs_cons (h_nm F 6) (gs_cons (h_nm F 7) (mgs_nil))))) (
    mb_cons (s_set F 8 (me_mut (mf_lst (d_cons (e_var F.toFx 1) (d_cons (me_slr (e_var F.toFx 1) mo_none) (d_cons ((f_list F.toFx (e_var F.toFx 1)).me) (d_cons (me_sl (e_var F.toFx 1) mo_none (mo_some (me_neg (me_int)))) (d_cons (me_bin opAdd (e_var F.toFx 1) (me_sl (e_var F.toFx 1) mo_none (mo_some (me_int)))) (d_cons (me_non) (d_cons (me_tup (md_nil)) (d_cons (me_str ⟨by decide +kernel, by decide +kernel⟩) (d_cons (me_bin opAdd (me_bin opAdd (me_sl (e_var F.toFx 1) mo_none (mo_some (e_var F.toFx 4))) (me_slr (me_sl (e_var F.toFx 1) (mo_some (e_var F.toFx 4)) (mo_some (e_var F.toFx 5))) mo_none)) (me_sl (e_var F.toFx 1) (mo_some (e_var F.toFx 5)) mo_none)) (md_nil))))))))))))) (
    mb_cons (ms_if (mt_cmp (opLt F.toFx.hu) (bl_ .lt) (e_var F.toFx 4) (e_var F.toFx 5) rfl) (mb_cons (ms_expr (e_append F.toFx (e_var F.toFx 8) (me_bin opAdd (me_bin opAdd (me_bin opAdd (me_bin opAdd (me_sl (e_var F.toFx 1) mo_none (mo_some (e_var F.toFx 4))) (me_sl (e_var F.toFx 1) (mo_some (e_var F.toFx 5)) (mo_some (me_bin opAdd (e_var F.toFx 5) (me_int))))) (me_sl (e_var F.toFx 1) (mo_some (me_bin opAdd (e_var F.toFx 4) (me_int))) (mo_some (e_var F.toFx 5)))) (me_sl (e_var F.toFx 1) (mo_some (e_var F.toFx 4)) (mo_some (me_bin opAdd (e_var F.toFx 4) (me_int))))) (me_sl (e_var F.toFx 1) (mo_some (me_bin opAdd (e_var F.toFx 5) (me_int))) mo_none))) rfl) (
    mb_nil)) (mb_nil)) (
    mb_cons (ms_ret (me_bin opAdd (e_var F.toFx 8) ((f_lc F.toFx [("part", 9)] (mi_seq ((mf_lst (d_cons (me_tup (d_cons (me_cmp (opEq F.toFx.hu) (e_var F.toFx 6) (me_int) rfl) (d_cons (e_var F.toFx 7) (md_nil)))) (d_cons ((mf_lst (d_cons (e_var F.toFx 6) (d_cons (e_var F.toFx 7) (md_nil)))).me) (d_cons (me_non) (d_cons (me_tup (d_cons (e_var F.toFx 6) (d_cons (e_var F.toFx 7) (d_cons (me_int) (md_nil))))) (d_cons (me_tup (d_cons (e_var F.toFx 7) (d_cons (e_var F.toFx 6) (md_nil)))) (md_nil))))))).me)) (fun Y1 G1 => ⟨g_nm G1 9, mc_nil, me_bin opAdd (me_bin opAdd (me_sl (e_var G1 1) mo_none (mo_some (e_var G1 2))) (me_tup (d_cons (e_var G1 9) (md_nil)))) (me_sl (e_var G1 1) (mo_some (me_bin opAdd (e_var G1 2) (me_int))) mo_none)⟩)).me))) (
    mb_nil))))))
theorem d18 (F : Fs cl c lay lev N18 (defScope (top 11)) 2 false X W) : Mb X cl W c (defBody (top 11)) b18 :=
    mb_cons (ms_if (mt_w (mw_or (mt_not (mt_val (e_isT F.toFx (e_var F.toFx 0)) (fun _ => rfl))) (mw_or1 (mt_cmp (opNe F.toFx.hu) (bl_ .ne) (e_len F.toFx (e_var F.toFx 0)) (me_int) rfl)))) (mb_cons (ms_ret (me_bl)) (
    mb_nil)) (mb_nil)) (
    mb_cons (ms_ret (me_and (e_call F.toFx (a_cons (e_idx F.toFx (e_var F.toFx 0) (me_int) (fun _ _ => rfl)) (a_cons (me_int) (a_cons (e_conI F.toFx 9) (ma_nil))))) (me_one (e_call F.toFx (a_cons (e_idx F.toFx (e_var F.toFx 0) (me_int) (fun _ _ => rfl)) (a_cons (me_int) (a_cons (e_conI F.toFx 9) (ma_nil)))))))) (
    mb_nil))
theorem d19 (F : Fs cl c lay lev N19 (defScope (top 19)) 2 true X W) : Mb X cl W c (defBody (top 19)) b19 :=
    mb_cons (ms_if (mt_w (mw_or (mt_not (mt_val (e_isT F.toFx (e_var F.toFx 2)) (fun _ => rfl))) (mw_or (mt_cmp (opNe F.toFx.hu) (bl_ .ne) (e_len F.toFx (e_var F.toFx 2)) (me_bin opMul (e_var F.toFx 0) (e_var F.toFx 1)) rfl) (mw_or1 (mt_not (mt_val (e_all F.toFx [("cell", 3)] (mi_seq (e_var F.toFx 2)) (fun Y1 G1 => ⟨g_nm G1 3, e_call G1 (a_cons (e_var G1 3) (ma_nil))⟩)) (fun _ => rfl))))))) (mb_cons (ms_ret (me_bl)) (
    mb_nil)) (mb_nil)) (
    mb_cons (ms_ret (me_cmp (opEq F.toFx.hu) (e_tuple F.toFx ((f_sorted F.toFx (e_var F.toFx 2)).me)) (e_call F.toFx (a_cons (e_var F.toFx 0) (a_cons (e_var F.toFx 1) (ma_nil)))) rfl)) (
    mb_nil))
theorem d20 (F : Fs cl c lay lev N20 (defScope (top 18)) 2 true X W) : Mb X cl W c (defBody (top 18)) b20 :=
    mb_cons (ms_ret (e_all F.toFx [("place", 1)] (i_rng1 F.toFx (me_bin opSub (e_len F.toFx (e_var F.toFx 0)) (me_int))) (fun Y1 G1 => ⟨g_nm G1 1, me_cmp (opIn G1.hu G1.gb.wd) (e_idx G1 (e_var G1 0) (e_var G1 1) (fun _ _ => rfl)) (e_call G1 (a_cons (e_idx G1 (e_var G1 0) (me_bin opAdd (e_var G1 1) (me_int)) (fun _ _ => rfl)) (ma_nil))) rfl⟩))) (
    mb_nil)
theorem d21 (F : Fs cl c lay lev N21 (defScope (top 26)) 2 false X W) : Mb X cl W c (defBody (top 26)) b21 :=
    mb_cons (ms_expr (e_call F.toFx (a_cons (e_var F.toFx 0) (a_cons (e_var F.toFx 1) (ma_nil)))) rfl) (
    mb_cons (ms_ret (me_and (e_call F.toFx (a_cons (e_var F.toFx 0) (a_cons (e_var F.toFx 1) (a_cons (e_var F.toFx 4) (ma_nil))))) (me_and (me_cmp (opEq F.toFx.hu) (e_idx F.toFx (e_var F.toFx 4) (me_int) (fun _ _ => rfl)) (e_var F.toFx 2) rfl) (me_and (me_cmp (opEq F.toFx.hu) (e_idx F.toFx (e_var F.toFx 4) (me_neg (me_int)) (fun _ _ => rfl)) (e_var F.toFx 3) rfl) (me_one (e_call F.toFx (a_cons (e_var F.toFx 4) (ma_nil)))))))) (
    mb_nil))
theorem d22 (F : Fs cl c lay lev N22 (defScope (top 38)) 2 false X W) : Mb X cl W c (defBody (top 38)) b22 :=
    mb_cons (s_set F 1 ((mf_lst (d_cons (me_tup (d_cons (me_int) (d_cons (me_int) (md_nil)))) (d_cons (me_tup (d_cons (me_int) (d_cons (me_int) (md_nil)))) (d_cons (me_tup (d_cons (me_int) (d_cons (me_int) (md_nil)))) (d_cons (me_tup (d_cons (me_int) (d_cons (me_int) (md_nil)))) (d_cons (me_tup (d_cons (me_int) (d_cons (me_int) (md_nil)))) (d_cons (me_tup (d_cons (me_int) (d_cons (me_int) (md_nil)))) (d_cons (me_tup (d_cons (me_int) (d_cons (me_int) (md_nil)))) (d_cons (me_tup (d_cons (me_int) (d_cons (me_int) (md_nil)))) (d_cons (me_tup (d_cons (me_int) (d_cons (me_int) (md_nil)))) (d_cons (me_tup (d_cons (me_int) (d_cons (me_int) (md_nil)))) (d_cons (me_tup (d_cons (me_int) (d_cons (me_int) (md_nil)))) (d_cons (me_tup (d_cons (me_int) (d_cons (me_int) (md_nil)))) (d_cons (me_tup (d_cons (me_int) (d_cons (me_int) (md_nil)))) (d_cons (me_tup (d_cons (me_int) (d_cons (me_int) (md_nil)))) (d_cons (me_tup (d_cons (me_int) (d_cons (me_int) (md_nil)))) (d_cons (me_tup (d_cons (me_int) (d_cons (me_int) (md_nil)))) (md_nil)))))))))))))))))).me)) (
    mb_cons (s_asg F (e_idx F.toFx (e_var F.toFx 1) (e_call F.toFx (a_cons (e_var F.toFx 0) (a_cons (me_int) (ma_nil)))) (fun _ _ => rfl)) (g_tp F.toFx (gs_cons (h_nm F 2) (gs_cons (h_nm F 3) (mgs_nil))))) (
    mb_cons (s_set F 4 (e_call F.toFx (a_cons (e_var F.toFx 2) (a_cons (e_var F.toFx 3) (ma_nil))))) (
    mb_cons (s_set F 5 (e_idx F.toFx (e_var F.toFx 4) (e_call F.toFx (a_cons (e_var F.toFx 0) (a_cons (e_len F.toFx (e_var F.toFx 4)) (ma_nil)))) (fun _ _ => rfl))) (
    mb_cons (s_set F 6 (e_call F.toFx (a_cons (e_var F.toFx 2) (a_cons (e_var F.toFx 3) (a_cons (e_var F.toFx 5) (ma_nil)))))) (
    mb_cons (s_for F (h_nm F 7) (mi_seq (e_var F.toFx 4)) (mb_cons (s_set F 8 (me_and (me_cmp (opIn F.toFx.hu F.toFx.gb.wd) (e_var F.toFx 7) (e_var F.toFx 6) rfl) (me_one (me_or (me_cmp (opNe F.toFx.hu) (e_var F.toFx 7) (e_var F.toFx 5) rfl) (me_one (me_cmp (opEq F.toFx.hu) (e_len F.toFx (e_var F.toFx 4)) (me_int) rfl)))))) (
    mb_cons (ms_if (mt_not (mt_val (e_call F.toFx (a_cons (e_call F.toFx (a_cons (me_int) (a_cons (e_var F.toFx 2) (a_cons (e_var F.toFx 3) (a_cons (e_var F.toFx 5) (a_cons (e_var F.toFx 7) (ma_nil))))))) (a_cons (e_var F.toFx 8) (ma_nil)))) (fun _ => rfl))) (mb_cons (ms_ret (me_bl)) (
    mb_nil)) (mb_nil)) (
    mb_nil)))) (
    mb_cons (s_set F 7 (me_ite (mt_cmp opLe (bl_ .le) (me_bin opAdd (e_len F.toFx (e_var F.toFx 6)) (me_int)) (me_bin opAdd (e_len F.toFx (e_var F.toFx 6)) (e_len F.toFx (e_var F.toFx 4))) rfl) (e_idx F.toFx (me_bin opAdd (e_var F.toFx 6) (e_var F.toFx 4)) (e_call F.toFx (a_cons (e_var F.toFx 0) (a_cons (me_bin opAdd (e_len F.toFx (e_var F.toFx 6)) (me_int)) (ma_nil)))) (fun _ _ => rfl)) (e_idx F.toFx (e_var F.toFx 4) (me_int) (fun _ _ => rfl)))) (
    mb_cons (s_set F 9 (e_call F.toFx (a_cons (me_int) (a_cons (e_var F.toFx 2) (a_cons (e_var F.toFx 3) (a_cons (e_var F.toFx 5) (a_cons (e_var F.toFx 7) (ma_nil)))))))) (
    mb_cons (ms_if (mt_w (mw_or (mt_cmp (opNe F.toFx.hu) (bl_ .ne) (me_cmp opIsNot (e_var F.toFx 9) (me_non) rfl) (me_cmp (opIn F.toFx.hu F.toFx.gb.wd) (e_var F.toFx 7) (e_var F.toFx 6) rfl) rfl) (mw_or1 (mt_w (mw_and (mt_cmp opIsNot (bl_ .isnot) (e_var F.toFx 9) (me_non) rfl) (mw_and1 (mt_not (mt_val (e_call F.toFx (a_cons (e_var F.toFx 2) (a_cons (e_var F.toFx 3) (a_cons (e_var F.toFx 5) (a_cons (e_var F.toFx 7) (a_cons (e_var F.toFx 9) (ma_nil))))))) (fun _ => rfl))))))))) (mb_cons (ms_ret (me_bl)) (
    mb_nil)) (mb_nil)) (
    mb_cons (s_for F (h_nm F 10) (mi_seq (e_call F.toFx (a_cons (e_var F.toFx 0) (a_cons (me_ite (mt_cmp opIsNot (bl_ .isnot) (e_var F.toFx 9) (me_non) rfl) (e_var F.toFx 9) (e_tuple F.toFx (e_var F.toFx 4))) (ma_nil))))) (mb_cons (ms_if (mt_not (mt_val (e_call F.toFx (a_cons (e_call F.toFx (a_cons (e_var F.toFx 2) (a_cons (e_var F.toFx 3) (a_cons (e_var F.toFx 5) (a_cons (e_var F.toFx 7) (a_cons (e_var F.toFx 10) (ma_nil))))))) (a_cons (e_call F.toFx (a_cons (e_var F.toFx 2) (a_cons (e_var F.toFx 3) (a_cons (e_var F.toFx 5) (a_cons (e_var F.toFx 7) (a_cons (e_var F.toFx 10) (ma_nil))))))) (ma_nil)))) (fun _ => rfl))) (mb_cons (ms_ret (me_bl)) (
    mb_nil)) (mb_nil)) (
    mb_nil))) (
    mb_cons (ms_ret (me_and (me_cmp (opEq F.toFx.hu) ((f_lc F.toFx [("which", 11)] (i_rng1 F.toFx (me_int)) (fun Y1 G1 => ⟨g_nm G1 11, mc_nil, e_call G1 (a_cons (e_var G1 11) (a_cons (e_var G1 2) (a_cons (e_var G1 3) (a_cons (e_var G1 5) (a_cons (me_tup (d_cons (e_var G1 2) (d_cons (me_int) (md_nil)))) (ma_nil))))))⟩)).me) (me_bin opMul ((mf_lst (d_cons (me_str ⟨by decide +kernel, by decide +kernel⟩) (md_nil))).me) (me_int)) rfl) (me_one (me_cmp (opEq F.toFx.hu) (e_call F.toFx (a_cons (me_int) (a_cons (e_var F.toFx 2) (a_cons (e_var F.toFx 3) (a_cons (me_tup (d_cons (me_int) (d_cons (e_var F.toFx 3) (md_nil)))) (a_cons (e_var F.toFx 5) (ma_nil))))))) (me_str ⟨by decide +kernel, by decide +kernel⟩) rfl)))) (
    mb_nil)))))))))))
theorem d23 (F : Fs cl c lay lev N23 (defScope (top 34)) 2 false X W) : Mb X cl W c (defBody (top 34)) b23 :=
    mb_cons (ms_if (mt_cmp (opGt F.toFx.hu) (bl_ .gt) (e_var F.toFx 0) (e_var F.toFx 1) rfl) (mb_cons (ms_ret (e_call F.toFx (a_cons (e_var F.toFx 1) (a_cons (e_var F.toFx 0) (a_cons (me_slr (e_var F.toFx 2) mo_none) (a_cons (me_slr (e_var F.toFx 3) mo_none) (ma_nil))))))) (
    mb_nil)) (mb_nil)) (
    mb_cons (s_asg F (me_tup (d_cons (e_var F.toFx 2) (d_cons (e_var F.toFx 3) (md_nil)))) (g_tp F.toFx (gs_cons (g_tp F.toFx (gs_cons (h_nm F 4) (gs_cons (h_nm F 5) (mgs_nil)))) (gs_cons (g_tp F.toFx (gs_cons (h_nm F 6) (gs_cons (h_nm F 7) (mgs_nil)))) (mgs_nil))))) (
    mb_cons (ms_if (mt_w (mw_or (mt_w (mw_and (mt_cmp (opEq F.toFx.hu) (bl_ .eq) (me_bin opMod (me_bin opMul (e_var F.toFx 0) (e_var F.toFx 1)) (me_int)) (me_int) rfl) (mw_and1 (mt_cmp (opEq F.toFx.hu) (bl_ .eq) (me_bin opMod (e_intOf F.toFx (me_bin opAdd (me_bin opAdd (me_bin opAdd (e_var F.toFx 4) (e_var F.toFx 5)) (e_var F.toFx 6)) (e_var F.toFx 7))) (me_int)) (me_int) rfl)))) (mw_or1 (mt_w (mw_and (mt_cmp (opEq F.toFx.hu) (bl_ .eq) (me_bin opMod (me_bin opMul (e_var F.toFx 0) (e_var F.toFx 1)) (me_int)) (me_int) rfl) (mw_and1 (mt_cmp (opNe F.toFx.hu) (bl_ .ne) ((f_lc F.toFx [("k", 13)] (mi_seq ((mf_lst (d_cons (me_bin opAdd (e_var F.toFx 4) (e_var F.toFx 5)) (d_cons (me_bin opAdd (e_var F.toFx 6) (e_var F.toFx 7)) (md_nil)))).me)) (fun Y1 G1 => ⟨g_nm G1 13, mc_one (mt_cmp (opEq G1.hu) (bl_ .eq) (me_bin opMod (e_intOf G1 (e_var G1 13)) (me_int)) (me_int) rfl), me_int⟩)).me) ((mf_lst (md_nil)).me) rfl))))))) (mb_cons (ms_ret (me_bl)) (
    mb_nil)) (mb_nil)) (
    mb_cons (ms_if (mt_cmp (opEq F.toFx.hu) (bl_ .eq) (e_var F.toFx 0) (me_int) rfl) (mb_cons (ms_ret (e_deq F.toFx (e_var F.toFx 5) (e_var F.toFx 7) (me_int) (me_bin opSub (e_var F.toFx 1) (me_int)))) (
    mb_nil)) (mb_nil)) (
    mb_cons (ms_if (mt_cmp (opEq F.toFx.hu) (bl_ .eq) (e_var F.toFx 0) (me_int) rfl) (mb_cons (ms_ret (me_or (me_cmp (opNe F.toFx.hu) (e_var F.toFx 5) (e_var F.toFx 7) rfl) (me_one (me_cmp (opIn F.toFx.hu F.toFx.gb.wd) (e_var F.toFx 5) ((mf_lst (d_cons (me_int) (d_cons (me_bin opSub (e_var F.toFx 1) (me_int)) (md_nil)))).me) rfl)))) (
    mb_nil)) (mb_nil)) (
    mb_cons (ms_if (mt_w (mw_and (mt_cmp (opEq F.toFx.hu) (bl_ .eq) (e_var F.toFx 0) (me_int) rfl) (mw_and1 (mt_cmp (opEq F.toFx.hu) (bl_ .eq) (me_bin opMod (e_intOf F.toFx (e_var F.toFx 1)) (me_int)) (me_int) rfl)))) (mb_cons (s_for F (g_tp F.toFx (gs_cons (h_nm F 8) (gs_cons (h_nm F 9) (mgs_nil)))) (mi_seq ((mf_lst (d_cons (me_tup (d_cons (e_var F.toFx 2) (d_cons (e_var F.toFx 3) (md_nil)))) (d_cons (me_tup (d_cons (e_var F.toFx 3) (d_cons (e_var F.toFx 2) (md_nil)))) (md_nil)))).me)) (mb_cons (s_for F (h_nm F 10) (i_rng1 F.toFx (me_int)) (mb_cons (s_asg F (me_ite (mt_cmp (opEq F.toFx.hu) (bl_ .eq) (e_var F.toFx 10) (me_int) rfl) ((mf_lst (d_cons (e_idx F.toFx (e_var F.toFx 8) (me_int) (fun _ _ => rfl)) (d_cons (e_idx F.toFx (e_var F.toFx 9) (me_int) (fun _ _ => rfl)) (md_nil)))).me) ((mf_lst (d_cons (me_bin opSub (me_bin opSub (e_var F.toFx 1) (me_int)) (e_idx F.toFx (e_var F.toFx 8) (me_int) (fun _ _ => rfl))) (d_cons (me_bin opSub (me_bin opSub (e_var F.toFx 1) (me_int)) (e_idx F.toFx (e_var F.toFx 9) (me_int) (fun _ _ => rfl))) (md_nil)))).me)) (g_tp F.toFx (gs_cons (h_nm F 11) (gs_cons (h_nm F 12) (mgs_nil))))) (
    mb_cons (ms_if (mt_w (mw_and (mt_cmp (opEq F.toFx.hu) (bl_ .eq) (me_bin opMod (e_intOf F.toFx (me_bin opAdd (e_idx F.toFx (e_var F.toFx 8) (me_int) (fun _ _ => rfl)) (e_var F.toFx 11))) (me_int)) (me_int) rfl) (mw_and (mt_cmp (opLt F.toFx.hu) (bl_ .lt) (e_var F.toFx 11) (e_var F.toFx 12) rfl) (mw_and1 (mt_w (mw_or (mt_cmp (opEq F.toFx.hu) (bl_ .eq) (e_idx F.toFx (e_var F.toFx 8) (me_int) (fun _ _ => rfl)) (me_int) rfl) (mw_or1 (mt_cmp (opLt F.toFx.hu) (bl_ .lt) (e_var F.toFx 11) (me_bin opSub (e_var F.toFx 12) (me_int)) rfl)))))))) (mb_cons (ms_ret (me_bl)) (
    mb_nil)) (mb_nil)) (
    mb_nil)))) (
    mb_nil))) (
    mb_nil)) (mb_nil)) (
    mb_cons (ms_ret (me_bl)) (
    mb_nil)))))))
theorem d24 (F : Fs cl c lay lev N24 (defScope (top 39)) 2 false X W) : Mb X cl W c (defBody (top 39)) b24 :=
    mb_cons (s_set F 1 (e_call F.toFx (a_cons (e_var F.toFx 0) (ma_nil)))) (
    mb_cons (ms_if (mt_not (mt_val (e_call F.toFx (a_cons (e_var F.toFx 1) (ma_nil))) (fun _ => rfl))) (mb_cons (ms_ret (me_bl)) (
    mb_nil)) (mb_nil)) (
    mb_cons (s_for F (h_nm F 2) (i_rng1 F.toFx (me_int)) (mb_cons (s_par F 3 4 (e_idx F.toFx ((mf_lst (d_cons (me_bin opAdd (me_int) (e_call F.toFx (a_cons (e_var F.toFx 1) (a_cons (me_int) (ma_nil))))) (d_cons (me_bin opAdd (me_int) (e_call F.toFx (a_cons (e_var F.toFx 1) (a_cons (me_int) (ma_nil))))) (d_cons (me_int) (md_nil))))).me) (e_call F.toFx (a_cons (e_var F.toFx 1) (a_cons (me_int) (ma_nil)))) (fun _ _ => rfl)) (me_bin opAdd (me_int) (e_call F.toFx (a_cons (e_var F.toFx 1) (a_cons (me_int) (ma_nil)))))) (
    mb_cons (s_par F 5 6 (me_tup (d_cons (e_call F.toFx (a_cons (e_var F.toFx 1) (a_cons (e_var F.toFx 3) (ma_nil)))) (d_cons (e_call F.toFx (a_cons (e_var F.toFx 1) (a_cons (e_var F.toFx 4) (ma_nil)))) (md_nil)))) (me_tup (d_cons (e_call F.toFx (a_cons (e_var F.toFx 1) (a_cons (e_var F.toFx 3) (ma_nil)))) (d_cons (e_call F.toFx (a_cons (e_var F.toFx 1) (a_cons (e_var F.toFx 4) (ma_nil)))) (md_nil))))) (
    mb_cons (s_set F 7 (me_ite (mt_cmp (opNe F.toFx.hu) (bl_ .ne) (e_var F.toFx 5) (e_var F.toFx 6) rfl) (e_call F.toFx (a_cons (e_var F.toFx 3) (a_cons (e_var F.toFx 4) (a_cons (e_var F.toFx 5) (a_cons (e_var F.toFx 6) (ma_nil)))))) (me_cmp (opEq F.toFx.hu) (me_bin opMul (e_var F.toFx 3) (e_var F.toFx 4)) (me_int) rfl))) (
    mb_cons (s_set F 8 (me_mut (mf_lst (d_cons (e_call F.toFx (a_cons (me_int) (a_cons (e_var F.toFx 3) (a_cons (e_var F.toFx 4) (a_cons (e_var F.toFx 5) (a_cons (e_var F.toFx 6) (ma_nil))))))) (d_cons (e_call F.toFx (a_cons (me_int) (a_cons (e_var F.toFx 3) (a_cons (e_var F.toFx 4) (a_cons (e_var F.toFx 6) (a_cons (e_var F.toFx 5) (ma_nil))))))) (d_cons (e_call F.toFx (a_cons (me_int) (a_cons (e_var F.toFx 4) (a_cons (e_var F.toFx 3) (a_cons (me_slr (e_var F.toFx 5) mo_none) (a_cons (me_slr (e_var F.toFx 6) mo_none) (ma_nil))))))) (md_nil))))))) (
    mb_cons (ms_expr (e_append F.toFx (e_var F.toFx 8) (e_call F.toFx (a_cons (me_int) (a_cons (e_var F.toFx 3) (a_cons (e_var F.toFx 4) (a_cons (me_tup (d_cons (me_bin opSub (me_bin opSub (e_var F.toFx 3) (me_int)) (e_idx F.toFx (e_var F.toFx 5) (me_int) (fun _ _ => rfl))) (d_cons (e_idx F.toFx (e_var F.toFx 5) (me_int) (fun _ _ => rfl)) (md_nil)))) (a_cons (me_tup (d_cons (me_bin opSub (me_bin opSub (e_var F.toFx 3) (me_int)) (e_idx F.toFx (e_var F.toFx 6) (me_int) (fun _ _ => rfl))) (d_cons (e_idx F.toFx (e_var F.toFx 6) (me_int) (fun _ _ => rfl)) (md_nil)))) (ma_nil)))))))) rfl) (
    mb_cons (ms_if (mt_not (mt_val (e_call F.toFx (a_cons (e_var F.toFx 8) (a_cons (me_bin opMul ((mf_lst (d_cons (e_var F.toFx 7) (md_nil))).me) (me_int)) (ma_nil)))) (fun _ => rfl))) (mb_cons (ms_ret (me_bl)) (
    mb_nil)) (mb_nil)) (
    mb_cons (ms_if (mt_w (mw_and (mt_cmp (opGt F.toFx.hu) (bl_ .gt) (me_bin opMul (e_var F.toFx 3) (e_var F.toFx 4)) (me_int) rfl) (mw_and1 (mt_cmp (opNe F.toFx.hu) (bl_ .ne) (e_call F.toFx (a_cons (me_int) (a_cons (e_var F.toFx 3) (a_cons (e_var F.toFx 4) (a_cons (e_var F.toFx 5) (a_cons (e_var F.toFx 6) (ma_nil))))))) (me_str ⟨by decide +kernel, by decide +kernel⟩) rfl)))) (mb_cons (ms_ret (me_bl)) (
    mb_nil)) (mb_nil)) (
    mb_nil))))))))) (
    mb_cons (ms_ret (me_bl)) (
    mb_nil))))
end
end K74
end

section
set_option linter.all false
set_option Elab.async false
set_option maxRecDepth 20000
namespace K74
open Py
open PySem (Str)
def isNum (a : D) (lo hi : Int) : Bool := match a with
  | .int i => decide (lo ≤ i) && decide (i ≤ hi)
  | _ => false
theorem f5 (n : Nat) (a : D) (lo hi : Int) (m : Mem) (h : plainK a = true) : run tbl sub 1000 word (n + 1) 5 [a, .int lo, .int hi] m = .ok (.bl (isNum a lo hi)) m := by
  rw [run_tbl (g := ⟨3, 3, b5, false⟩) rfl]
  cases a <;> first | (cases h; done) | skip
  all_goals simp [runFn, b5, pr_isI, pr_isB, isNum, kindIs, op2]
  by_cases h1 : lo ≤ ‹Int› <;> simp [h1]
def okN (r : Int) : Bool := isNum (.int r) 1 10
theorem f6 (n : Nat) (r c : Int) (m : Mem) : run tbl sub 1000 word (n + 2) 6 [.int r, .int c] m = if okN r && okN c then .ok .non m else .ex 1 m := by
  rw [run_tbl (g := ⟨2, 2, b6, false⟩) rfl]
  cases h1 : okN r <;> cases h2 : okN c <;> simp only [okN] at h1 h2 <;> simp [runFn, b6, f5, h1, h2]
def cells (r c : Int) : List (Int × Int) := (List.range r.toNat).flatMap fun (x : Nat) => (List.range c.toNat).map fun (y : Nat) => ((x : Int), (y : Int))
theorem f7 (n : Nat) (r c : Int) (m : Mem) (h : (okN r && okN c) = true) : run tbl sub 1000 word (n + 3) 7 [.int r, .int c] m = .ok (.tup ((cells r c).map cellD)) m := by
  rw [run_tbl (g := ⟨2, 4, b7, false⟩) rfl]
  have h' := h
  simp [okN, isNum] at h
  have hr : okB r = true := okB_mk (by omega) (by omega)
  have hc : okB c = true := okB_mk (by omega) (by omega)
  simp [runFn, b7, f6, h', range_items _ _ hr]
  rw [compS2_flat (fun d => match d with | .int x => (List.range c.toNat).map fun (y : Nat) => cellD (x, (y : Int)) | _ => []) 10]
  · simp [rng, cells, List.flatMap_map, List.map_flatMap]
    rfl
  · intro x hx
    simp only [rng, List.mem_map, List.mem_range] at hx
    obtain ⟨k, hk, rfl⟩ := hx
    refine ⟨by simp; omega, fun acc ha => ?_⟩
    simp [itS2, wipeE, bindT, range_items _ _ hc]
    rw [compL_map (fun d => match d with | .int y => cellD (k, y) | _ => .non)]
    · simp [rng, cellD]
    · intro x hx acc ha
      simp only [rng, List.mem_map, List.mem_range] at hx
      obtain ⟨j, hj, rfl⟩ := hx
      simp [itS, wipeE, bindT, ha, cellD]
    · simp [rng_len']; omega
  · simp [rng_len']; omega
theorem f7x (n : Nat) (r c : Int) (m : Mem) (h : (okN r && okN c) = false) : run tbl sub 1000 word (n + 3) 7 [.int r, .int c] m = .ex 1 m := by
  rw [run_tbl (g := ⟨2, 4, b7, false⟩) rfl]
  simp only [runFn, b7]
  simp [f6, h]
def isCell (v : D) : Bool := match v with
  | .tup [a, b] => isNum a 0 9 && isNum b 0 9
  | _ => false
def pl1 (d : D) : Prop := plainK d = true ∧ ∀ es, d = .tup es → ∀ e ∈ es, plainK e = true
theorem isTup_or (v : D) : (∃ ds, v = .tup ds) ∨ kindIs .isT v = false := by cases v <;> simp [kindIs]
theorem f18 (n : Nat) (v : D) (m : Mem) (h : pl1 v) : run tbl sub 1000 word (n + 2) 18 [v] m = .ok (.bl (isCell v)) m := by
  rw [run_tbl (g := ⟨1, 1, b18, false⟩) rfl]
  rcases isTup_or v with ⟨ds, rfl⟩ | hv
  · match ds, h with
    | [a, b], h =>
      have ha := h.2 _ rfl a (by simp)
      have hb := h.2 _ rfl b (by simp)
      have i0 : idxR (.tup [a, b]) (.int 0) m = .ok a m := idxR_tup rfl
      have i1 : idxR (.tup [a, b]) (.int 1) m = .ok b m := idxR_tup rfl
      simp [runFn, b18, pr_isT, i0, i1, f5, ha, hb, isCell]
      cases isNum a 0 9 <;> simp [i1, f5, hb]
    | [], h => simp [runFn, b18, pr_isT, isCell]
    | [a], h => simp [runFn, b18, pr_isT, isCell]
    | a :: b :: c :: r, h =>
      simp [runFn, b18, pr_isT, isCell, show ((r.length : Int) + 1 + 1 + 1 != 2) = true by simp; omega]
  · have : isCell v = false := by
      unfold isCell; split
      · simp [kindIs] at hv
      · rfl
    simp [runFn, b18, pr_isT, h.1, hv, this]
theorem isCell_iff (v : D) : isCell v = true ↔ ∃ p : Int × Int, v = cellD p ∧ (0 ≤ p.1 ∧ p.1 ≤ 9) ∧ 0 ≤ p.2 ∧ p.2 ≤ 9 := by
  constructor
  · intro h
    unfold isCell at h
    split at h
    · rename_i a b
      simp [isNum] at h
      obtain ⟨h1, h2⟩ := h
      split at h1 <;> split at h2 <;> simp at h1 h2
      exact ⟨(_, _), rfl, h1, h2⟩
    · cases h
  · rintro ⟨⟨x, y⟩, rfl, h1, h2⟩
    simp at h1 h2
    simp [isCell, cellD, isNum, h1, h2]
theorem all_cells {ds : List D} (h : ds.all isCell = true) : ∃ ps : List (Int × Int), ds = ps.map cellD := by
  induction ds with
  | nil => exact ⟨[], rfl⟩
  | cons d ds ih =>
    simp at h
    obtain ⟨p, hp, _⟩ := (isCell_iff d).mp h.1
    obtain ⟨ps, hps⟩ := ih (by simpa using h.2)
    exact ⟨p :: ps, by simp [hp, hps]⟩
def inGrid (r c : Int) (ps : List (Int × Int)) : Bool := decide (ps.mergeSort leP = cells r c)
def pl2 (v : D) : Prop := plainK v = true ∧ ∀ ds, v = .tup ds → ∀ d ∈ ds, pl1 d
def areAll (r c : Int) (v : D) : Bool := match v with
  | .tup ds => decide ((ds.length : Int) = r * c) && ds.all isCell && (match sortD ds with | some es => eqB (.tup es) (.tup ((cells r c).map cellD)) | none => false)
  | _ => false
theorem areAll_cells (r c : Int) (ps : List (Int × Int)) : areAll r c (.tup (ps.map cellD)) = (decide ((ps.length : Int) = r * c) && (ps.map cellD).all isCell && inGrid r c ps) := by
  simp [areAll, sortD_cells, eqB, eqBs_cells, inGrid]
theorem f19 (n : Nat) (r c : Int) (v : D) (m : Mem) (hg : (okN r && okN c) = true) (h : pl2 v) : run tbl sub 1000 word (n + 4) 19 [.int r, .int c, v] m = .ok (.bl (areAll r c v)) m := by
  rw [run_tbl (g := ⟨3, 4, b19, false⟩) rfl]
  have hg' := hg
  simp [okN, isNum] at hg
  rcases isTup_or v with ⟨ds, rfl⟩ | hv
  · have A : allS ⟨run tbl sub 1000 word (n + 3), sub, 1000, word⟩ [some (.int r), some (.int c), some (.tup ds), none] [3] (.nm 3) (.call 18 [.var 3]) ds m = .ok (ds.all isCell) m := by
      apply allS_all
      intro x hx
      simp [tstS, wipeE, bindT, f18, h.2 ds rfl x hx]
    have M : opR .mul (.int r) (.int c) m = .ok (.int (r * c)) m := opR_mul_int m (.inl (small_mk (by omega) (by omega)))
    by_cases hl : (ds.length : Int) = r * c
    · cases ha : ds.all isCell
      · rw [ha] at A
        simp [runFn, b19, pr_isT, A, M, hl, areAll, ha]
      · obtain ⟨ps, rfl⟩ := all_cells ha
        have hd : dep (.tup ((cells r c).map cellD)) ≤ dq := by have := deps_cells (cells r c); simp [dep, dq]; omega
        have E : opR .eq (.tup ((ps.mergeSort leP).map cellD)) (.tup ((cells r c).map cellD)) m = .ok (.bl (inGrid r c ps)) m := by
          rw [opR_some (op_eq_r m hd rfl rfl)]; simp [eqB, eqBs_cells, inGrid]
        rw [areAll_cells, ha]
        rw [ha] at A
        simp only [List.length_map] at hl
        simp [runFn, b19, pr_isT, A, M, hl, sortD_cells, f7, hg', E]
    · simp [runFn, b19, pr_isT, M, show ((ds.length : Int) != r * c) = true by simp [hl], areAll, hl]
  · have : areAll r c v = false := by
      unfold areAll; split
      · simp [kindIs] at hv
      · rfl
    simp [runFn, b19, pr_isT, h.1, hv, this]
def besides (p : Int × Int) : List (Int × Int) := [(p.1 - 1, p.2), (p.1, p.2 - 1), (p.1, p.2 + 1), (p.1 + 1, p.2)]
theorem f12 (n : Nat) (p : Int × Int) (m : Mem) : run tbl sub 1000 word (n + 1) 12 [cellD p] m = .ok (.lst ((besides p).map cellD)) m := by
  rw [run_tbl (g := ⟨1, 3, b12, false⟩) rfl]
  simp [runFn, b12, cellD, asgO, bindT, bindTs, besides]
def stp (p q : Int × Int) : Bool := decide (p ∈ besides q)
theorem f20 (n : Nat) (ps : List (Int × Int)) (m : Mem) (hl : ps.length ≤ 1000) : run tbl sub 1000 word (n + 2) 20 [.tup (ps.map cellD)] m = .ok (.bl ((List.range (ps.length - 1)).all fun (k : Nat) => match ps[k]?, ps[k + 1]? with | some p, some q => stp p q | _, _ => false)) m := by
  rw [run_tbl (g := ⟨1, 2, b20, false⟩) rfl]
  have hr : okB ((ps.length : Int) - 1) = true := okB_mk (by omega) (by omega)
  have ht : ((ps.length : Int) - 1).toNat = ps.length - 1 := by omega
  simp [runFn, b20, range_items _ _ hr, ht]
  rw [allS_rng (fun i => match ps[i.toNat]?, ps[i.toNat + 1]? with | some p, some q => stp p q | _, _ => false)]
  · simp
  · intro k h1 h2
    obtain ⟨j, rfl⟩ : ∃ j : Nat, k = j := ⟨k.toNat, by omega⟩
    have a1 : at? (ps.map cellD) (j : Int) = some (cellD ps[j]) := by
      rw [at_map, at_nat, List.getElem?_eq_getElem (by omega)]; rfl
    have a2 : at? (ps.map cellD) ((j : Int) + 1) = some (cellD ps[j + 1]) := by
      rw [at_map, at_nat1, List.getElem?_eq_getElem (by omega)]; rfl
    have e1 : ps[(j : Int).toNat]? = some ps[j] := by simp
    have e2 : ps[(j : Int).toNat + 1]? = some ps[j + 1] := by simp
    simp only [e1, e2]
    have hd : min (deps ((besides ps[j + 1]).map cellD)) (dep (cellD ps[j])) ≤ dq := by rw [dep_cell]; simp [dq]; omega
    have I := in_lst ps[j] (besides ps[j + 1]) m
    have e3 : decide (ps[j] ∈ besides ps[j + 1]) = stp ps[j] ps[j + 1] := rfl
    rw [e3] at I
    simp [tstS, wipeE, bindT, idxR_tup a1, idxR_tup a2, f12, I]
def beside (ps : List (Int × Int)) : Bool := (List.range (ps.length - 1)).all fun (k : Nat) => match ps[k]?, ps[k + 1]? with | some p, some q => stp p q | _, _ => false
theorem grid_eq : ∀ r : Nat, r < 11 → ∀ c : Nat, c < 11 → ((List.range (r * c)).map fun (k : Nat) => ((k : Int).fdiv (c : Int), (k : Int).fmod (c : Int))) = cells r c := by decide +kernel
theorem f2 (n : Nat) (r c : Int) (m : Mem) (hg : (okN r && okN c) = true) : run tbl sub 1000 word (n + 1) 2 [.int r, .int c] m = .ok (.lst ((cells r c).map cellD)) m := by
  rw [run_tbl (g := ⟨2, 3, b2, false⟩) rfl]
  simp [okN, isNum] at hg
  obtain ⟨r, rfl⟩ : ∃ k : Nat, r = k := ⟨r.toNat, by omega⟩
  obtain ⟨c, rfl⟩ : ∃ k : Nat, c = k := ⟨c.toNat, by omega⟩
  have hrc : r * c ≤ 100 := Nat.mul_le_mul (show r ≤ 10 by omega) (show c ≤ 10 by omega)
  have M : opR .mul (.int r) (.int c) m = .ok (.int ((r * c : Nat) : Int)) m := by rw [opR_mul_int m (.inl (small_mk (by omega) (by omega)))]; simp
  have hr : okB ((r * c : Nat) : Int) = true := okB_mk (by omega) (by omega)
  have hc : (c : Int) ≠ 0 := by omega
  have hc2 : (c : Int).natAbs < 1073741824 := by omega
  obtain ⟨L, hL, hL2⟩ : ∃ L, compS ⟨run tbl sub 1000 word n, sub, 1000, word⟩ [some (.int r), some (.int c), none] [2] (.nm 2) [] (.tup [.op .fdiv (.prim .int [.var 2]) (.var 1), .op .mod (.prim .int [.var 2]) (.var 1)]) (rng 0 (r * c)) m = .ok L m ∧ L = (cells r c).map cellD := by
    refine ⟨_, compS_rng (fun k => cellD (k.fdiv c, k.fmod c)) ?_ (by omega), ?_⟩
    · intro k h1 h2 acc ha
      simp [itS, wipeE, bindT, opR_fdiv_int m hc hc2, opR_mod_int m hc, ha, cellD]
    · rw [← grid_eq r (by omega) c (by omega)]; simp
  subst hL2
  simp [runFn, b2, M]
  rw [show ((r : Int) * (c : Int)) = ((r * c : Nat) : Int) by simp, range_nat _ _ hr]
  simp [hL]
def isIC (d : D) : Bool := match d with
  | .tup [.int _, .int _] => true
  | _ => false
theorem isIC_cells {ds : List D} (h : ds.all isIC = true) : ∃ ps : List (Int × Int), ds = ps.map cellD := by
  induction ds with
  | nil => exact ⟨[], rfl⟩
  | cons d ds ih =>
    simp at h
    obtain ⟨ps, hps⟩ := ih (by simpa using h.2)
    have h1 := h.1
    unfold isIC at h1
    split at h1
    · exact ⟨(_, _) :: ps, by rw [List.map_cons, hps]; rfl⟩
    · cases h1
def dst (p q : Int × Int) : Int := (if p.1 - q.1 < 0 then -(p.1 - q.1) else p.1 - q.1) + (if p.2 - q.2 < 0 then -(p.2 - q.2) else p.2 - q.2)
def notI (d : D) : Bool := kindIs .isB d || !(kindIs .isI d)
theorem pl2_cells (ps : List (Int × Int)) : pl2 (.tup (ps.map cellD)) := ⟨rfl, fun ds e d hd => by cases e; obtain ⟨p, _, rfl⟩ := List.mem_map.mp hd; exact ⟨rfl, fun es e x hx => by cases e; simp at hx; rcases hx with rfl | rfl <;> rfl⟩⟩
theorem eq_grid (r c : Int) (ps : List (Int × Int)) (m : Mem) : opR .ne (.tup ((ps.mergeSort leP).map cellD)) (.tup ((cells r c).map cellD)) m = .ok (.bl !(inGrid r c ps)) m := by
  have hd : dep (.tup ((cells r c).map cellD)) ≤ dq := by have := deps_cells (cells r c); simp [dep, dq]; omega
  rw [opR_some (op_ne_r m hd rfl rfl)]; simp [eqB, eqBs_cells, inGrid]
theorem mem_cells {r c : Int} {p : Int × Int} : p ∈ cells r c ↔ (0 ≤ p.1 ∧ p.1 < r) ∧ 0 ≤ p.2 ∧ p.2 < c := by
  obtain ⟨x, y⟩ := p
  simp only [cells, List.mem_flatMap, List.mem_map, List.mem_range, Prod.mk.injEq]
  constructor
  · rintro ⟨a, ha, b, hb, rfl, rfl⟩; omega
  · rintro ⟨⟨h1, h2⟩, h3, h4⟩
    exact ⟨x.toNat, by omega, y.toNat, by omega, by omega, by omega⟩
theorem inGrid_perm {r c : Int} {ps : List (Int × Int)} (h : inGrid r c ps = true) : ps.Perm (cells r c) := by
  simp only [inGrid, decide_eq_true_eq] at h
  rw [← h]; exact (List.mergeSort_perm ps leP).symm
theorem inGrid_isCell {r c : Int} {ps : List (Int × Int)} (hg : (okN r && okN c) = true) (h : inGrid r c ps = true) : (ps.map cellD).all isCell = true := by
  simp [okN, isNum] at hg
  rw [List.all_eq_true]
  intro d hd
  obtain ⟨p, hp, rfl⟩ := List.mem_map.mp hd
  have := mem_cells.mp ((inGrid_perm h).mem_iff.mp hp)
  exact (isCell_iff _).mpr ⟨p, rfl, by omega, by omega⟩
theorem stp_dst (p q : Int × Int) : stp p q = (dst p q == 1) := by
  obtain ⟨a, b⟩ := p; obtain ⟨c, d⟩ := q
  rw [Bool.eq_iff_iff]
  simp only [stp, besides, dst, decide_eq_true_eq, List.mem_cons, List.not_mem_nil, or_false, Prod.mk.injEq, beq_iff_eq]
  split <;> split <;> omega
theorem dst_comm (p q : Int × Int) : dst p q = dst q p := by
  obtain ⟨a, b⟩ := p; obtain ⟨c, d⟩ := q
  simp only [dst]; split <;> split <;> split <;> split <;> omega
end K74
end

section
set_option linter.all false
set_option Elab.async false
set_option maxRecDepth 20000
namespace K74
open Py
open PySem (Str)
/-! ### the rule, as the program reads it -/
def barred (p q : Cell) : Bool := ((p.1 + p.2).fmod 2 == 1) && (decide (p.2 < q.2 - 1) || ((p.1 == 1) && decide (p.2 < q.2)))
theorem f8 (n : Nat) (c : Int) (p q : Cell) (m : Mem) : run tbl sub 1000 word (n + 1) 8 [.int c, cellD p, cellD q] m = .ok (.bl (barred p q)) m := by
  rw [run_tbl (g := ⟨3, 6, b8, false⟩) rfl]
  have j1 := i1 q m
  have A : asgO (.tp [.tp [.nm 3, .nm 4], .nm 5]) (.tup [cellD p, .int q.2]) [some (.int c), some (cellD p), some (cellD q), none, none, none] m = .nx [some (.int c), some (cellD p), some (cellD q), some (.int p.1), some (.int p.2), some (.int q.2)] m := by simp [asgO, bindT, bindTs, cellD]
  have hb : barred p q = (((p.1 + p.2).fmod 2 == 1) && (decide (p.2 < q.2 - 1) || ((p.1 == 1) && decide (p.2 < q.2)))) := rfl
  rw [hb]
  simp only [runFn, b8]
  cases h1 : ((p.1 + p.2).fmod 2 == 1)
  · simp [j1, A, h1]
  · cases h2 : decide (p.2 < q.2 - 1)
    · cases h3 : (p.1 == 1) <;> simp [j1, A, h1, h2, h3]
    · simp [j1, A, h1, h2]
def mirC (c : Int) (p : Cell) : Cell := (p.1, c - 1 - p.2)
def three (c : Int) (p q : Cell) : Bool := barred p q || (barred q p || (barred (mirC c p) (mirC c q) || barred (mirC c q) (mirC c p)))
theorem f9 (n : Nat) (c : Int) (p q : Cell) (m : Mem) : run tbl sub 1000 word (n + 2) 9 [.int c, cellD p, cellD q] m = .ok (.bl (three c p q)) m := by
  rw [run_tbl (g := ⟨3, 9, b9, false⟩) rfl]
  have C : compS ⟨run tbl sub 1000 word (n + 1), sub, 1000, word⟩ [some (.int c), some (cellD p), some (cellD q), none, none, none, none, none, none] [5, 6] (.tp [.nm 5, .nm 6]) [] (.tup [.var 5, .op .sub (.op .sub (.var 0) (.lit (.int 1))) (.var 6)]) [cellD p, cellD q] m = .ok [cellD (mirC c p), cellD (mirC c q)] m := by
    have := compS_cells (c := ⟨run tbl sub 1000 word (n + 1), sub, 1000, word⟩) (e := [some (.int c), some (cellD p), some (cellD q), none, none, none, none, none, none]) (own := [5, 6]) (t := .tp [.nm 5, .nm 6]) (ifs := []) (el := .tup [.var 5, .op .sub (.op .sub (.var 0) (.lit (.int 1))) (.var 6)]) (m := m) (fun p => cellD (mirC c p)) (ps := [p, q]) (by
      intro x hx acc ha
      simp [itS, wipeE, bindT, bindTs, cellD, mirC, ha]) (by simp)
    exact this
  have K : ∀ x3 x4, anyS ⟨run tbl sub 1000 word (n + 1), sub, 1000, word⟩ [some (.int c), some (cellD p), some (cellD q), x3, x4, none, none, none, none] [7, 8] (.tp [.nm 7, .nm 8]) (.call 8 [.var 0, .var 7, .var 8]) [.tup [cellD p, cellD q], .tup [cellD q, cellD p], .tup [cellD (mirC c p), cellD (mirC c q)], .tup [cellD (mirC c q), cellD (mirC c p)]] m = .ok (three c p q) m := by
    intro x3 x4
    rw [anyS_eq]
    have T : ∀ a b : Cell, tstS ⟨run tbl sub 1000 word (n + 1), sub, 1000, word⟩ [some (.int c), some (cellD p), some (cellD q), x3, x4, none, none, none, none] [7, 8] (.tp [.nm 7, .nm 8]) (.call 8 [.var 0, .var 7, .var 8]) (.tup [cellD a, cellD b]) m = .ok (barred a b) m := by
      intro a b
      simp [tstS, wipeE, bindT, bindTs, f8]
    simp only [anyL, T, R.bind_ok, three]
    cases barred p q <;> cases barred q p <;> cases barred (mirC c p) (mirC c q) <;> cases barred (mirC c q) (mirC c p) <;> simp
  have j0 : ∀ a b : D, idxR (.lst [a, b]) (.int 0) m = .ok a m := fun a b => idxR_lst' rfl
  have j1 : ∀ a b : D, idxR (.lst [a, b]) (.int 1) m = .ok b m := fun a b => idxR_lst' rfl
  simp only [runFn, b9]
  simp [C, j0, j1, K]
theorem sort2 (a b : Int) : sortD [.int a, .int b] = some (if a ≤ b then [.int a, .int b] else [.int b, .int a]) := by
  have h : sortOk [D.int a, .int b] = true := by simp [sortOk, ordOk, tupNe, tupNon, dep, deps, dq]
  rw [sortD, if_pos h]
  have e : leD (.int a) (.int b) = decide (a ≤ b) := by
    rw [Bool.eq_iff_iff]; simp [leD, ltB]
  by_cases h2 : a ≤ b
  · rw [List.mergeSort_of_pairwise]
    · simp [h2]
    · simp [e, h2]
  · have : [D.int a, .int b].mergeSort leD = [.int b, .int a] := by
      unfold List.mergeSort
      simp [List.MergeSort.Internal.splitInTwo, List.merge, e, h2]
    rw [this, if_neg h2]
def rule1 (c : Int) (p q : Cell) : Bool := eqB (.lst (if p.2 ≤ q.2 then [.int p.2, .int q.2] else [.int q.2, .int p.2])) (.lst [.int 0, .int (c - 1)])
def odds (r c : Int) (p q : Cell) : Bool := (((r * c).fmod 2 == 0) && ((p.1 + p.2 + q.1 + q.2).fmod 2 == 0)) || (((r * c).fmod 2 == 1) && (((p.1 + p.2).fmod 2 == 1) || ((q.1 + q.2).fmod 2 == 1)))
def ruleB (r c : Int) (p q : Cell) : Bool := if odds r c p q then false else if r == 1 then rule1 c p q else if r == 2 then (p.2 != q.2) || ((p.2 == 0) || (p.2 == c - 1)) else (r != 3) || ((c.fmod 2 == 1) || !(three c p q))
theorem in2 (b x y : Int) (m : Mem) : opR .in_ (.int b) (.tup [.int x, .int y]) m = .ok (.bl ((b == x) || (b == y))) m := by
  apply opR_some
  have h : min (deps [D.int x, .int y]) (dep (.int b)) ≤ dq ∧ plainK (.int b) = true := ⟨by simp [dep, deps, dq], rfl⟩
  simp only [op2, inD, dctOf, inS, der_int, der_tup', Option.bind_some, if_pos h]
  simp [eqB, Bool.beq_comm]
theorem in2l (b x y : Int) (m : Mem) : opR .in_ (.int b) (.lst [.int x, .int y]) m = .ok (.bl ((b == x) || (b == y))) m := by
  apply opR_some
  have h : min (deps [D.int x, .int y]) (dep (.int b)) ≤ dq ∧ plainK (.int b) = true := ⟨by simp [dep, deps, dq], rfl⟩
  simp only [op2, inD, dctOf, inS, der_int, der_lst, Option.bind_some, if_pos h]
  simp [eqB, Bool.beq_comm]
theorem f10 (n : Nat) (r c : Int) (p q : Cell) (m : Mem) (hg : (okN r && okN c) = true) : run tbl sub 1000 word (n + 3) 10 [.int r, .int c, cellD p, cellD q] m = .ok (.bl (ruleB r c p q)) m := by
  rw [run_tbl (g := ⟨4, 8, b10, false⟩) rfl]
  simp [okN, isNum] at hg
  have M : opR .mul (.int r) (.int c) m = .ok (.int (r * c)) m := opR_mul_int m (.inl (small_mk (by omega) (by omega)))
  have A : asgO (.tp [.tp [.nm 4, .nm 5], .tp [.nm 6, .nm 7]]) (.tup [cellD p, cellD q]) [some (.int r), some (.int c), some (cellD p), some (cellD q), none, none, none, none] m = .nx [some (.int r), some (.int c), some (cellD p), some (cellD q), some (.int p.1), some (.int p.2), some (.int q.1), some (.int q.2)] m := by simp [asgO, bindT, bindTs, cellD]
  have S := sort2 p.2 q.2
  have E : opR .eq (.lst (if p.2 ≤ q.2 then [D.int p.2, .int q.2] else [.int q.2, .int p.2])) (.lst [.int 0, .int (c - 1)]) m = .ok (.bl (rule1 c p q)) m := opR_some (by rw [op_eq_r m (by simp [dep, deps, dq]) rfl rfl]; rfl)
  have I := in2 p.2 0 (c - 1) m
  have T := f9 n c p q m
  generalize (if p.2 ≤ q.2 then [D.int p.2, .int q.2] else [.int q.2, .int p.2]) = L at S E
  have X : ∀ e : Env, e = [some (.int r), some (.int c), some (cellD p), some (cellD q), some (.int p.1), some (.int p.2), some (.int q.1), some (.int q.2)] → asBool (ev ⟨run tbl sub 1000 word (n + 2), sub, 1000, word⟩ e (.or (.and (.op .eq (.op .mod (.op .mul (.var 0) (.var 1)) (.lit (.int 2))) (.lit (.int 0))) (.op .eq (.op .mod (.op .add (.op .add (.op .add (.var 4) (.var 5)) (.var 6)) (.var 7)) (.lit (.int 2))) (.lit (.int 0)))) (.and (.op .eq (.op .mod (.op .mul (.var 0) (.var 1)) (.lit (.int 2))) (.lit (.int 1))) (.or (.op .eq (.op .mod (.op .add (.var 4) (.var 5)) (.lit (.int 2))) (.lit (.int 1))) (.op .eq (.op .mod (.op .add (.var 6) (.var 7)) (.lit (.int 2))) (.lit (.int 1)))))) m) = .ok (odds r c p q) m := by
    rintro e rfl
    have ho : odds r c p q = ((((r * c).fmod 2 == 0) && ((p.1 + p.2 + q.1 + q.2).fmod 2 == 0)) || (((r * c).fmod 2 == 1) && (((p.1 + p.2).fmod 2 == 1) || ((q.1 + q.2).fmod 2 == 1)))) := rfl
    rw [ho]
    cases h1 : ((r * c).fmod 2 == 0) <;> cases h2 : ((p.1 + p.2 + q.1 + q.2).fmod 2 == 0) <;> cases h3 : ((r * c).fmod 2 == 1) <;> cases h4 : ((p.1 + p.2).fmod 2 == 1) <;> simp [M, h1, h2, h3, h4]
  have X' := X _ rfl
  have S1 := exec_iff ⟨run tbl sub 1000 word (n + 2), sub, 1000, word⟩ [some (.int r), some (.int c), some (cellD p), some (cellD q), some (.int p.1), some (.int p.2), some (.int q.1), some (.int q.2)] m (.or (.and (.op .eq (.op .mod (.op .mul (.var 0) (.var 1)) (.lit (.int 2))) (.lit (.int 0))) (.op .eq (.op .mod (.op .add (.op .add (.op .add (.var 4) (.var 5)) (.var 6)) (.var 7)) (.lit (.int 2))) (.lit (.int 0)))) (.and (.op .eq (.op .mod (.op .mul (.var 0) (.var 1)) (.lit (.int 2))) (.lit (.int 1))) (.or (.op .eq (.op .mod (.op .add (.var 4) (.var 5)) (.lit (.int 2))) (.lit (.int 1))) (.op .eq (.op .mod (.op .add (.var 6) (.var 7)) (.lit (.int 2))) (.lit (.int 1)))))) [.ret (.lit (.bl false))] []
  rw [X'] at S1
  simp only [runFn, b10]
  rw [ruleB]
  cases ho : odds r c p q <;> rw [ho] at S1
  · cases h1 : (r == 1)
    · cases h2 : (r == 2)
      · have e3 : (r != 3) = !(r == 3) := rfl
        cases h3 : (r == 3) <;> cases h4 : (c.fmod 2 == 1) <;> simp [A, S1, h1, h2, e3, h3, h4, T]
      · cases h3 : (p.2 != q.2) <;> simp [A, S1, h1, h2, h3, I]
    · simp [A, S1, h1, S, E]
  · simp [A, S1]
end K74
end

section
set_option linter.all false
set_option Elab.async false
set_option maxRecDepth 20000
namespace K74
open Py
open PySem (Str)
/-! ### the rule, as the law reads it -/
def swp (p : Cell) : Cell := (p.2, p.1)
theorem slr_cell (p : Cell) (m : Mem) : slrR (cellD p) none m = .ok (cellD (swp p)) m := rfl
def oddL (a b : Int) : Bool := (a.fmod 2 == 1) || (b.fmod 2 == 1)
theorem odd_run (c : Cfg) (e : Env) (a b : Int) (m : Mem) (he : e.length = 14) : ∃ L, compS c e [13] (.nm 13) [.op .eq (.op .mod (.prim .int [.var 13]) (.lit (.int 2))) (.lit (.int 1))] (.lit (.int 1)) [.int a, .int b] m = .ok L m ∧ L.isEmpty = !(oddL a b) := by
  refine ⟨_, compS_filter (fun d => match d with | .int k => (k.fmod 2 == 1) | _ => false) (fun _ => .int 1) ?_ (by simp), ?_⟩
  · intro x hx acc ha
    have : ∃ k, x = .int k := by simp at hx; rcases hx with rfl | rfl <;> exact ⟨_, rfl⟩
    obtain ⟨k, rfl⟩ := this
    match e, he with
    | [e0, e1, e2, e3, e4, e5, e6, e7, e8, e9, e10, e11, e12, e13], _ =>
    cases h : (k.fmod 2 == 1) <;> simp [itS, wipeE, bindT, ha, h]
  · cases h1 : (a.fmod 2 == 1) <;> cases h2 : (b.fmod 2 == 1) <;> simp [List.filter, h1, h2, oddL]
/-- the look at both ends -/
def lk (x u v : Int) : Bool := ((x + u).fmod 2 == 1) && (decide (u < v) && ((x == 1) || decide (u < v - 1)))
def lookB : List S := [.asg (.tp [.nm 11, .nm 12]) (.ite (.op .eq (.var 10) (.lit (.int 0))) (.lst [.idx (.var 8) (.lit (.int 1)), .idx (.var 9) (.lit (.int 1))]) (.lst [.op .sub (.op .sub (.var 1) (.lit (.int 1))) (.idx (.var 8) (.lit (.int 1))), .op .sub (.op .sub (.var 1) (.lit (.int 1))) (.idx (.var 9) (.lit (.int 1)))])), .iff (.and (.op .eq (.op .mod (.prim .int [.op .add (.idx (.var 8) (.lit (.int 0))) (.var 11)]) (.lit (.int 2))) (.lit (.int 1))) (.and (.op .lt (.var 11) (.var 12)) (.or (.op .eq (.idx (.var 8) (.lit (.int 0))) (.lit (.int 1))) (.op .lt (.var 11) (.op .sub (.var 12) (.lit (.int 1))))))) [.ret (.lit (.bl false))] []]
def luv (c : Int) (k : Int) (p : Cell) : Int := if k = 0 then p.2 else c - 1 - p.2
theorem look_run (cf : Cfg) (e0 e2 e3 e4 e5 e6 e7 e11 e12 e13 : Option D) (c k : Int) (p q : Cell) (m : Mem) : execs cf lookB [e0, some (.int c), e2, e3, e4, e5, e6, e7, some (cellD p), some (cellD q), some (.int k), e11, e12, e13] m = if lk p.1 (luv c k p) (luv c k q) then .rt (.bl false) m else .nx [e0, some (.int c), e2, e3, e4, e5, e6, e7, some (cellD p), some (cellD q), some (.int k), some (.int (luv c k p)), some (.int (luv c k q)), e13] m := by
  have a0 := i0 p m
  have a1 := i1 p m
  have b1 := i1 q m
  have A : ∀ u v : Int, asgO (.tp [.nm 11, .nm 12]) (.lst [.int u, .int v]) [e0, some (.int c), e2, e3, e4, e5, e6, e7, some (cellD p), some (cellD q), some (.int k), e11, e12, e13] m = .nx [e0, some (.int c), e2, e3, e4, e5, e6, e7, some (cellD p), some (cellD q), some (.int k), some (.int u), some (.int v), e13] m := by
    intro u v
    simp [asgO, bindT, bindTs]
  have L : lk p.1 (luv c k p) (luv c k q) = (((p.1 + luv c k p).fmod 2 == 1) && (decide (luv c k p < luv c k q) && ((p.1 == 1) || decide (luv c k p < luv c k q - 1)))) := rfl
  rw [L]
  by_cases hk : k = 0
  · have hk' : (k == 0) = true := by simp [hk]
    have lu : ∀ p : Cell, luv c k p = p.2 := fun p => by simp [luv, hk]
    simp only [lu]
    cases h1 : ((p.1 + p.2).fmod 2 == 1) <;> cases h2 : decide (p.2 < q.2) <;> cases h3 : (p.1 == 1) <;> cases h4 : decide (p.2 < q.2 - 1) <;> simp [lookB, hk', a0, a1, b1, A, h1, h2, h3, h4]
  · have hk' : (k == 0) = false := by simp [hk]
    have lu : ∀ p : Cell, luv c k p = c - 1 - p.2 := fun p => by simp [luv, hk]
    simp only [lu]
    cases h1 : ((p.1 + (c - 1 - p.2)).fmod 2 == 1) <;> cases h2 : decide (c - 1 - p.2 < c - 1 - q.2) <;> cases h3 : (p.1 == 1) <;> cases h4 : decide (c - 1 - p.2 < c - 1 - q.2 - 1) <;> simp [-Int.sub_lt_sub_left_iff, lookB, hk', a0, a1, b1, A, h1, h2, h3, h4]
def lks (c : Int) (p q : Cell) : Bool := lk p.1 (luv c 0 p) (luv c 0 q) || lk p.1 (luv c 1 p) (luv c 1 q)
theorem looks_run (cf : Cfg) (e0 e2 e3 e4 e5 e6 e7 e10 e11 e12 e13 : Option D) (c : Int) (p q : Cell) (m : Mem) : (lks c p q = true → forS cf (.nm 10) lookB (rng 0 2) [e0, some (.int c), e2, e3, e4, e5, e6, e7, some (cellD p), some (cellD q), e10, e11, e12, e13] m = .rt (.bl false) m) ∧ (lks c p q = false → ∃ y10 y11 y12, forS cf (.nm 10) lookB (rng 0 2) [e0, some (.int c), e2, e3, e4, e5, e6, e7, some (cellD p), some (cellD q), e10, e11, e12, e13] m = .nx [e0, some (.int c), e2, e3, e4, e5, e6, e7, some (cellD p), some (cellD q), y10, y11, y12, e13] m) := by
  have r2 : rng 0 2 = [D.int 0, .int 1] := rfl
  have A := look_run cf e0 e2 e3 e4 e5 e6 e7 e11 e12 e13 c 0 p q m
  have B := look_run cf e0 e2 e3 e4 e5 e6 e7 (some (.int (luv c 0 p))) (some (.int (luv c 0 q))) e13 c 1 p q m
  rw [r2]
  unfold lks
  cases h1 : lk p.1 (luv c 0 p) (luv c 0 q) <;> rw [h1] at A
  · cases h2 : lk p.1 (luv c 1 p) (luv c 1 q) <;> rw [h2] at B
    · refine ⟨by simp, fun _ => ⟨some (.int 1), some (.int (luv c 1 p)), some (.int (luv c 1 q)), ?_⟩⟩
      simp [forS_cons, forS_nil, bindT, A, B]
    · refine ⟨fun _ => ?_, by simp⟩
      simp [forS_cons, bindT, A, B]
  · refine ⟨fun _ => ?_, by simp⟩
    simp [forS_cons, bindT, A]
theorem looks2_run (n : Nat) (e0 e2 e3 e4 e5 e6 e7 e8 e9 e10 e11 e12 e13 : Option D) (c : Int) (p q : Cell) (m : Mem) : ((lks c p q || lks c q p) = true → forS ⟨run tbl sub 1000 word n, sub, 1000, word⟩ (.tp [.nm 8, .nm 9]) [.for_ (.nm 10) .rng1 [.lit (.int 2)] lookB] [.tup [cellD p, cellD q], .tup [cellD q, cellD p]] [e0, some (.int c), e2, e3, e4, e5, e6, e7, e8, e9, e10, e11, e12, e13] m = .rt (.bl false) m) ∧ ((lks c p q || lks c q p) = false → ∃ y8 y9 y10 y11 y12, forS ⟨run tbl sub 1000 word n, sub, 1000, word⟩ (.tp [.nm 8, .nm 9]) [.for_ (.nm 10) .rng1 [.lit (.int 2)] lookB] [.tup [cellD p, cellD q], .tup [cellD q, cellD p]] [e0, some (.int c), e2, e3, e4, e5, e6, e7, e8, e9, e10, e11, e12, e13] m = .nx [e0, some (.int c), e2, e3, e4, e5, e6, e7, y8, y9, y10, y11, y12, e13] m) := by
  have hr : itemsOf .rng1 [.int 2] m = some (rng 0 2) := range_lit 2 2 _ rfl rfl
  cases h1 : lks c p q
  · obtain ⟨y10, y11, y12, A⟩ := (looks_run ⟨run tbl sub 1000 word n, sub, 1000, word⟩ e0 e2 e3 e4 e5 e6 e7 e10 e11 e12 e13 c p q m).2 h1
    cases h2 : lks c q p
    · obtain ⟨z10, z11, z12, B⟩ := (looks_run ⟨run tbl sub 1000 word n, sub, 1000, word⟩ e0 e2 e3 e4 e5 e6 e7 y10 y11 y12 e13 c q p m).2 h2
      refine ⟨by simp, fun _ => ⟨some (cellD q), some (cellD p), z10, z11, z12, ?_⟩⟩
      simp [forS_cons, forS_nil, bindT, bindTs, hr, A, B]
    · have B := (looks_run ⟨run tbl sub 1000 word n, sub, 1000, word⟩ e0 e2 e3 e4 e5 e6 e7 y10 y11 y12 e13 c q p m).1 h2
      refine ⟨fun _ => ?_, by simp⟩
      simp [forS_cons, forS_nil, bindT, bindTs, hr, A, B]
  · have A := (looks_run ⟨run tbl sub 1000 word n, sub, 1000, word⟩ e0 e2 e3 e4 e5 e6 e7 e10 e11 e12 e13 c p q m).1 h1
    refine ⟨fun _ => ?_, by simp⟩
    simp [forS_cons, forS_nil, bindT, bindTs, hr, A]
def oddsL (r c : Int) (p q : Cell) : Bool := (((r * c).fmod 2 == 0) && ((p.1 + p.2 + q.1 + q.2).fmod 2 == 0)) || (((r * c).fmod 2 == 1) && oddL (p.1 + p.2) (q.1 + q.2))
def ruleL (r c : Int) (p q : Cell) : Bool := if oddsL r c p q then false else if r == 1 then decide ((p.2 = 0 ∧ q.2 = c - 1) ∨ (p.2 = c - 1 ∧ q.2 = 0)) else if r == 2 then (p.2 != q.2) || ((p.2 == 0) || (p.2 == c - 1)) else if (r == 3) && (c.fmod 2 == 0) then !(lks c p q || lks c q p) else true
abbrev condL : C := .or (.and (.op .eq (.op .mod (.op .mul (.var 0) (.var 1)) (.lit (.int 2))) (.lit (.int 0))) (.op .eq (.op .mod (.prim .int [.op .add (.op .add (.op .add (.var 4) (.var 5)) (.var 6)) (.var 7)]) (.lit (.int 2))) (.lit (.int 0)))) (.and (.op .eq (.op .mod (.op .mul (.var 0) (.var 1)) (.lit (.int 2))) (.lit (.int 1))) (.op .ne (.comp [13] (.nm 13) .seq [.lst [.op .add (.var 4) (.var 5), .op .add (.var 6) (.var 7)]] [.op .eq (.op .mod (.prim .int [.var 13]) (.lit (.int 2))) (.lit (.int 1))] (.lit (.int 1))) (.lst [])))
theorem f23a (n : Nat) (r c : Int) (p q : Cell) (m : Mem) (hg : (okN r && okN c) = true) (hrc : r ≤ c) : run tbl sub 1000 word (n + 1) 23 [.int r, .int c, cellD p, cellD q] m = .ok (.bl (ruleL r c p q)) m := by
  rw [run_tbl (g := ⟨4, 14, b23, false⟩) rfl]
  simp [okN, isNum] at hg
  have M : opR .mul (.int r) (.int c) m = .ok (.int (r * c)) m := opR_mul_int m (.inl (small_mk (by omega) (by omega)))
  have G : decide (c < r) = false := by simp; omega
  have A : asgO (.tp [.tp [.nm 4, .nm 5], .tp [.nm 6, .nm 7]]) (.tup [cellD p, cellD q]) [some (.int r), some (.int c), some (cellD p), some (cellD q), none, none, none, none, none, none, none, none, none, none] m = .nx [some (.int r), some (.int c), some (cellD p), some (cellD q), some (.int p.1), some (.int p.2), some (.int q.1), some (.int q.2), none, none, none, none, none, none] m := by simp [asgO, bindT, bindTs, cellD]
  have I := in2l p.2 0 (c - 1) m
  have S1 : exec ⟨run tbl sub 1000 word n, sub, 1000, word⟩ (.iff condL [.ret (.lit (.bl false))] []) [some (.int r), some (.int c), some (cellD p), some (cellD q), some (.int p.1), some (.int p.2), some (.int q.1), some (.int q.2), none, none, none, none, none, none] m = if oddsL r c p q then .rt (.bl false) m else .nx [some (.int r), some (.int c), some (cellD p), some (cellD q), some (.int p.1), some (.int p.2), some (.int q.1), some (.int q.2), none, none, none, none, none, none] m := by
    obtain ⟨L, h1, h2⟩ := odd_run ⟨run tbl sub 1000 word n, sub, 1000, word⟩ [some (.int r), some (.int c), some (cellD p), some (cellD q), some (.int p.1), some (.int p.2), some (.int q.1), some (.int q.2), none, none, none, none, none, none] (p.1 + p.2) (q.1 + q.2) m rfl
    have N := opR_ne_nil L m
    rw [h2] at N
    have ho : oddsL r c p q = ((((r * c).fmod 2 == 0) && ((p.1 + p.2 + q.1 + q.2).fmod 2 == 0)) || (((r * c).fmod 2 == 1) && oddL (p.1 + p.2) (q.1 + q.2))) := rfl
    rw [ho]
    cases h3 : ((r * c).fmod 2 == 0) <;> cases h4 : ((p.1 + p.2 + q.1 + q.2).fmod 2 == 0) <;> cases h5 : ((r * c).fmod 2 == 1) <;> cases h6 : oddL (p.1 + p.2) (q.1 + q.2) <;> rw [h6] at N <;> simp [M, h1, N, h3, h4, h5]
  have hB : b23 = [.iff (.op .gt (.var 0) (.var 1)) [.ret (.call 23 [.var 1, .var 0, .slr (.var 2) none, .slr (.var 3) none])] [], .asg (.tp [.tp [.nm 4, .nm 5], .tp [.nm 6, .nm 7]]) (.tup [.var 2, .var 3]), .iff condL [.ret (.lit (.bl false))] [], .iff (.op .eq (.var 0) (.lit (.int 1))) [.ret (.deq (.var 5) (.var 7) (.lit (.int 0)) (.op .sub (.var 1) (.lit (.int 1))))] [], .iff (.op .eq (.var 0) (.lit (.int 2))) [.ret (.or (.op .ne (.var 5) (.var 7)) (.op .in_ (.var 5) (.lst [.lit (.int 0), .op .sub (.var 1) (.lit (.int 1))])))] [], .iff (.and (.op .eq (.var 0) (.lit (.int 3))) (.op .eq (.op .mod (.prim .int [.var 1]) (.lit (.int 2))) (.lit (.int 0)))) [.for_ (.tp [.nm 8, .nm 9]) .seq [.lst [.tup [.var 2, .var 3], .tup [.var 3, .var 2]]] [.for_ (.nm 10) .rng1 [.lit (.int 2)] lookB]] [], .ret (.lit (.bl true))] := rfl
  simp only [runFn, hB]
  rw [ruleL]
  cases ho : oddsL r c p q <;> rw [ho] at S1
  · cases h1 : (r == 1)
    · cases h2 : (r == 2)
      · cases h3 : ((r == 3) && (c.fmod 2 == 0))
        · have : (r == 3) = false ∨ (r == 3) = true ∧ (c.fmod 2 == 0) = false := by
            cases hh : (r == 3)
            · exact .inl rfl
            · rw [hh] at h3; exact .inr ⟨rfl, by simpa using h3⟩
          rcases this with h4 | ⟨h4, h5⟩
          · simp [G, A, S1, h1, h2, h4]
          · simp [G, A, S1, h1, h2, h4, h5]
        · rw [Bool.and_eq_true] at h3
          have K := looks2_run n (some (.int r)) (some (cellD p)) (some (cellD q)) (some (.int p.1)) (some (.int p.2)) (some (.int q.1)) (some (.int q.2)) none none none none none none c p q m
          cases h4 : (lks c p q || lks c q p)
          · obtain ⟨y8, y9, y10, y11, y12, F⟩ := K.2 h4
            simp [G, A, S1, h1, h2, h3.1, h3.2, F]
          · have F := K.1 h4
            simp [G, A, S1, h1, h2, h3.1, h3.2, F]
      · cases h3 : (p.2 != q.2) <;> simp [G, A, S1, h1, h2, h3, I]
    · simp [G, A, S1, h1, deqR, deqB]
  · simp [G, A, S1]
theorem f23b (n : Nat) (r c : Int) (p q : Cell) (m : Mem) (hg : (okN r && okN c) = true) (hrc : c < r) : run tbl sub 1000 word (n + 2) 23 [.int r, .int c, cellD p, cellD q] m = .ok (.bl (ruleL c r (swp p) (swp q))) m := by
  rw [run_tbl (g := ⟨4, 14, b23, false⟩) rfl]
  have H := f23a n c r (swp p) (swp q) m (by rw [Bool.and_comm]; exact hg) (by omega)
  have G : decide (c < r) = true := by simp; omega
  simp [runFn, b23, G, slr_cell, H]
end K74
end

section
set_option linter.all false
set_option Elab.async false
set_option maxRecDepth 20000
namespace K74
open Py
/-! ### both rules agree, and look the same from all sides -/
theorem fm2 (a : Int) : a.fmod 2 = a % 2 := Int.fmod_eq_emod_of_nonneg a (by omega)
theorem par_mul {r c : Int} (h : (r * c) % 2 = 1) : r % 2 = 1 ∧ c % 2 = 1 := by
  have e := Int.mul_emod r c 2
  rcases Int.emod_two_eq r with h1 | h1 <;> rcases Int.emod_two_eq c with h2 | h2 <;> rw [h1, h2] at e <;> simp at e <;> omega
theorem barred_lk (p q : Cell) : barred p q = lk p.1 p.2 q.2 := by
  rw [Bool.eq_iff_iff]
  simp only [barred, lk, Bool.and_eq_true, Bool.or_eq_true, decide_eq_true_eq, beq_iff_eq]
  omega
theorem luv0 (c : Int) (p : Cell) : luv c 0 p = p.2 := rfl
theorem luv1 (c : Int) (p : Cell) : luv c 1 p = c - 1 - p.2 := rfl
theorem three_lks (c : Int) (p q : Cell) : three c p q = (lks c p q || lks c q p) := by
  simp only [three, lks, barred_lk, luv0, luv1, mirC]
  cases lk p.1 p.2 q.2 <;> cases lk q.1 q.2 p.2 <;> cases lk p.1 (c - 1 - p.2) (c - 1 - q.2) <;> cases lk q.1 (c - 1 - q.2) (c - 1 - p.2) <;> rfl
theorem rule1_eq {c : Int} {p q : Cell} (hp : 0 ≤ p.2 ∧ p.2 < c) (hq : 0 ≤ q.2 ∧ q.2 < c) : rule1 c p q = decide ((p.2 = 0 ∧ q.2 = c - 1) ∨ (p.2 = c - 1 ∧ q.2 = 0)) := by
  rw [Bool.eq_iff_iff]
  unfold rule1
  by_cases h : p.2 ≤ q.2
  · simp [h, eqB, eqBs]; omega
  · simp [h, eqB, eqBs]; omega
/-- in the grid -/
def ing (r c : Int) (p : Cell) : Prop := (0 ≤ p.1 ∧ p.1 < r) ∧ 0 ≤ p.2 ∧ p.2 < c
theorem ing_swp {r c : Int} {p : Cell} (h : ing r c p) : ing c r (swp p) := ⟨h.2, h.1⟩
theorem rule_same {r c : Int} {p q : Cell} (hp : ing r c p) (hq : ing r c q) : ruleL r c p q = ruleB r c p q := by
  unfold ruleL ruleB
  have e : oddsL r c p q = odds r c p q := rfl
  rw [e, rule1_eq hp.2 hq.2, three_lks]
  have n3 : (r != 3) = !(r == 3) := rfl
  have n4 : (c.fmod 2 == 0) = !(c.fmod 2 == 1) := by
    rw [fm2, Bool.eq_iff_iff]; simp; omega
  rw [n3, n4]
  cases odds r c p q <;> cases (r == 1) <;> cases (r == 2) <;> cases (r == 3) <;> cases (c.fmod 2 == 1) <;> cases (lks c p q || lks c q p) <;> rfl
theorem odds_iff (r c : Int) (p q : Cell) : odds r c p q = true ↔ ((r * c) % 2 = 0 ∧ (p.1 + p.2 + q.1 + q.2) % 2 = 0) ∨ ((r * c) % 2 = 1 ∧ ((p.1 + p.2) % 2 = 1 ∨ (q.1 + q.2) % 2 = 1)) := by
  simp [odds, fm2]
theorem rule_cong {r c : Int} {p q p' q' : Cell} (h0 : odds r c p q = odds r c p' q') (h1 : r = 1 → rule1 c p q = rule1 c p' q') (h2 : r = 2 → ((p.2 != q.2) || ((p.2 == 0) || (p.2 == c - 1))) = ((p'.2 != q'.2) || ((p'.2 == 0) || (p'.2 == c - 1)))) (h3 : r = 3 → three c p q = three c p' q') : ruleB r c p q = ruleB r c p' q' := by
  unfold ruleB
  rw [h0]
  by_cases r1 : r = 1
  · simp [r1, h1 r1]
  · by_cases r2 : r = 2
    · rw [h2 r2]; simp [r2]
    · by_cases r3 : r = 3
      · rw [h3 r3]; simp [r1, r2]
      · have a1 : (r == 1) = false := by simpa using r1
        have a2 : (r == 2) = false := by simpa using r2
        have a3 : (r != 3) = true := by simpa using r3
        rw [a1, a2, a3]; simp
theorem three_sym (c : Int) (p q : Cell) : three c p q = three c q p := by
  simp only [three_lks]; exact Bool.or_comm _ _
theorem rule_sym {r c : Int} {p q : Cell} (hp : ing r c p) (hq : ing r c q) : ruleB r c p q = ruleB r c q p := by
  apply rule_cong
  · rw [Bool.eq_iff_iff, odds_iff, odds_iff]; omega
  · intro _
    rw [rule1_eq hp.2 hq.2, rule1_eq hq.2 hp.2, decide_eq_decide]; omega
  · intro _
    rw [Bool.eq_iff_iff]; simp; omega
  · intro _; exact three_sym c p q
def mirR (r : Int) (p : Cell) : Cell := (r - 1 - p.1, p.2)
theorem lk_mir (x u v : Int) : lk (2 - x) u v = lk x u v := by
  rw [Bool.eq_iff_iff]
  simp only [lk, fm2, Bool.and_eq_true, Bool.or_eq_true, decide_eq_true_eq, beq_iff_eq]
  omega
theorem rule_mirR {r c : Int} {p q : Cell} (hp : ing r c p) (hq : ing r c q) : ruleB r c (mirR r p) (mirR r q) = ruleB r c p q := by
  apply rule_cong
  · rw [Bool.eq_iff_iff, odds_iff, odds_iff]
    simp only [mirR]
    rcases Int.emod_two_eq (r * c) with h | h
    · omega
    · have := (par_mul h).1
      omega
  · intro _; rfl
  · intro _; rfl
  · intro h3
    subst h3
    simp only [three_lks, lks, luv0, luv1, mirR]
    rw [show (3 : Int) - 1 - p.1 = 2 - p.1 by omega, show (3 : Int) - 1 - q.1 = 2 - q.1 by omega]
    simp only [lk_mir]
theorem rule_mirC {r c : Int} {p q : Cell} (hp : ing r c p) (hq : ing r c q) : ruleB r c (mirC c p) (mirC c q) = ruleB r c p q := by
  apply rule_cong
  · rw [Bool.eq_iff_iff, odds_iff, odds_iff]
    simp only [mirC]
    rcases Int.emod_two_eq (r * c) with h | h
    · omega
    · have := (par_mul h).2
      omega
  · intro _
    have b1 := hp.2
    have b2 := hq.2
    rw [rule1_eq hp.2 hq.2, rule1_eq (by simp only [mirC]; omega) (by simp only [mirC]; omega), decide_eq_decide]
    simp only [mirC]
    omega
  · intro _
    rw [Bool.eq_iff_iff]; simp [mirC]; omega
  · intro h3
    simp only [three_lks, lks, luv0, luv1, mirC]
    rw [show c - 1 - (c - 1 - p.2) = p.2 by omega, show c - 1 - (c - 1 - q.2) = q.2 by omega]
    cases lk p.1 p.2 q.2 <;> cases lk q.1 q.2 p.2 <;> cases lk p.1 (c - 1 - p.2) (c - 1 - q.2) <;> cases lk q.1 (c - 1 - q.2) (c - 1 - p.2) <;> rfl
theorem rule_swp {r : Int} {p q : Cell} (hp : ing r r p) (hq : ing r r q) (hne : p ≠ q) : ruleB r r (swp p) (swp q) = ruleB r r p q := by
  by_cases h3 : r = 3
  · subst h3
    unfold ruleB
    have e : odds 3 3 (swp p) (swp q) = odds 3 3 p q := by
      rw [Bool.eq_iff_iff, odds_iff, odds_iff]; simp only [swp]; omega
    rw [e]
    simp
  · obtain ⟨a, b⟩ := p
    obtain ⟨x, y⟩ := q
    have g1 := hp
    have g2 := hq
    simp only [ing] at g1 g2
    apply rule_cong
    · rw [Bool.eq_iff_iff, odds_iff, odds_iff]; simp only [swp]; omega
    · intro h
      exfalso
      apply hne
      rw [Prod.mk.injEq]; omega
    · intro h
      subst h
      rw [Bool.eq_iff_iff]; simp [swp]; omega
    · intro h; exact absurd h h3
/-! ### what is told -/
def hasT (r c : Int) (p q : Cell) : Bool := if p = q then decide (r * c = 1) else if c < r then ruleB c r (swp p) (swp q) else ruleB r c p q
def dueL (r c : Int) (p q : Cell) : Bool := if p = q then decide (r * c = 1) else if c < r then ruleL c r (swp p) (swp q) else ruleL r c p q
theorem swp_inj {p q : Cell} : swp p = swp q ↔ p = q := by
  obtain ⟨a, b⟩ := p; obtain ⟨x, y⟩ := q; simp [swp]; exact And.comm
theorem mirR_inj {r : Int} {p q : Cell} : mirR r p = mirR r q ↔ p = q := by
  obtain ⟨a, b⟩ := p; obtain ⟨x, y⟩ := q; simp only [mirR, Prod.mk.injEq]; omega
theorem due_has {r c : Int} {p q : Cell} (hp : ing r c p) (hq : ing r c q) : dueL r c p q = hasT r c p q := by
  unfold dueL hasT
  rw [rule_same hp hq, rule_same (ing_swp hp) (ing_swp hq)]
theorem has_sym {r c : Int} {p q : Cell} (hp : ing r c p) (hq : ing r c q) : hasT r c q p = hasT r c p q := by
  unfold hasT
  rw [rule_sym hq hp, rule_sym (ing_swp hq) (ing_swp hp)]
  simp only [eq_comm]
theorem swp_swp (p : Cell) : swp (swp p) = p := rfl
theorem has_swp {r c : Int} {p q : Cell} (hp : ing r c p) (hq : ing r c q) : hasT c r (swp p) (swp q) = hasT r c p q := by
  unfold hasT
  simp only [swp_inj, swp_swp, Int.mul_comm c r]
  by_cases h : p = q
  · simp [h]
  · simp only [if_neg h]
    rcases Int.lt_trichotomy r c with h1 | h1 | h1
    · rw [if_pos h1, if_neg (by omega)]
    · subst h1
      rw [if_neg (by omega), rule_swp hp hq h]
      simp
    · rw [if_neg (by omega), if_pos h1]
theorem has_mir {r c : Int} {p q : Cell} (hp : ing r c p) (hq : ing r c q) : hasT r c (mirR r p) (mirR r q) = hasT r c p q := by
  unfold hasT
  simp only [mirR_inj]
  have e : ∀ p, swp (mirR r p) = mirC r (swp p) := fun _ => rfl
  rw [e, e, rule_mirR hp hq, rule_mirC (ing_swp hp) (ing_swp hq)]
end K74
end

section
set_option linter.all false
set_option Elab.async false
set_option maxRecDepth 20000
namespace K74
open Py
open PySem (Str)
theorem cells_len : ∀ r : Nat, r < 11 → ∀ c : Nat, c < 11 → (cells r c).length = r * c := by decide +kernel
theorem okN_iff {r c : Int} : (okN r && okN c) = true ↔ (1 ≤ r ∧ r ≤ 10) ∧ 1 ≤ c ∧ c ≤ 10 := by simp [okN, isNum]
theorem cells_lenI {r c : Int} (hg : (okN r && okN c) = true) : ((cells r c).length : Int) = r * c := by
  have h := okN_iff.mp hg
  obtain ⟨r, rfl⟩ : ∃ k : Nat, r = k := ⟨r.toNat, by omega⟩
  obtain ⟨c, rfl⟩ : ∃ k : Nat, c = k := ⟨c.toNat, by omega⟩
  rw [cells_len r (by omega) c (by omega)]; simp
theorem ing_cells {r c : Int} {p : Cell} : p ∈ cells r c ↔ ing r c p := mem_cells
theorem f11 (n : Nat) (r c : Int) (p q : Cell) (m : Mem) (hg : (okN r && okN c) = true) (hp : p ∈ cells r c) (hq : q ∈ cells r c) : run tbl sub 1000 word (n + 4) 11 [.int r, .int c, cellD p, cellD q] m = .ok (.bl (hasT r c p q)) m := by
  rw [run_tbl (g := ⟨4, 5, b11, false⟩) rfl]
  have G := f7 n r c m hg
  have N1 := notin_tup p (cells r c) m
  have N2 := notin_tup q (cells r c) m
  have E := eq_cell p q m
  have L := cells_lenI hg
  have hg' : (okN c && okN r) = true := by rw [Bool.and_comm]; exact hg
  have R1 := f10 n r c p q m hg
  have R2 := f10 n c r (swp p) (swp q) m hg'
  have l1 : (((cells r c).length : Int) == 1) = decide (r * c = 1) := by rw [L]; rfl
  simp only [hp, decide_true, Bool.not_true] at N1
  simp only [hq, decide_true, Bool.not_true] at N2
  unfold hasT
  by_cases h : p = q
  · simp only [h, decide_true] at E N1 N2
    simp [runFn, b11, G, N2, h, E, l1]
  · simp only [h, decide_false] at E
    by_cases h2 : c < r
    · simp [runFn, b11, G, N1, N2, h, E, h2, slr_cell, R2]
    · simp [runFn, b11, G, N1, N2, h, E, h2, R1]
theorem f11x (n : Nat) (r c : Int) (p q : Cell) (m : Mem) (hg : (okN r && okN c) = true) (hx : p ∉ cells r c ∨ q ∉ cells r c) : run tbl sub 1000 word (n + 4) 11 [.int r, .int c, cellD p, cellD q] m = .ex 3 m := by
  rw [run_tbl (g := ⟨4, 5, b11, false⟩) rfl]
  have G := f7 n r c m hg
  have N1 := notin_tup p (cells r c) m
  have N2 := notin_tup q (cells r c) m
  by_cases hp : p ∈ cells r c
  · have hq : q ∉ cells r c := hx.elim (fun h => absurd hp h) id
    simp only [hp, decide_true, Bool.not_true] at N1
    simp only [hq, decide_false, Bool.not_false] at N2
    simp [runFn, b11, G, N1, N2]
  · simp only [hp, decide_false, Bool.not_false] at N1
    simp [runFn, b11, G, N1]
/-! ### the program's search -/
def kvD (ks : List (List Cell × Cell)) : List (D × D) := ks.map fun k => (.tup [figD k.1, cellD k.2], .bl true)
def keyD (k : List Cell × Cell) : D := .tup [figD k.1, cellD k.2]
theorem eqB_key (a b : List Cell × Cell) : eqB (keyD a) (keyD b) = decide (a = b) := by
  obtain ⟨a1, a2⟩ := a; obtain ⟨b1, b2⟩ := b
  simp [keyD, eqB, eqBs, eqBs_cells, eqB_cell, Prod.ext_iff, Bool.decide_and]
theorem keyOk_key (k : List Cell × Cell) : keyOk (keyD k) = true := by
  have := dep_fig k.1
  have h2 := dep_cell k.2
  simp only [keyOk, Bool.and_eq_true, decide_eq_true_eq]
  refine ⟨⟨rfl, ?_⟩, ?_⟩
  · have h3 := keyOk_fig k.1
    have h4 := keyOk_cell k.2
    simp only [keyOk, Bool.and_eq_true] at h3 h4
    simp [keyD, keyd, keyds, h3.1.2, h4.1.2]
    have := h3.1.2
    simpa [figD, keyd] using this
  · simp only [keyD, dep, deps] at *
    omega
theorem dGet_key (ks : List (List Cell × Cell)) (k : List Cell × Cell) : (dGet (kvD ks) (keyD k)).isSome = decide (k ∈ ks) := by
  unfold dGet kvD
  induction ks with
  | nil => rfl
  | cons a q ih =>
    rw [List.map_cons, List.find?_cons]
    have e := eqB_key a k
    unfold keyD at e
    simp only [keyD, e]
    by_cases h : a = k
    · subst h; simp
    · have h' : ¬k = a := fun e => h e.symm
      simp only [h, decide_false, List.mem_cons, h', false_or]; exact ih
theorem dPut_key (ks : List (List Cell × Cell)) (k : List Cell × Cell) : ∃ ks', dPut (kvD ks) (keyD k) (.bl true) = kvD ks' ∧ (∀ x, x ∈ ks' → x ∈ ks ∨ x = k) ∧ (ks.Nodup → ks'.Nodup) ∧ ks'.length ≤ ks.length + 1 := by
  unfold dPut
  have h := dGet_key ks k
  cases hh : (dGet (kvD ks) (keyD k)).isSome
  · rw [h] at hh
    simp at hh
    refine ⟨ks ++ [k], ?_, fun x hx => by simpa using hx, fun nd => List.nodup_append.mpr ⟨nd, by simp, by
      intro a ha b hb e
      simp at hb
      subst hb; subst e
      exact hh ha⟩, by simp⟩
    simp [kvD, keyD]
  · refine ⟨ks, ?_, fun x hx => .inl hx, id, by omega⟩
    simp only [if_true, kvD, List.map_map]
    apply List.map_congr_left
    intro x _
    simp only [Function.comp]
    split <;> rfl
/-- the program's memory -/
def mm (m : Mem) (ks : List (List Cell × Cell)) : Mem := m ++ [.dtp (kvD ks)]
theorem mm_in (m : Mem) (ks : List (List Cell × Cell)) (k : List Cell × Cell) : opR .in_ (keyD k) (.ref m.length) (mm m ks) = .ok (.bl (decide (k ∈ ks))) (mm m ks) := by
  apply opR_some
  have h0 : dctOf (mm m ks) (.ref m.length) = some (kvD ks) := by simp [dctOf, mm]
  have h1 : der (mm m ks) (keyD k) = some (keyD k) := rfl
  simp only [op2, inD, h1, h0, Option.bind_some, keyOk_key, if_true, dGet_key]; rfl
theorem mm_put (m : Mem) (ks : List (List Cell × Cell)) (k : List Cell × Cell) (e : Env) (nd : ks.Nodup) (hl : ks.length ≤ 2000000) : ∃ ks', setO e (.ref m.length) (keyD k) (.bl true) (mm m ks) = .nx e (mm m ks') ∧ (∀ x, x ∈ ks' → x ∈ ks ∨ x = k) ∧ ks'.Nodup ∧ ks'.length ≤ ks.length + 1 := by
  obtain ⟨ks', h1, h2, h3, h4⟩ := dPut_key ks k
  refine ⟨ks', ?_, h2, h3 nd, h4⟩
  have hf : fits (kvD ks).length = true := fits_le (by simp [kvD]; omega)
  have h0 : dctAt (mm m ks) (.ref m.length) = some (m.length, kvD ks) := by simp [dctAt, mm]
  have h5 : der (mm m ks) (keyD k) = some (keyD k) := rfl
  simp only [setO, setD, h0, h5, keyOk_key, plainK_bl, hf, h1]
  simp [mm]
/-- whether a way can be gone on to the goal, through all cells -/
def Can (Z : List Cell) (goal : Cell) : Nat → List Cell → Cell → Prop
  | 0, _, l => l = goal
  | u + 1, w, l => ∃ s ∈ besides l, s ∈ Z ∧ s ∉ w ∧ Can Z goal u (w ++ [s]) s
theorem Can.perm {Z : List Cell} {goal : Cell} : ∀ {u : Nat} {w w' : List Cell} {l : Cell}, (∀ x, x ∈ w ↔ x ∈ w') → Can Z goal u w l → Can Z goal u w' l
  | 0, _, _, _, _, h => h
  | u + 1, w, w', l, e, ⟨s, h1, h2, h3, h4⟩ => ⟨s, h1, h2, fun z => h3 ((e s).mpr z), Can.perm (fun x => by simp [e x]) h4⟩
theorem Can.late {Z : List Cell} {goal : Cell} : ∀ {u : Nat} {w : List Cell} {l : Cell}, goal ∈ w → ¬ Can Z goal (u + 1) w l
  | 0, w, l, hg, ⟨s, _, _, h3, h4⟩ => by
    have : s = goal := h4
    subst this; exact h3 hg
  | u + 1, w, l, hg, ⟨s, _, _, _, h4⟩ => Can.late (by simp [hg]) h4
/-- a way: each cell once, in the grid, one beside the other -/
structure Way (Z w : List Cell) (l : Cell) : Prop where
  nd : w.Nodup
  sub : ∀ x ∈ w, x ∈ Z
  bes : beside w = true
  last : w.getLast? = some l
theorem Way.step {Z w : List Cell} {l s : Cell} (h : Way Z w l) (h1 : s ∈ besides l) (h2 : s ∈ Z) (h3 : s ∉ w) : Way Z (w ++ [s]) s := by
  obtain ⟨V, rfl⟩ : ∃ V, w = V ++ [l] := by
    have := h.last
    rcases List.eq_nil_or_concat w with rfl | ⟨V, x, rfl⟩
    · simp at this
    · simp at this; subst this; exact ⟨V, by simp⟩
  refine ⟨?_, ?_, ?_, by simp⟩
  · rw [List.nodup_append]
    exact ⟨h.nd, by simp, by simp; intro a b hab e; subst e; exact h3 (by simpa using hab)⟩
  · intro x hx
    rcases List.mem_append.mp hx with hx | hx
    · exact h.sub x hx
    · simp at hx; subst hx; exact h2
  · have hb := h.bes
    simp only [beside, List.all_eq_true, List.mem_range, List.length_append, List.length_cons, List.length_nil] at hb ⊢
    intro k hk
    by_cases hk2 : k < V.length
    · have := hb k (by omega)
      have a1 : (V ++ [l] ++ [s])[k]? = (V ++ [l])[k]? := List.getElem?_append_left (by simp; omega)
      have a2 : (V ++ [l] ++ [s])[k + 1]? = (V ++ [l])[k + 1]? := List.getElem?_append_left (by simp; omega)
      rw [a1, a2]
      exact this
    · have hk3 : k = V.length := by omega
      subst hk3
      have a1 : (V ++ [l] ++ [s])[V.length]? = some l := by simp
      have a2 : (V ++ [l] ++ [s])[V.length + 1]? = some s := by simp
      rw [a1, a2]
      simp only [stp, decide_eq_true_eq]
      have : l ∈ besides s := by
        simp only [besides, List.mem_cons, List.not_mem_nil, or_false, Prod.ext_iff] at h1 ⊢
        omega
      exact this
end K74
end

section
set_option linter.all false
set_option Elab.async false
set_option maxRecDepth 20000
namespace K74
open Py
open PySem (Str)
/-! ### how many sets of cells there are -/
def subs {α : Type} : List α → List (List α)
  | [] => [[]]
  | a :: l => subs l ++ (subs l).map (a :: ·)
theorem subs_len {α : Type} : ∀ l : List α, (subs l).length = 2 ^ l.length
  | [] => rfl
  | a :: l => by simp [subs, subs_len l, Nat.pow_succ]; omega
theorem mem_subs {α : Type} {s l : List α} (h : s.Sublist l) : s ∈ subs l := by
  induction h with
  | slnil => simp [subs]
  | cons a h ih => simp [subs, ih]
  | cons_cons a h ih => simp [subs, ih]
theorem sub_len {α : Type} [DecidableEq α] : ∀ {q F : List α}, q.Nodup → (∀ x ∈ q, x ∈ F) → q.length ≤ F.length
  | [], F, _, _ => by simp
  | a :: q, F, hn, hs => by
    rw [List.nodup_cons] at hn
    have h1 := sub_len (q := q) (F := F.erase a) hn.2 fun x hx => by
      have : x ≠ a := fun e => hn.1 (e ▸ hx)
      exact (List.mem_erase_of_ne this).mpr (hs x (by simp [hx]))
    have h2 := List.length_erase_of_mem (hs a (by simp))
    have h3 : 0 < F.length := List.length_pos_of_mem (hs a (by simp))
    simp; omega
structure Grd (Z : List Cell) : Prop where
  srt : Z.mergeSort leP = Z
  nd : Z.Nodup
  len : Z.length ≤ 16
theorem Grd.sorted {Z : List Cell} (h : Grd Z) : Z.Pairwise fun a b => leP a b = true := by
  rw [← h.srt]; exact List.pairwise_mergeSort leP_trans leP_total Z
theorem sort_filter {Z w : List Cell} (h : Grd Z) (hn : w.Nodup) (hs : ∀ x ∈ w, x ∈ Z) : w.mergeSort leP = Z.filter fun x => decide (x ∈ w) := by
  apply List.Perm.eq_of_pairwise (le := fun a b => leP a b = true)
  · intro a b _ _ h1 h2; exact leP_antisymm a b h1 h2
  · exact List.pairwise_mergeSort leP_trans leP_total w
  · exact h.sorted.filter _
  · refine (List.mergeSort_perm w leP).trans ((List.perm_ext_iff_of_nodup hn (h.nd.filter _)).mpr fun x => ?_)
    simp only [List.mem_filter, decide_eq_true_eq]
    exact ⟨fun hx => ⟨hs x hx, hx⟩, fun hx => hx.2⟩
def allK (Z : List Cell) : List (List Cell × Cell) := (subs Z).flatMap fun S => Z.map fun l => (S, l)
theorem allK_len {Z : List Cell} (h : Grd Z) : (allK Z).length ≤ 1048576 := by
  have : ∀ L : List (List Cell), (L.flatMap fun S => Z.map fun l => (S, l)).length = L.length * Z.length := fun L => by
    induction L with
    | nil => simp
    | cons a L ih => simp [ih, Nat.add_mul]; omega
  rw [allK, this, subs_len]
  have h1 : 2 ^ Z.length ≤ 2 ^ 16 := Nat.pow_le_pow_right (by omega) h.len
  exact Nat.mul_le_mul h1 h.len
theorem Way.key {Z w : List Cell} {l : Cell} (g : Grd Z) (h : Way Z w l) : (w.mergeSort leP, l) ∈ allK Z := by
  simp only [allK, List.mem_flatMap, List.mem_map]
  refine ⟨w.mergeSort leP, mem_subs ?_, l, h.sub l (List.mem_of_getLast? h.last), rfl⟩
  rw [sort_filter g h.nd h.sub]
  exact List.filter_sublist
/-- what is noted leads nowhere -/
structure Dead (Z : List Cell) (goal : Cell) (ks : List (List Cell × Cell)) : Prop where
  nd : ks.Nodup
  all : ∀ k ∈ ks, ∃ w l u, Way Z w l ∧ k = (w.mergeSort leP, l) ∧ w.length + u = Z.length ∧ ¬ Can Z goal u w l
theorem Dead.len {Z : List Cell} {goal : Cell} {ks : List (List Cell × Cell)} (g : Grd Z) (h : Dead Z goal ks) : ks.length ≤ 1048576 :=
  Nat.le_trans (sub_len h.nd fun k hk => by
    obtain ⟨w, l, u, h1, rfl, _⟩ := h.all k hk
    exact h1.key g) (allK_len g)
theorem sort_mem {w w' : List Cell} (h : w.mergeSort leP = w'.mergeSort leP) (x : Cell) : x ∈ w ↔ x ∈ w' := by
  rw [← List.mem_mergeSort (le := leP) (l := w), ← List.mem_mergeSort (le := leP) (l := w'), h]
theorem Dead.no {Z : List Cell} {goal : Cell} {ks : List (List Cell × Cell)} (h : Dead Z goal ks) {w : List Cell} {l : Cell} {u : Nat} (hu : w.length + u = Z.length) (hk : (w.mergeSort leP, l) ∈ ks) : ¬ Can Z goal u w l := by
  obtain ⟨w', l', u', h1, e, h2, h3⟩ := h.all _ hk
  simp only [Prod.mk.injEq] at e
  obtain ⟨e1, e2⟩ := e
  subst e2
  have el : w.length = w'.length := by
    rw [← List.length_mergeSort (le := leP) w, e1, List.length_mergeSort]
  have : u = u' := by omega
  subst this
  exact fun z => h3 (z.perm (sort_mem e1))
theorem Dead.add {Z : List Cell} {goal : Cell} {ks ks' : List (List Cell × Cell)} (h : Dead Z goal ks) {w : List Cell} {l : Cell} {u : Nat} (hw : Way Z w l) (hu : w.length + u = Z.length) (hc : ¬ Can Z goal u w l) (hn : ks'.Nodup) (hs : ∀ x, x ∈ ks' → x ∈ ks ∨ x = (w.mergeSort leP, l)) : Dead Z goal ks' :=
  ⟨hn, fun k hk => by
    rcases hs k hk with hk | rfl
    · exact h.all k hk
    · exact ⟨w, l, u, hw, rfl, hu, hc⟩⟩
def optW : Option (List Cell) → D
  | none => .non
  | some v => figD v
def Good (Z : List Cell) (goal : Cell) (w v : List Cell) : Prop := Way Z v goal ∧ v.length = Z.length ∧ v.head? = w.head?
def bodyG : List S := [.iff (.and (.op .in_ (.var 5) (.var 0)) (.op .notin (.var 5) (.var 1))) [.asg (.nm 6) (.call 13 [.var 0, .tup [.star (.var 1), .var 5], .var 2, .var 3]), .iff (.op .isnot (.var 6) (.lit .non)) [.ret (.var 6)] []] []]
theorem loopG (N : Nat) (Z w : List Cell) (goal l : Cell) (u : Nat) (m : Mem) (key : D) (hne : w ≠ []) (hl : w.length ≤ 100)
    (hrec : ∀ s, s ∈ besides l → s ∈ Z → s ∉ w → ∀ ks, Dead Z goal ks → ∃ res ks', run tbl sub 1000 word N 13 [figD Z, figD (w ++ [s]), cellD goal, .ref m.length] (mm m ks) = .ok (optW res) (mm m ks') ∧ Dead Z goal ks' ∧ (∀ v, res = some v → Good Z goal (w ++ [s]) v) ∧ (res = none → ¬ Can Z goal u (w ++ [s]) s)) :
    ∀ (ss : List Cell) (ks : List (List Cell × Cell)) (x5 x6 : Option D), (∀ s ∈ ss, s ∈ besides l) → Dead Z goal ks →
      (∃ v ks', forS ⟨run tbl sub 1000 word N, sub, 1000, word⟩ (.nm 5) bodyG (ss.map cellD) [some (figD Z), some (figD w), some (cellD goal), some (.ref m.length), some key, x5, x6] (mm m ks) = .rt (figD v) (mm m ks') ∧ Dead Z goal ks' ∧ Good Z goal w v) ∨
      (∃ ks' y5 y6, forS ⟨run tbl sub 1000 word N, sub, 1000, word⟩ (.nm 5) bodyG (ss.map cellD) [some (figD Z), some (figD w), some (cellD goal), some (.ref m.length), some key, x5, x6] (mm m ks) = .nx [some (figD Z), some (figD w), some (cellD goal), some (.ref m.length), some key, y5, y6] (mm m ks') ∧ Dead Z goal ks' ∧ ∀ s ∈ ss, s ∈ Z → s ∉ w → ¬ Can Z goal u (w ++ [s]) s)
  | [], ks, x5, x6, _, hd => .inr ⟨ks, x5, x6, forS_nil .., hd, by simp⟩
  | s :: ss, ks, x5, x6, hs, hd => by
    have I := in_tup s Z (mm m ks)
    have J := notin_tup s w (mm m ks)
    have hb : bindT (.nm 5) (cellD s) [some (figD Z), some (figD w), some (cellD goal), some (.ref m.length), some key, x5, x6] = some [some (figD Z), some (figD w), some (cellD goal), some (.ref m.length), some key, some (cellD s), x6] := by simp [bindT]
    by_cases h1 : s ∈ Z ∧ s ∉ w
    · obtain ⟨res, ks1, r1, d1, g1, g2⟩ := hrec s (hs s (by simp)) h1.1 h1.2 ks hd
      have S1 : settles (w.map cellD ++ [cellD s]) (mm m ks) = some (w.map cellD ++ [cellD s], mm m ks) := settles_plain _ (by
        intro d hd; simp at hd; rcases hd with ⟨a, b, _, rfl⟩ | rfl <;> rfl)
      have F1 : fits (w.length + 1) = true := fits_le (by omega)
      have r1' : run tbl sub 1000 word N 13 [figD Z, .tup (w.map cellD ++ [cellD s]), cellD goal, .ref m.length] (mm m ks) = .ok (optW res) (mm m ks1) := by
        rw [← r1]; simp [figD]
      simp only [h1.1, decide_true] at I
      simp only [h1.2, decide_false, Bool.not_false] at J
      cases res with
      | some v =>
        refine .inl ⟨v, ks1, ?_, d1, ?_⟩
        · have N1 := opR_isnot_non (mm m ks1) (d := figD v) rfl
          have B : execs ⟨run tbl sub 1000 word N, sub, 1000, word⟩ bodyG [some (figD Z), some (figD w), some (cellD goal), some (.ref m.length), some key, some (cellD s), x6] (mm m ks) = .rt (figD v) (mm m ks1) := by
            simp [bodyG, I, J, S1, F1, r1', optW, N1]
          rw [List.map_cons, forS_cons, hb]
          simp [B]
        · have := g1 v rfl
          refine ⟨this.1, this.2.1, ?_⟩
          rw [this.2.2]
          cases w with
          | nil => exact absurd rfl hne
          | cons a w => rfl
      | none =>
        have N1 := opR_isnot_non (mm m ks1) (d := .non) rfl
        have B : execs ⟨run tbl sub 1000 word N, sub, 1000, word⟩ bodyG [some (figD Z), some (figD w), some (cellD goal), some (.ref m.length), some key, some (cellD s), x6] (mm m ks) = .nx [some (figD Z), some (figD w), some (cellD goal), some (.ref m.length), some key, some (cellD s), some .non] (mm m ks1) := by
          simp [bodyG, I, J, S1, F1, r1', optW, N1]
        rw [List.map_cons, forS_next hb (.inl B)]
        rcases loopG N Z w goal l u m key hne hl hrec ss ks1 (some (cellD s)) (some .non) (fun s' h' => hs s' (by simp [h'])) d1 with h | ⟨ks', y5, y6, k1, k2, k3⟩
        · exact .inl h
        · refine .inr ⟨ks', y5, y6, k1, k2, fun s' h' => ?_⟩
          rcases List.mem_cons.mp h' with rfl | h'
          · exact fun _ _ => g2 rfl
          · exact k3 s' h'
    · have B : execs ⟨run tbl sub 1000 word N, sub, 1000, word⟩ bodyG [some (figD Z), some (figD w), some (cellD goal), some (.ref m.length), some key, some (cellD s), x6] (mm m ks) = .nx [some (figD Z), some (figD w), some (cellD goal), some (.ref m.length), some key, some (cellD s), x6] (mm m ks) := by
        by_cases h2 : s ∈ Z
        · have h3 : s ∈ w := by
            by_cases h3 : s ∈ w
            · exact h3
            · exact absurd ⟨h2, h3⟩ h1
          simp only [h2, decide_true] at I
          simp only [h3, decide_true, Bool.not_true] at J
          simp [bodyG, I, J]
        · simp only [h2, decide_false] at I
          simp [bodyG, I]
      rw [List.map_cons, forS_next hb (.inl B)]
      rcases loopG N Z w goal l u m key hne hl hrec ss ks (some (cellD s)) x6 (fun s' h' => hs s' (by simp [h'])) hd with h | ⟨ks', y5, y6, k1, k2, k3⟩
      · exact .inl h
      · refine .inr ⟨ks', y5, y6, k1, k2, fun s' h' => ?_⟩
        rcases List.mem_cons.mp h' with rfl | h'
        · exact fun a b => absurd ⟨a, b⟩ h1
        · exact k3 s' h'
theorem f13 (n : Nat) (Z : List Cell) (goal : Cell) (m : Mem) (g : Grd Z) : ∀ (u : Nat) (w : List Cell) (l : Cell) (ks : List (List Cell × Cell)), Way Z w l → w.length + u = Z.length → Dead Z goal ks →
    ∃ res ks', run tbl sub 1000 word (n + u + 2) 13 [figD Z, figD w, cellD goal, .ref m.length] (mm m ks) = .ok (optW res) (mm m ks') ∧ Dead Z goal ks' ∧ (∀ v, res = some v → Good Z goal w v) ∧ (res = none → ¬ Can Z goal u w l) := by
  intro u
  induction u with
  | zero =>
    intro w l ks hw hu hd
    have hlen : w.length = Z.length := by omega
    have hne : w ≠ [] := fun e => by have := hw.last; rw [e] at this; simp at this
    have A : idxR (figD w) (.int (-1)) (mm m ks) = .ok (cellD l) (mm m ks) := by
      apply idxR_tup; rw [at_last, List.getLast?_map, hw.last]; rfl
    have E := eq_cell l goal (mm m ks)
    have L : (((w.length : Nat) : Int) == ((Z.length : Nat) : Int)) = true := by rw [hlen]; simp
    have T : (mm m ks).take (mm m ks).length = mm m ks := List.take_length
    by_cases h : l = goal
    · refine ⟨some w, ks, ?_, hd, fun v hv => ?_, fun h => by cases h⟩
      · rw [run_tbl (g := ⟨4, 7, b13, false⟩) rfl]
        simp only [h, decide_true] at E A
        simp [runFn, b13, L, A, E, optW]
      · cases hv
        exact ⟨by rw [← h]; exact hw, hlen, rfl⟩
    · refine ⟨none, ks, ?_, hd, (fun v hv => by cases hv), fun _ => h⟩
      rw [run_tbl (g := ⟨4, 7, b13, false⟩) rfl]
      simp only [h, decide_false] at E
      simp [runFn, b13, L, A, E, optW]
  | succ u ih =>
    intro w l ks hw hu hd
    have hlt : w.length < Z.length := by omega
    have hne : w ≠ [] := fun e => by have := hw.last; rw [e] at this; simp at this
    have hwl : w.length ≤ 100 := by have := g.len; omega
    have A : ∀ ks, idxR (figD w) (.int (-1)) (mm m ks) = .ok (cellD l) (mm m ks) := fun ks => by
      apply idxR_tup; rw [at_last, List.getLast?_map, hw.last]; rfl
    have E := eq_cell l goal (mm m ks)
    have L : (((w.length : Nat) : Int) == ((Z.length : Nat) : Int)) = false := by simp; omega
    have So := sortD_cells w
    have K := mm_in m ks (w.mergeSort leP, l)
    simp only [keyD] at K
    have B13 : b13 = [.iff (.op .eq (.prim .len [.var 1]) (.prim .len [.var 0])) [.ret (.ite (.op .eq (.idx (.var 1) (.neg (.lit (.int 1)))) (.var 2)) (.var 1) (.lit .non))] [], .asg (.nm 4) (.tup [.prim .tuple [.prim .sorted [.var 1]], .idx (.var 1) (.neg (.lit (.int 1)))]), .iff (.or (.op .in_ (.var 4) (.var 3)) (.op .eq (.idx (.var 1) (.neg (.lit (.int 1)))) (.var 2))) [.ret (.lit .non)] [], .for_ (.nm 5) .seq [.call 12 [.idx (.var 1) (.neg (.lit (.int 1)))]] bodyG, .setix (.var 3) (.var 4) (.lit (.bl true)), .ret (.lit .non)] := rfl
    by_cases hk : (w.mergeSort leP, l) ∈ ks
    · refine ⟨none, ks, ?_, hd, (fun v hv => by cases hv), fun _ => hd.no hu hk⟩
      rw [show n + (u + 1) + 2 = (n + u + 2) + 1 by omega, run_tbl (g := ⟨4, 7, b13, false⟩) rfl]
      simp only [hk, decide_true] at K
      simp [runFn, B13, L, A, So, K, optW]
    · simp only [hk, decide_false] at K
      by_cases h : l = goal
      · refine ⟨none, ks, ?_, hd, (fun v hv => by cases hv), fun _ => Can.late (by rw [← h]; exact List.mem_of_getLast? hw.last)⟩
        rw [show n + (u + 1) + 2 = (n + u + 2) + 1 by omega, run_tbl (g := ⟨4, 7, b13, false⟩) rfl]
        simp only [h, decide_true] at E A K
        simp [runFn, B13, L, A, So, K, E, optW]
      · simp only [h, decide_false] at E
        have S : run tbl sub 1000 word (n + u + 2) 12 [cellD l] (mm m ks) = .ok (.lst ((besides l).map cellD)) (mm m ks) := f12 (n + u + 1) l (mm m ks)
        have lp := loopG (n + u + 2) Z w goal l u m (.tup [figD (w.mergeSort leP), cellD l]) hne hwl (fun s h1 h2 h3 ks hd => ih (w ++ [s]) s ks (hw.step h1 h2 h3) (by simp; omega) hd) (besides l) ks none none (fun s hs => hs) hd
        rcases lp with ⟨v, ks', k1, k2, k3⟩ | ⟨ks1, y5, y6, k1, k2, k3⟩
        · refine ⟨some v, ks', ?_, k2, (fun v' hv => by cases hv; exact k3), fun h => by cases h⟩
          rw [show n + (u + 1) + 2 = (n + u + 2) + 1 by omega, run_tbl (g := ⟨4, 7, b13, false⟩) rfl]
          have T : (mm m ks').take (mm m ks).length = mm m ks' := List.take_of_length_le (by simp [mm])
          simp [runFn, B13, L, A, So, K, E, S, k1, optW, T]
        · have nc : ¬ Can Z goal (u + 1) w l := fun ⟨s, h1, h2, h3, h4⟩ => k3 s h1 h2 h3 h4
          obtain ⟨ks2, p1, p2, p3, p4⟩ : ∃ ks2, setO [some (figD Z), some (figD w), some (cellD goal), some (.ref m.length), some (.tup [figD (w.mergeSort leP), cellD l]), y5, y6] (.ref m.length) (.tup [figD (w.mergeSort leP), cellD l]) (.bl true) (mm m ks1) = .nx [some (figD Z), some (figD w), some (cellD goal), some (.ref m.length), some (.tup [figD (w.mergeSort leP), cellD l]), y5, y6] (mm m ks2) ∧ Dead Z goal ks2 ∧ True ∧ True := by
            obtain ⟨ks2, q1, q2, q3, q4⟩ := mm_put m ks1 (w.mergeSort leP, l) [some (figD Z), some (figD w), some (cellD goal), some (.ref m.length), some (.tup [figD (w.mergeSort leP), cellD l]), y5, y6] k2.nd (by have := k2.len g; omega)
            exact ⟨ks2, q1, k2.add hw hu nc q3 q2, trivial, trivial⟩
          refine ⟨none, ks2, ?_, p2, (fun v hv => by cases hv), fun _ => nc⟩
          rw [show n + (u + 1) + 2 = (n + u + 2) + 1 by omega, run_tbl (g := ⟨4, 7, b13, false⟩) rfl]
          have T : (mm m ks2).take (mm m ks).length = mm m ks2 := List.take_of_length_le (by simp [mm])
          simp [runFn, B13, L, A, So, K, E, S, k1, optW, p1, T]
end K74
end

section
set_option linter.all false
set_option Elab.async false
set_option maxRecDepth 20000
namespace K74
open Py
open PySem (Str)
def grdB (r c : Nat) : Bool := !(Nat.ble (r * c) 16) || (decide (isortP (cells r c) = cells r c) && decide ((cells r c).Nodup))
theorem grd_k0 : ∀ r : Nat, r < 11 → ∀ c : Nat, c < 11 → grdB r c = true := by decide +kernel
theorem grd_k (r : Nat) (hr : r < 11) (c : Nat) (hc : c < 11) (h : r * c ≤ 16) : isortP (cells r c) = cells r c ∧ (cells r c).Nodup := by
  have := grd_k0 r hr c hc
  have hb : Nat.ble (r * c) 16 = true := Nat.ble_eq.mpr h
  simp only [grdB, hb, Bool.not_true, Bool.false_or, Bool.and_eq_true, decide_eq_true_eq] at this
  exact this
theorem grd {r c : Int} (hg : (okN r && okN c) = true) (h : r * c ≤ 16) : Grd (cells r c) := by
  have h2 := okN_iff.mp hg
  have L := cells_lenI hg
  obtain ⟨r, rfl⟩ : ∃ k : Nat, r = k := ⟨r.toNat, by omega⟩
  obtain ⟨c, rfl⟩ : ∃ k : Nat, c = k := ⟨c.toNat, by omega⟩
  have h3 : r * c ≤ 16 := by have : ((r * c : Nat) : Int) ≤ 16 := by simpa using h
                             omega
  have := grd_k r (by omega) c (by omega) h3
  exact ⟨by rw [mergeSort_isort]; exact this.1, this.2, by omega⟩
theorem way_one {Z : List Cell} {p : Cell} (h : p ∈ Z) : Way Z [p] p := ⟨by simp, by simpa using h, by simp [beside], by simp⟩
/-- a trail, or none -/
def Told (r c : Int) (p q : Cell) (res : Option (List Cell)) : Prop := (∀ v, res = some v → hasT r c p q = true ∧ Way (cells r c) v q ∧ v.length = (cells r c).length ∧ v.head? = some p) ∧ (res = none → hasT r c p q = true → ¬ Can (cells r c) q ((cells r c).length - 1) [p] p)
theorem f14 (n : Nat) (r c : Int) (p q : Cell) (m : Mem) (hg : (okN r && okN c) = true) (hp : p ∈ cells r c) (hq : q ∈ cells r c) (hs : r * c ≤ 16) : ∃ res, run tbl sub 1000 word (n + 20) 14 [.int r, .int c, cellD p, cellD q] m = .ok (optW res) m ∧ Told r c p q res := by
  have H := f11 (n + 15) r c p q m hg hp hq
  have h2 := okN_iff.mp hg
  have M : opR .mul (.int r) (.int c) m = .ok (.int (r * c)) m := opR_mul_int m (.inl (small_mk (by omega) (by omega)))
  have h20 : decide (20 < r * c) = false := by simp; omega
  have G := f7 (n + 16) r c m hg
  have gr := grd hg hs
  have pos : 1 ≤ (cells r c).length := List.length_pos_of_mem hp
  cases hh : hasT r c p q <;> rw [hh] at H
  · refine ⟨none, ?_, (fun v hv => by cases hv), fun _ h => by cases hh.symm.trans h⟩
    rw [run_tbl (g := ⟨4, 5, b14, false⟩) rfl]
    simp [runFn, b14, H, M, h20, optW]
  · obtain ⟨res, ks', k1, k2, k3, k4⟩ := f13 (n + 17 - ((cells r c).length - 1)) (cells r c) q m gr ((cells r c).length - 1) [p] p [] (way_one hp) (by simp; omega) ⟨by simp, by simp⟩
    have e : n + 17 - ((cells r c).length - 1) + ((cells r c).length - 1) + 2 = n + 19 := by have := gr.len; omega
    rw [e] at k1
    have k1' : run tbl sub 1000 word (n + 19) 13 [.tup ((cells r c).map cellD), .tup [cellD p], cellD q, .ref m.length] (m ++ [.dtp []]) = .ok (optW res) (mm m ks') := k1
    have T : (mm m ks').take m.length = m := by simp [mm]
    refine ⟨res, ?_, fun v hv => ?_, fun hn _ => k4 hn⟩
    · rw [run_tbl (g := ⟨4, 5, b14, false⟩) rfl]
      have fin : finish false m.length (.rt (optW res) (mm m ks')) = .ok (optW res) m := by
        rw [finish_rt]
        · rw [T]
        · cases res <;> rfl
      simp [runFn, b14, H, M, h20, G, k1', fin]
    · obtain ⟨a1, a2, a3⟩ := k3 v hv
      exact ⟨hh, a1, a2, a3⟩
theorem f14m (n : Nat) (r c : Int) (p q : Cell) (m : Mem) (hg : (okN r && okN c) = true) (hp : p ∈ cells r c) (hq : q ∈ cells r c) (hs : 20 < r * c) : run tbl sub 1000 word (n + 5) 14 [.int r, .int c, cellD p, cellD q] m = .ex 5 m := by
  have H := f11 n r c p q m hg hp hq
  have h2 := okN_iff.mp hg
  have M : opR .mul (.int r) (.int c) m = .ok (.int (r * c)) m := opR_mul_int m (.inl (small_mk (by omega) (by omega)))
  have h20 : decide (20 < r * c) = true := by simp; omega
  rw [run_tbl (g := ⟨4, 5, b14, false⟩) rfl]
  simp [runFn, b14, H, M, h20]
theorem f14x (n : Nat) (r c : Int) (p q : Cell) (m : Mem) (hg : (okN r && okN c) = true) (hx : p ∉ cells r c ∨ q ∉ cells r c) : run tbl sub 1000 word (n + 5) 14 [.int r, .int c, cellD p, cellD q] m = .ex 3 m := by
  have H := f11x n r c p q m hg hx
  rw [run_tbl (g := ⟨4, 5, b14, false⟩) rfl]
  simp [runFn, b14, H]
theorem f15 (n : Nat) (r c : Int) (p q : Cell) (m : Mem) (hg : (okN r && okN c) = true) (hp : p ∈ cells r c) (hq : q ∈ cells r c) : run tbl sub 1000 word (n + 5) 15 [.int 0, .int r, .int c, cellD p, cellD q] m = .ok (.bl (hasT r c p q)) m := by
  have H := f11 n r c p q m hg hp hq
  rw [run_tbl (g := ⟨5, 6, b15, false⟩) rfl]
  simp [runFn, b15, H]
theorem f15x (n : Nat) (k : Nat) (hk : k < 2) (r c : Int) (p q : Cell) (m : Mem) (hg : (okN r && okN c) = true) (hx : p ∉ cells r c ∨ q ∉ cells r c) : run tbl sub 1000 word (n + 6) 15 [.int (k : Int), .int r, .int c, cellD p, cellD q] m = .ok (.str "none") m := by
  have H := f11x (n + 1) r c p q m hg hx
  have H2 := f14x n r c p q m hg hx
  rw [run_tbl (g := ⟨5, 6, b15, false⟩) rfl]
  have : k = 0 ∨ k = 1 := by omega
  rcases this with rfl | rfl
  · simp [runFn, b15, H, word, sub]
  · simp [runFn, b15, H2, word, sub]
theorem f15m (n : Nat) (r c : Int) (p q : Cell) (m : Mem) (hg : (okN r && okN c) = true) (hp : p ∈ cells r c) (hq : q ∈ cells r c) (hs : 20 < r * c) : run tbl sub 1000 word (n + 6) 15 [.int 1, .int r, .int c, cellD p, cellD q] m = .ok (.str "much") m := by
  have H2 := f14m n r c p q m hg hp hq hs
  rw [run_tbl (g := ⟨5, 6, b15, false⟩) rfl]
  simp [runFn, b15, H2, word, sub]
theorem f15t (n : Nat) (r c : Int) (p q : Cell) (m : Mem) (hg : (okN r && okN c) = true) (hp : p ∈ cells r c) (hq : q ∈ cells r c) (hs : r * c ≤ 16) : ∃ res, run tbl sub 1000 word (n + 21) 15 [.int 1, .int r, .int c, cellD p, cellD q] m = .ok (optW res) m ∧ Told r c p q res := by
  obtain ⟨res, k1, k2⟩ := f14 n r c p q m hg hp hq hs
  refine ⟨res, ?_, k2⟩
  rw [run_tbl (g := ⟨5, 6, b15, false⟩) rfl]
  simp [runFn, b15, k1]
  cases res <;> simp [optW]
end K74
end

section
set_option linter.all false
set_option Elab.async false
set_option maxRecDepth 20000
namespace K74
open Py
/-! ### the ends of all trails, by masks -/
noncomputable def endsM (near : Nat → List Nat) (u : Nat) : Nat → Nat → Nat := Nat.rec (fun _ l => 2 ^ l) (fun _ ih g l => (near l).foldr (fun k acc => bif Nat.testBit g k then acc else Nat.lor acc (ih (g + 2 ^ k) k)) 0) u
theorem endsM_zero (near : Nat → List Nat) (g l : Nat) : endsM near 0 g l = 2 ^ l := rfl
theorem endsM_succ (near : Nat → List Nat) (u g l : Nat) : endsM near (u + 1) g l = (near l).foldr (fun k acc => bif Nat.testBit g k then acc else Nat.lor acc (endsM near u (g + 2 ^ k) k)) 0 := rfl
theorem bit_foldr (g : Nat) (f : Nat → Nat) (j : Nat) : ∀ ks : List Nat, (ks.foldr (fun k acc => bif Nat.testBit g k then acc else Nat.lor acc (f k)) 0).testBit j = true ↔ ∃ k ∈ ks, g.testBit k = false ∧ (f k).testBit j = true
  | [] => by simp
  | k :: ks => by
    rw [List.foldr_cons]
    have ih := bit_foldr g f j ks
    cases h : g.testBit k
    · simp only [cond_false]
      rw [show Nat.lor (ks.foldr (fun k acc => bif Nat.testBit g k then acc else Nat.lor acc (f k)) 0) (f k) = (ks.foldr (fun k acc => bif Nat.testBit g k then acc else Nat.lor acc (f k)) 0) ||| (f k) from rfl, Nat.testBit_or, Bool.or_eq_true, ih]
      simp [h]
      exact Or.comm
    · simp only [cond_true, ih]
      simp [h]
theorem bit_def (x i : Nat) : x.testBit i = decide (x / 2 ^ i % 2 = 1) := Nat.testBit_eq_decide_div_mod_eq
theorem bit_add {g k : Nat} (h : g.testBit k = false) (i : Nat) : (g + 2 ^ k).testBit i = (decide (i = k) || g.testBit i) := by
  rw [bit_def] at h
  simp only [decide_eq_false_iff_not] at h
  rcases Nat.lt_trichotomy i k with hi | hi | hi
  · have e : 2 ^ k = 2 ^ i * (2 * 2 ^ (k - i - 1)) := by
      rw [← Nat.mul_assoc, ← Nat.pow_succ, ← Nat.pow_add]; congr 1; omega
    have h2 : (g + 2 ^ k) / 2 ^ i = g / 2 ^ i + 2 * 2 ^ (k - i - 1) := by rw [e, Nat.add_mul_div_left _ _ (Nat.two_pow_pos i)]
    rw [bit_def, bit_def, h2]
    have : ¬ i = k := by omega
    simp [this]
  · subst hi
    have h2 : (g + 2 ^ i) / 2 ^ i = g / 2 ^ i + 1 := by rw [Nat.add_div_right _ (Nat.two_pow_pos i)]
    rw [bit_def, h2]
    simp; omega
  · have e : 2 ^ i = 2 ^ k * 2 * 2 ^ (i - k - 1) := by
      rw [← Nat.pow_succ, ← Nat.pow_add]; congr 1; omega
    have h2 : (g + 2 ^ k) / 2 ^ i = g / 2 ^ i := by
      rw [e, ← Nat.div_div_eq_div_mul, ← Nat.div_div_eq_div_mul, ← Nat.div_div_eq_div_mul, ← Nat.div_div_eq_div_mul, Nat.add_div_right _ (Nat.two_pow_pos k)]
      congr 1; omega
    rw [bit_def, bit_def, h2]
    have : ¬ i = k := by omega
    simp [this]
/-- near of an index -/
def Near (Z : List Cell) (near : Nat → List Nat) : Prop := ∀ l (hl : l < Z.length), ∀ k, k ∈ near l ↔ ∃ hk : k < Z.length, Z[k] ∈ besides Z[l]
theorem canM {Z : List Cell} {near : Nat → List Nat} (nd : Z.Nodup) (hn : Near Z near) : ∀ (u : Nat) (w : List Cell) (g l j : Nat) (hl : l < Z.length) (hj : j < Z.length), (∀ i (h : i < Z.length), Z[i] ∈ w ↔ g.testBit i = true) → (Can Z Z[j] u w Z[l] ↔ (endsM near u g l).testBit j = true)
  | 0, w, g, l, j, hl, hj, hw => by
    rw [endsM_zero, Nat.testBit_two_pow]
    simp only [Can, decide_eq_true_eq]
    exact List.getElem_inj nd
  | u + 1, w, g, l, j, hl, hj, hw => by
    rw [endsM_succ, bit_foldr]
    simp only [Can]
    constructor
    · rintro ⟨s, h1, h2, h3, h4⟩
      obtain ⟨k, hk, rfl⟩ := List.getElem_of_mem h2
      have hb : g.testBit k = false := by
        cases hh : g.testBit k
        · rfl
        · exact absurd ((hw k hk).mpr hh) h3
      refine ⟨k, (hn l hl k).mpr ⟨hk, h1⟩, hb, (canM nd hn u _ _ k j hk hj fun i hi => ?_).mp h4⟩
      rw [bit_add hb]
      simp only [List.mem_append, List.mem_singleton, Bool.or_eq_true, decide_eq_true_eq, hw i hi]
      rw [List.getElem_inj nd]; exact Or.comm
    · rintro ⟨k, h1, hb, h4⟩
      obtain ⟨hk, h5⟩ := (hn l hl k).mp h1
      have h3 : Z[k] ∉ w := fun z => by rw [(hw k hk).mp z] at hb; cases hb
      refine ⟨Z[k], h5, List.getElem_mem hk, h3, (canM nd hn u _ _ k j hk hj fun i hi => ?_).mpr h4⟩
      rw [bit_add hb]
      simp only [List.mem_append, List.mem_singleton, Bool.or_eq_true, decide_eq_true_eq, hw i hi]
      rw [List.getElem_inj nd]; exact Or.comm
/-- the sizes -/
def sizes : List (Nat × Nat) := [(1, 5), (2, 2), (2, 3), (2, 5), (2, 7), (3, 3), (3, 4), (3, 5), (4, 4), (5, 3), (4, 3), (7, 2), (6, 1), (1, 1), (1, 2), (2, 8)]
def nearA (r c l : Nat) : List Nat := (bif Nat.ble c l then [l - c] else []) ++ ((bif Nat.beq (l % c) 0 then [] else [l - 1]) ++ ((bif Nat.beq ((l + 1) % c) 0 then [] else [l + 1]) ++ (bif Nat.ble (r * c) (l + c) then [] else [l + c])))
def nearB (r c : Nat) : Bool := (List.range (r * c)).all fun l => ((nearA r c l).all fun k => Nat.blt k (r * c)) && (List.range (r * c)).all fun k => (match (cells r c)[k]?, (cells r c)[l]? with | some a, some b => (nearA r c l).contains k == stp a b | _, _ => false)
theorem near_k : ∀ x ∈ sizes, nearB x.1 x.2 = true := by decide +kernel
theorem near_ok {x : Nat × Nat} (h : x ∈ sizes) (hl : (cells x.1 x.2).length = x.1 * x.2) : Near (cells x.1 x.2) (nearA x.1 x.2) := by
  intro l hl' k
  have H := near_k x h
  simp only [nearB, List.all_eq_true, Bool.and_eq_true, List.mem_range] at H
  obtain ⟨h1, h2⟩ := H l (by omega)
  constructor
  · intro hk
    have hk1 : k < x.1 * x.2 := by simpa [Nat.blt_eq] using h1 k hk
    have hk2 : k < (cells x.1 x.2).length := by omega
    have h3 := h2 k hk1
    rw [List.getElem?_eq_getElem hk2, List.getElem?_eq_getElem hl'] at h3
    simp only [List.contains_eq_mem, hk, decide_true, beq_iff_eq] at h3
    exact ⟨hk2, by simpa [stp] using h3.symm⟩
  · rintro ⟨hk2, h4⟩
    have h3 := h2 k (by omega)
    rw [List.getElem?_eq_getElem hk2, List.getElem?_eq_getElem hl'] at h3
    simp only [List.contains_eq_mem, beq_iff_eq, stp, h4, decide_true] at h3
    simpa using h3
noncomputable def endsS (r c s : Nat) : Bool := (fun e : Nat => (List.range (r * c)).all fun j => (match (cells r c)[s]?, (cells r c)[j]? with | some a, some b => Nat.testBit e j == hasT r c a b | _, _ => false)) (endsM (nearA r c) (r * c - 1) (2 ^ s) s)
theorem en_1_5_0 : ([0, 1, 2, 3, 4].all fun s => endsS 1 5 s) = true := by decide +kernel
theorem en_2_2_0 : ([0, 1, 2, 3].all fun s => endsS 2 2 s) = true := by decide +kernel
theorem en_2_3_0 : ([0, 1, 2, 3, 4, 5].all fun s => endsS 2 3 s) = true := by decide +kernel
theorem en_2_5_0 : ([0, 1, 2, 3, 4, 5, 6, 7, 8, 9].all fun s => endsS 2 5 s) = true := by decide +kernel
theorem en_2_7_0 : ([0, 1, 2, 3, 4, 5, 6, 7, 8, 9, 10, 11, 12, 13].all fun s => endsS 2 7 s) = true := by decide +kernel
theorem en_3_3_0 : ([0, 1, 2, 3, 4, 5, 6, 7, 8].all fun s => endsS 3 3 s) = true := by decide +kernel
theorem en_3_4_0 : ([0, 1, 2, 3, 4, 5, 6, 7, 8, 9, 10, 11].all fun s => endsS 3 4 s) = true := by decide +kernel
theorem en_3_5_0 : ([0, 1, 2, 3].all fun s => endsS 3 5 s) = true := by decide +kernel
theorem en_3_5_4 : ([4, 5, 6, 7].all fun s => endsS 3 5 s) = true := by decide +kernel
theorem en_3_5_8 : ([8, 9, 10, 11].all fun s => endsS 3 5 s) = true := by decide +kernel
theorem en_3_5_12 : ([12, 13, 14].all fun s => endsS 3 5 s) = true := by decide +kernel
theorem en_4_4_0 : ([0, 1].all fun s => endsS 4 4 s) = true := by decide +kernel
theorem en_4_4_2 : ([2, 3].all fun s => endsS 4 4 s) = true := by decide +kernel
theorem en_4_4_4 : ([4, 5].all fun s => endsS 4 4 s) = true := by decide +kernel
theorem en_4_4_6 : ([6, 7].all fun s => endsS 4 4 s) = true := by decide +kernel
theorem en_4_4_8 : ([8, 9].all fun s => endsS 4 4 s) = true := by decide +kernel
theorem en_4_4_10 : ([10, 11].all fun s => endsS 4 4 s) = true := by decide +kernel
theorem en_4_4_12 : ([12, 13].all fun s => endsS 4 4 s) = true := by decide +kernel
theorem en_4_4_14 : ([14, 15].all fun s => endsS 4 4 s) = true := by decide +kernel
theorem en_5_3_0 : ([0, 1, 2, 3].all fun s => endsS 5 3 s) = true := by decide +kernel
theorem en_5_3_4 : ([4, 5, 6, 7].all fun s => endsS 5 3 s) = true := by decide +kernel
theorem en_5_3_8 : ([8, 9, 10, 11].all fun s => endsS 5 3 s) = true := by decide +kernel
theorem en_5_3_12 : ([12, 13, 14].all fun s => endsS 5 3 s) = true := by decide +kernel
theorem en_4_3_0 : ([0, 1, 2, 3, 4, 5, 6, 7, 8, 9, 10, 11].all fun s => endsS 4 3 s) = true := by decide +kernel
theorem en_7_2_0 : ([0, 1, 2, 3, 4, 5, 6, 7, 8, 9, 10, 11, 12, 13].all fun s => endsS 7 2 s) = true := by decide +kernel
theorem en_6_1_0 : ([0, 1, 2, 3, 4, 5].all fun s => endsS 6 1 s) = true := by decide +kernel
theorem en_1_1_0 : ([0].all fun s => endsS 1 1 s) = true := by decide +kernel
theorem en_1_2_0 : ([0, 1].all fun s => endsS 1 2 s) = true := by decide +kernel
theorem en_2_8_0 : ([0, 1, 2, 3].all fun s => endsS 2 8 s) = true := by decide +kernel
theorem en_2_8_4 : ([4, 5, 6, 7].all fun s => endsS 2 8 s) = true := by decide +kernel
theorem en_2_8_8 : ([8, 9, 10, 11].all fun s => endsS 2 8 s) = true := by decide +kernel
theorem en_2_8_12 : ([12, 13, 14, 15].all fun s => endsS 2 8 s) = true := by decide +kernel
theorem ends_k : ∀ x ∈ sizes, ∀ s, s < x.1 * x.2 → endsS x.1 x.2 s = true := by
  intro x hx s hs
  simp only [sizes, List.mem_cons, List.not_mem_nil, or_false] at hx
  rcases hx with rfl | rfl | rfl | rfl | rfl | rfl | rfl | rfl | rfl | rfl | rfl | rfl | rfl | rfl | rfl | rfl
  · have hs : s < 5 := hs
    exact List.all_eq_true.mp en_1_5_0 s (by simp; omega)
  · have hs : s < 4 := hs
    exact List.all_eq_true.mp en_2_2_0 s (by simp; omega)
  · have hs : s < 6 := hs
    exact List.all_eq_true.mp en_2_3_0 s (by simp; omega)
  · have hs : s < 10 := hs
    exact List.all_eq_true.mp en_2_5_0 s (by simp; omega)
  · have hs : s < 14 := hs
    exact List.all_eq_true.mp en_2_7_0 s (by simp; omega)
  · have hs : s < 9 := hs
    exact List.all_eq_true.mp en_3_3_0 s (by simp; omega)
  · have hs : s < 12 := hs
    exact List.all_eq_true.mp en_3_4_0 s (by simp; omega)
  · have hs : s < 15 := hs
    rcases Nat.lt_or_ge s 4 with h0 | h0
    · exact List.all_eq_true.mp en_3_5_0 s (by simp; omega)
    rcases Nat.lt_or_ge s 8 with h1 | h1
    · exact List.all_eq_true.mp en_3_5_4 s (by simp; omega)
    rcases Nat.lt_or_ge s 12 with h2 | h2
    · exact List.all_eq_true.mp en_3_5_8 s (by simp; omega)
    exact List.all_eq_true.mp en_3_5_12 s (by simp; omega)
  · have hs : s < 16 := hs
    rcases Nat.lt_or_ge s 2 with h0 | h0
    · exact List.all_eq_true.mp en_4_4_0 s (by simp; omega)
    rcases Nat.lt_or_ge s 4 with h1 | h1
    · exact List.all_eq_true.mp en_4_4_2 s (by simp; omega)
    rcases Nat.lt_or_ge s 6 with h2 | h2
    · exact List.all_eq_true.mp en_4_4_4 s (by simp; omega)
    rcases Nat.lt_or_ge s 8 with h3 | h3
    · exact List.all_eq_true.mp en_4_4_6 s (by simp; omega)
    rcases Nat.lt_or_ge s 10 with h4 | h4
    · exact List.all_eq_true.mp en_4_4_8 s (by simp; omega)
    rcases Nat.lt_or_ge s 12 with h5 | h5
    · exact List.all_eq_true.mp en_4_4_10 s (by simp; omega)
    rcases Nat.lt_or_ge s 14 with h6 | h6
    · exact List.all_eq_true.mp en_4_4_12 s (by simp; omega)
    exact List.all_eq_true.mp en_4_4_14 s (by simp; omega)
  · have hs : s < 15 := hs
    rcases Nat.lt_or_ge s 4 with h0 | h0
    · exact List.all_eq_true.mp en_5_3_0 s (by simp; omega)
    rcases Nat.lt_or_ge s 8 with h1 | h1
    · exact List.all_eq_true.mp en_5_3_4 s (by simp; omega)
    rcases Nat.lt_or_ge s 12 with h2 | h2
    · exact List.all_eq_true.mp en_5_3_8 s (by simp; omega)
    exact List.all_eq_true.mp en_5_3_12 s (by simp; omega)
  · have hs : s < 12 := hs
    exact List.all_eq_true.mp en_4_3_0 s (by simp; omega)
  · have hs : s < 14 := hs
    exact List.all_eq_true.mp en_7_2_0 s (by simp; omega)
  · have hs : s < 6 := hs
    exact List.all_eq_true.mp en_6_1_0 s (by simp; omega)
  · have hs : s < 1 := hs
    exact List.all_eq_true.mp en_1_1_0 s (by simp; omega)
  · have hs : s < 2 := hs
    exact List.all_eq_true.mp en_1_2_0 s (by simp; omega)
  · have hs : s < 16 := hs
    rcases Nat.lt_or_ge s 4 with h0 | h0
    · exact List.all_eq_true.mp en_2_8_0 s (by simp; omega)
    rcases Nat.lt_or_ge s 8 with h1 | h1
    · exact List.all_eq_true.mp en_2_8_4 s (by simp; omega)
    rcases Nat.lt_or_ge s 12 with h2 | h2
    · exact List.all_eq_true.mp en_2_8_8 s (by simp; omega)
    exact List.all_eq_true.mp en_2_8_12 s (by simp; omega)
end K74
end

section
set_option linter.all false
set_option Elab.async false
set_option maxRecDepth 20000
namespace K74
open Py
open PySem (Str)
/-! ### the law's own search -/
abbrev NN := Nat × Nat
def cd (x : NN) : D := cellD ((x.1 : Int), (x.2 : Int))
def kvN (K : List NN) : List (D × D) := K.map fun x => (cd x, .bl true)
theorem cd_inj (x y : NN) : eqB (cd x) (cd y) = decide (x = y) := by
  obtain ⟨a, b⟩ := x; obtain ⟨c, d⟩ := y
  rw [cd, cd, eqB_cell, decide_eq_decide]
  simp only [Prod.mk.injEq]; omega
def insU {α : Type} [DecidableEq α] (L : List α) (k : α) : List α := if k ∈ L then L else L ++ [k]
theorem mem_insU {α : Type} [DecidableEq α] {L : List α} {k x : α} : x ∈ insU L k ↔ x ∈ L ∨ x = k := by
  unfold insU; split
  · exact ⟨.inl, fun h => h.elim id fun e => e ▸ ‹_›⟩
  · simp
theorem nodup_insU {α : Type} [DecidableEq α] {L : List α} {k : α} (h : L.Nodup) : (insU L k).Nodup := by
  unfold insU; split
  · exact h
  · rename_i hk
    exact List.nodup_append.mpr ⟨h, by simp, by
      intro a ha b hb e
      simp at hb
      subst hb; subst e
      exact hk ha⟩
theorem dGet_N (K : List NN) (x : NN) : (dGet (kvN K) (cd x)).isSome = decide (x ∈ K) := by
  unfold dGet kvN
  induction K with
  | nil => rfl
  | cons a q ih =>
    rw [List.map_cons, List.find?_cons]
    simp only [cd_inj]
    by_cases h : a = x
    · subst h; simp
    · have h' : ¬x = a := fun e => h e.symm
      simp only [h, decide_false, List.mem_cons, h', false_or]; exact ih
theorem dPut_N (K : List NN) (x : NN) : dPut (kvN K) (cd x) (.bl true) = kvN (insU K x) := by
  unfold dPut insU
  rw [dGet_N]
  by_cases h : x ∈ K
  · simp only [h, decide_true, if_true, kvN, List.map_map]
    apply List.map_congr_left
    intro y _
    simp only [Function.comp]
    split <;> rfl
  · simp [h, kvN]
/-- the memory: what stands still, and a dict behind it -/
def MM (A : Mem) (K : List NN) : Mem := A ++ [.dtp (kvN K)]
theorem MM_put (A : Mem) (K : List NN) (x : NN) (e : Env) (hl : K.length ≤ 2000000) : setO e (.ref A.length) (cd x) (.bl true) (MM A K) = .nx e (MM A (insU K x)) := by
  have hf : fits (kvN K).length = true := fits_le (by simp [kvN]; omega)
  have h0 : dctAt (MM A K) (.ref A.length) = some (A.length, kvN K) := by simp [dctAt, MM]
  have h4 : der (MM A K) (cd x) = some (cd x) := rfl
  have h5 : keyOk (cd x) = true := keyOk_cell _
  simp only [setO, setD, h0, h4, h5, plainK_bl, hf, dPut_N]
  simp [MM]
theorem MM_at {A : Mem} {K : List NN} {i : Nat} {d : D} (h : A[i]? = some d) : (MM A K)[i]? = some d := by
  rw [MM, List.getElem?_append_left]
  · exact h
  · exact (List.getElem?_eq_some_iff.mp h).1
/-- powers of two -/
def pows (n : Nat) : List Int := (List.range (n + 1)).map fun k => ((2 ^ k : Nat) : Int)
theorem pows_at {n k : Nat} (h : k ≤ n) : at? ((pows n).map D.int) (k : Int) = some (.int ((2 ^ k : Nat) : Int)) := by
  rw [at_map, at_nat, pows, List.getElem?_map, List.getElem?_range (by omega)]; rfl
def inS (g : Nat) (acc : List NN) (k : Nat) : List NN := if g.testBit k then acc else insU acc (g + 2 ^ k, k)
theorem bit_run (g k : Nat) : (((g : Int).fdiv ((2 ^ k : Nat) : Int)).fmod 2 == 0) = !(g.testBit k) := by
  have h1 : (g : Int).fdiv ((2 ^ k : Nat) : Int) = ((g / 2 ^ k : Nat) : Int) := by
    rw [Int.fdiv_eq_ediv_of_nonneg _ (Int.natCast_nonneg _)]; simp
  rw [h1, fm2, bit_def, Bool.eq_iff_iff]
  generalize g / 2 ^ k = a
  simp only [beq_iff_eq, Bool.not_eq_true', decide_eq_false_iff_not]
  omega
/-- in range -/
def RNG (n : Nat) (K : List NN) : Prop := K.Nodup ∧ ∀ x ∈ K, x.1 < 2 ^ n ∧ x.2 < n
theorem RNG.len {n : Nat} {K : List NN} (h : RNG n K) (hn : n ≤ 16) : K.length ≤ 1048576 := by
  have h1 : K.length ≤ ((List.range (2 ^ n)).flatMap fun a => (List.range n).map fun b => ((a, b) : NN)).length := sub_len h.1 fun x hx => by
    have := h.2 x hx
    simp only [List.mem_flatMap, List.mem_map, List.mem_range]
    exact ⟨x.1, this.1, x.2, this.2, rfl⟩
  have h2 : ∀ L : List Nat, (L.flatMap fun a => (List.range n).map fun b => ((a, b) : NN)).length = L.length * n := fun L => by
    induction L with
    | nil => simp
    | cons a L ih => simp [ih, Nat.add_mul]; omega
  rw [h2, List.length_range] at h1
  have h3 : 2 ^ n ≤ 2 ^ 16 := Nat.pow_le_pow_right (by omega) hn
  have := Nat.mul_le_mul h3 hn
  omega
theorem add_lt {g k n : Nat} (hg : g < 2 ^ n) (hk : k < n) (hb : g.testBit k = false) : g + 2 ^ k < 2 ^ n := by
  apply Nat.lt_pow_two_of_testBit
  intro i hi
  rw [bit_add hb]
  have : ¬ i = k := by omega
  simp only [this, decide_false, Bool.false_or]
  exact Nat.testBit_lt_two_pow (Nat.lt_of_lt_of_le hg (Nat.pow_le_pow_right (by omega) hi))
theorem inS_rng {n g k : Nat} {K : List NN} (h : RNG n K) (hg : g < 2 ^ n) (hk : k < n) : RNG n (inS g K k) := by
  unfold inS
  cases hb : g.testBit k
  · simp only [Bool.false_eq_true, if_false]
    refine ⟨nodup_insU h.1, fun x hx => ?_⟩
    rcases mem_insU.mp hx with hx | rfl
    · exact h.2 x hx
    · exact ⟨add_lt hg hk hb, hk⟩
  · simpa using h
theorem inS_fold_rng {n g : Nat} (hg : g < 2 ^ n) : ∀ (ks : List Nat) (K : List NN), RNG n K → (∀ k ∈ ks, k < n) → RNG n (ks.foldl (inS g) K)
  | [], K, h, _ => h
  | k :: ks, K, h, hk => inS_fold_rng hg ks _ (inS_rng h hg (hk k (by simp))) fun x hx => hk x (by simp [hx])
theorem mem_inS {g : Nat} {x : NN} : ∀ (ks : List Nat) (K : List NN), x ∈ ks.foldl (inS g) K ↔ x ∈ K ∨ ∃ k ∈ ks, g.testBit k = false ∧ x = (g + 2 ^ k, k)
  | [], K => by simp
  | k :: ks, K => by
    rw [List.foldl_cons, mem_inS ks]
    unfold inS
    cases hb : g.testBit k
    · simp only [Bool.false_eq_true, if_false, mem_insU]
      simp [hb, or_assoc]
    · simp [hb]
def stepK (near : Nat → List Nat) (K : List NN) : List NN := K.foldl (fun acc x => (near x.2).foldl (inS x.1) acc) []
theorem step_fold_rng {n : Nat} {near : Nat → List Nat} (hn : ∀ l, ∀ k ∈ near l, k < n) : ∀ (K acc : List NN), RNG n acc → (∀ x ∈ K, x.1 < 2 ^ n) → RNG n (K.foldl (fun acc x => (near x.2).foldl (inS x.1) acc) acc)
  | [], acc, h, _ => h
  | x :: K, acc, h, hx => step_fold_rng hn K _ (inS_fold_rng (hx x (by simp)) _ _ h (hn _)) fun y hy => hx y (by simp [hy])
theorem mem_step_fold {near : Nat → List Nat} {z : NN} : ∀ (K acc : List NN), z ∈ K.foldl (fun acc x => (near x.2).foldl (inS x.1) acc) acc ↔ z ∈ acc ∨ ∃ y ∈ K, ∃ k ∈ near y.2, y.1.testBit k = false ∧ z = (y.1 + 2 ^ k, k)
  | [], acc => by simp
  | x :: K, acc => by
    rw [List.foldl_cons, mem_step_fold K, mem_inS]
    simp [or_assoc]
def levK (near : Nat → List Nat) : Nat → List NN → List NN
  | 0, K => K
  | t + 1, K => levK near t (stepK near K)
theorem stepK_rng {n : Nat} {near : Nat → List Nat} (hn : ∀ l, ∀ k ∈ near l, k < n) {K : List NN} (h : RNG n K) : RNG n (stepK near K) := step_fold_rng hn K [] ⟨by simp, by simp⟩ fun x hx => (h.2 x hx).1
theorem lev_ends (near : Nat → List Nat) (j : Nat) : ∀ (t : Nat) (K : List NN), (∃ x ∈ levK near t K, x.2 = j) ↔ ∃ y ∈ K, (endsM near t y.1 y.2).testBit j = true
  | 0, K => by
    simp only [levK, endsM_zero, Nat.testBit_two_pow, decide_eq_true_eq]
  | t + 1, K => by
    rw [levK, lev_ends near j t]
    simp only [stepK, mem_step_fold, List.not_mem_nil, false_or, endsM_succ, bit_foldr]
    constructor
    · rintro ⟨y, ⟨z, hz, k, hk, hb, rfl⟩, h⟩
      exact ⟨z, hz, k, hk, hb, h⟩
    · rintro ⟨z, hz, k, hk, hb, h⟩
      exact ⟨_, ⟨z, hz, k, hk, hb, rfl⟩, h⟩
end K74
end

section
set_option linter.all false
set_option Elab.async false
set_option maxRecDepth 20000
namespace K74
open Py
open PySem (Str)
theorem ev_dnew1 (c : Cfg) (e : Env) (k v : C) (m : Mem) : ev c e (.dnew1 k v) m = (ev c e k (m ++ [.dtp []])).bind fun x m1 => (ev c e v m1).bind fun y m2 => put1 m.length x y m2 := by rw [ev]
def nats (ks : List Nat) : List D := ks.map fun (k : Nat) => D.int (k : Int)
def nearP (Z : List Cell) (p : Cell) (k : Nat) : Bool := match Z[k]? with | some q => dst q p == 1 | none => false
def nearK (Z : List Cell) (p : Cell) : List Nat := (List.range Z.length).filter (nearP Z p)
theorem nearK_len (Z : List Cell) (p : Cell) : (nearK Z p).length ≤ Z.length := by
  have := List.length_filter_le (nearP Z p) (List.range Z.length)
  simpa [nearK] using this
abbrev compN : C := .comp [8] (.nm 8) .rng1 [.prim .len [.var 3]] [.op .eq (.op .add (.prim .abs [.op .sub (.idx (.idx (.var 3) (.var 8)) (.lit (.int 0))) (.var 5)]) (.prim .abs [.op .sub (.idx (.idx (.var 3) (.var 8)) (.lit (.int 1))) (.var 6)])) (.lit (.int 1))] (.var 8)
theorem near_run (cf : Cfg) (Z : List Cell) (p : Cell) (e0 e1 e2 e4 e7 e8 e9 e10 e11 e12 e13 e14 : Option D) (m : Mem) (hl : Z.length ≤ 100) : ev cf [e0, e1, e2, some (.lst (Z.map cellD)), e4, some (.int p.1), some (.int p.2), e7, e8, e9, e10, e11, e12, e13, e14] compN m = .ok (.lst (nats (nearK Z p))) m := by
  have hr : okB (Z.length : Int) = true := okB_mk (by omega) (by omega)
  obtain ⟨L, h1, h2⟩ : ∃ L, compS cf [e0, e1, e2, some (.lst (Z.map cellD)), e4, some (.int p.1), some (.int p.2), e7, e8, e9, e10, e11, e12, e13, e14] [8] (.nm 8) [.op .eq (.op .add (.prim .abs [.op .sub (.idx (.idx (.var 3) (.var 8)) (.lit (.int 0))) (.var 5)]) (.prim .abs [.op .sub (.idx (.idx (.var 3) (.var 8)) (.lit (.int 1))) (.var 6)])) (.lit (.int 1))] (.var 8) (rng 0 Z.length) m = .ok L m ∧ L = nats (nearK Z p) := by
    refine ⟨_, compS_rng_filter (fun k => nearP Z p k.toNat) (fun k => .int k) ?_ (by omega), ?_⟩
    · intro k k1 k2 acc ha
      obtain ⟨j, rfl⟩ : ∃ j : Nat, k = j := ⟨k.toNat, by omega⟩
      have hj : j < Z.length := by omega
      have a1 : at? (Z.map cellD) (j : Int) = some (cellD Z[j]) := by
        rw [at_map, at_nat, List.getElem?_eq_getElem hj]; rfl
      have e3 : nearP Z p (j : Int).toNat = (dst Z[j] p == 1) := by
        simp only [nearP, Int.toNat_natCast, List.getElem?_eq_getElem hj]
      have ix : idxR (.lst (Z.map cellD)) (.int (j : Int)) m = .ok (cellD Z[j]) m := idxR_lst' a1
      have j0 := i0 Z[j] m
      have j1 := i1 Z[j] m
      rw [e3]
      have hb : bindT (.nm 8) (.int (j : Int)) (wipeE [e0, e1, e2, some (.lst (Z.map cellD)), e4, some (.int p.1), some (.int p.2), e7, e8, e9, e10, e11, e12, e13, e14] [8]) = some [e0, e1, e2, some (.lst (Z.map cellD)), e4, some (.int p.1), some (.int p.2), e7, some (.int (j : Int)), e9, e10, e11, e12, e13, e14] := by simp [wipeE, bindT]
      have T : tests cf [e0, e1, e2, some (.lst (Z.map cellD)), e4, some (.int p.1), some (.int p.2), e7, some (.int (j : Int)), e9, e10, e11, e12, e13, e14] [.op .eq (.op .add (.prim .abs [.op .sub (.idx (.idx (.var 3) (.var 8)) (.lit (.int 0))) (.var 5)]) (.prim .abs [.op .sub (.idx (.idx (.var 3) (.var 8)) (.lit (.int 1))) (.var 6)])) (.lit (.int 1))] m = .ok (dst Z[j] p == 1) m := by
        have d : dst Z[j] p = (if Z[j].1 - p.1 < 0 then -(Z[j].1 - p.1) else Z[j].1 - p.1) + (if Z[j].2 - p.2 < 0 then -(Z[j].2 - p.2) else Z[j].2 - p.2) := rfl
        rw [d]
        simp [ix, j0, j1]
        cases h : ((if Z[j].1 - p.1 < 0 then -(Z[j].1 - p.1) else Z[j].1 - p.1) + (if Z[j].2 - p.2 < 0 then -(Z[j].2 - p.2) else Z[j].2 - p.2) == 1) <;> simp [h]
      rw [itS, hb, itB_some, T]
      cases (dst Z[j] p == 1) <;> simp [ha]
    · simp only [nats, nearK, Int.zero_add, List.filter_map, List.map_map]
      rfl
  subst h2
  simp [lenD, hr, range_nat _ _ hr, h1]
end K74
end

section
set_option linter.all false
set_option Elab.async false
set_option maxRecDepth 20000
namespace K74
open Py
open PySem (Str)
theorem forS_nx {c : Cfg} {t : Tg} {b : List S} {x : D} {xs : List D} {e : Env} {m : Mem} (e1 e2 : Env) (m2 : Mem) (h : bindT t x e = some e1) (h2 : execs c b e1 m = .nx e2 m2) : forS c t b (x :: xs) e m = forS c t b xs e2 m2 := forS_next h (.inl h2)
def nearD (Z : List Cell) : List Cell → List D := fun ps => ps.map fun p => .lst (nats (nearK Z p))
theorem nears_run (cf : Cfg) (Z : List Cell) (e0 e1 e2 : Option D) (m : Mem) (hl : Z.length ≤ 100) : ∀ (ps : List Cell) (acc : List D) (e5 e6 : Option D), acc.length + ps.length ≤ 1000 → ∃ y5 y6, forS cf (.tp [.nm 5, .nm 6]) [.expr (.meth .append (.var 4) [compN])] (ps.map cellD) [e0, e1, e2, some (.lst (Z.map cellD)), some (.ref m.length), e5, e6, none, none, none, none, none, none, none, none] (m ++ [.lst acc]) = .nx [e0, e1, e2, some (.lst (Z.map cellD)), some (.ref m.length), y5, y6, none, none, none, none, none, none, none, none] (m ++ [.lst (acc ++ nearD Z ps)])
  | [], acc, e5, e6, _ => ⟨e5, e6, by rw [List.map_nil, forS_nil]; simp [nearD]⟩
  | p :: ps, acc, e5, e6, h => by
    simp only [List.length_cons] at h
    obtain ⟨y5, y6, ih⟩ := nears_run cf Z e0 e1 e2 m hl ps (acc ++ [.lst (nats (nearK Z p))]) (some (.int p.1)) (some (.int p.2)) (by simp; omega)
    refine ⟨y5, y6, ?_⟩
    have N := near_run cf Z p e0 e1 e2 (some (.ref m.length)) none none none none none none none none (m ++ [.lst acc]) hl
    have hf : fits acc.length = true := fits_le (by omega)
    rw [List.map_cons, forS_nx [e0, e1, e2, some (.lst (Z.map cellD)), some (.ref m.length), some (.int p.1), some (.int p.2), none, none, none, none, none, none, none, none] [e0, e1, e2, some (.lst (Z.map cellD)), some (.ref m.length), some (.int p.1), some (.int p.2), none, none, none, none, none, none, none, none] (m ++ [.lst (acc ++ [.lst (nats (nearK Z p))])]) (by simp [bindT, bindTs, cellD]) ?_, ih]
    · simp [nearD]
    · have E : evs cf [e0, e1, e2, some (.lst (Z.map cellD)), some (.ref m.length), some (.int p.1), some (.int p.2), none, none, none, none, none, none, none, none] [compN] (m ++ [.lst acc]) = .ok [.lst (nats (nearK Z p))] (m ++ [.lst acc]) := by
        rw [evs_cons, N]; simp
      simp only [execs_cons, exec_expr, ev_meth, ev_var]
      simp only [slot_succ, slot_zero, kMeth1_ok, der_new, kMeth2_lst, E, kMeth3_ok]
      simp [hf]
theorem pows_last (k : Nat) : (pows k).getLast? = some ((2 ^ k : Nat) : Int) := by
  simp [pows, List.range_succ]
theorem pows_succ (k : Nat) : pows (k + 1) = pows k ++ [((2 ^ (k + 1) : Nat) : Int)] := by
  simp [pows, List.range_succ]
theorem pows_len (k : Nat) : (pows k).length = k + 1 := by simp [pows]
theorem pows_run (cf : Cfg) (e0 e1 e2 e3 e4 e5 e6 : Option D) (B : Mem) : ∀ (xs : List D) (k : Nat) (e8 : Option D), k + xs.length ≤ 60 → ∃ y8, forS cf (.nm 8) [.expr (.meth .append (.var 7) [.op .mul (.lit (.int 2)) (.idx (.var 7) (.neg (.lit (.int 1))))])] xs [e0, e1, e2, e3, e4, e5, e6, some (.ref B.length), e8, none, none, none, none, none, none] (B ++ [.lst ((pows k).map D.int)]) = .nx [e0, e1, e2, e3, e4, e5, e6, some (.ref B.length), y8, none, none, none, none, none, none] (B ++ [.lst ((pows (k + xs.length)).map D.int)])
  | [], k, e8, _ => ⟨e8, forS_nil ..⟩
  | x :: xs, k, e8, h => by
    simp only [List.length_cons] at h
    obtain ⟨y8, ih⟩ := pows_run cf e0 e1 e2 e3 e4 e5 e6 B xs (k + 1) (some x) (by omega)
    refine ⟨y8, ?_⟩
    have ix : idxR (.ref B.length) (.int (-1)) (B ++ [.lst ((pows k).map D.int)]) = .ok (.int ((2 ^ k : Nat) : Int)) (B ++ [.lst ((pows k).map D.int)]) := by
      apply idxR_lst (xs := (pows k).map D.int)
      · simp [der]
      · simp [dctOf]
      · rw [at_last, List.getLast?_map, pows_last]; rfl
    have M : opR .mul (.int 2) (.int ((2 ^ k : Nat) : Int)) (B ++ [.lst ((pows k).map D.int)]) = .ok (.int ((2 ^ (k + 1) : Nat) : Int)) (B ++ [.lst ((pows k).map D.int)]) := by
      rw [opR_mul_int _ (.inl rfl)]
      have : (2 : Int) * ((2 ^ k : Nat) : Int) = ((2 ^ (k + 1) : Nat) : Int) := by rw [Nat.pow_succ]; omega
      rw [this]
    have hf : fits ((pows k).map D.int).length = true := fits_le (by simp [pows_len]; omega)
    have hp : (pows k).map D.int ++ [D.int ((2 ^ (k + 1) : Nat) : Int)] = (pows (k + 1)).map D.int := by rw [pows_succ]; simp
    rw [show k + (x :: xs).length = k + 1 + xs.length by simp; omega]
    rw [forS_nx [e0, e1, e2, e3, e4, e5, e6, some (.ref B.length), some x, none, none, none, none, none, none] [e0, e1, e2, e3, e4, e5, e6, some (.ref B.length), some x, none, none, none, none, none, none] (B ++ [.lst ((pows (k + 1)).map D.int)]) (by simp [bindT]) ?_, ih]
    have E : evs cf [e0, e1, e2, e3, e4, e5, e6, some (.ref B.length), some x, none, none, none, none, none, none] [.op .mul (.lit (.int 2)) (.idx (.var 7) (.neg (.lit (.int 1))))] (B ++ [.lst ((pows k).map D.int)]) = .ok [.int ((2 ^ (k + 1) : Nat) : Int)] (B ++ [.lst ((pows k).map D.int)]) := by
      simp only [evs_cons, evs_nil, ev_op, ev_lit, ev_idx, ev_var, ev_neg, slot_succ, slot_zero, kOp1_ok, kIdx1_ok, kNeg_ok, negR_int, kIdx2_ok, ix, kOp2_ok, M, kEvs1_ok, kEvs2_ok]
    simp only [execs_cons, exec_expr, ev_meth, ev_var]
    simp only [slot_succ, slot_zero, kMeth1_ok, der_new, kMeth2_lst, E, kMeth3_ok]
    rw [← hp]
    have P : pr cf.sub .append [.ref B.length, .int ((2 ^ (k + 1) : Nat) : Int)] (B ++ [.lst ((pows k).map D.int)]) = some (.non, B ++ [.lst ((pows k).map D.int ++ [.int ((2 ^ (k + 1) : Nat) : Int)])]) := by
      simp only [pr_append, settle_int, Option.bind_some, cellL_new, hf, if_true, mem_set]
    rw [P]; simp
/-! ### one level -/
def bodyI : List S := [.iff (.op .eq (.op .mod (.prim .int [.op .fdiv (.var 13) (.idx (.var 7) (.var 8))]) (.lit (.int 2))) (.lit (.int 0))) [.setix (.var 12) (.tup [.op .add (.var 13) (.idx (.var 7) (.var 8)), .var 8]) (.lit (.bl true))] []]
def bodyO : List S := [.for_ (.nm 8) .seq [.idx (.var 4) (.var 14)] bodyI]
theorem pow_small {k n : Nat} (h : k ≤ n) (hn : n ≤ 16) : ((2 ^ k : Nat) : Int) ≠ 0 ∧ ((2 ^ k : Nat) : Int).natAbs < 1073741824 := by
  have h1 : 2 ^ k ≤ 2 ^ 16 := Nat.pow_le_pow_right (by omega) (by omega)
  have h2 := Nat.two_pow_pos k
  constructor
  · omega
  · rw [Int.natAbs_natCast]; omega
theorem inner_run (cf : Cfg) (e0 e1 e2 e3 e4 e5 e6 e9 e10 e11 : Option D) (A : Mem) (i n g l : Nat) (hn : n ≤ 16) (hA : A[i]? = some (.lst ((pows n).map D.int))) (hg : g < 2 ^ n) : ∀ (ks : List Nat) (K : List NN) (e8 : Option D), (∀ k ∈ ks, k < n) → RNG n K → ∃ y8, forS cf (.nm 8) bodyI (nats ks) [e0, e1, e2, e3, e4, e5, e6, some (.ref i), e8, e9, e10, e11, some (.ref A.length), some (.int (g : Int)), some (.int (l : Int))] (MM A K) = .nx [e0, e1, e2, e3, e4, e5, e6, some (.ref i), y8, e9, e10, e11, some (.ref A.length), some (.int (g : Int)), some (.int (l : Int))] (MM A (ks.foldl (inS g) K))
  | [], K, e8, _, _ => ⟨e8, forS_nil ..⟩
  | k :: ks, K, e8, hk, hK => by
    have hkn := hk k (by simp)
    obtain ⟨y8, ih⟩ := inner_run cf e0 e1 e2 e3 e4 e5 e6 e9 e10 e11 A i n g l hn hA hg ks (inS g K k) (some (.int (k : Int))) (fun x hx => hk x (by simp [hx])) (inS_rng hK hg hkn)
    refine ⟨y8, ?_⟩
    have ix : ∀ K, idxR (.ref i) (.int (k : Int)) (MM A K) = .ok (.int ((2 ^ k : Nat) : Int)) (MM A K) := fun K => by
      apply idxR_lst (xs := (pows n).map D.int)
      · simp [der, MM_at hA]
      · simp [dctOf, MM_at hA]
      · exact pows_at (by omega)
    have ps := pow_small (show k ≤ n by omega) hn
    have Dv : ∀ M, opR .fdiv (.int (g : Int)) (.int ((2 ^ k : Nat) : Int)) M = .ok (.int ((g : Int).fdiv ((2 ^ k : Nat) : Int))) M := fun M => opR_fdiv_int M ps.1 ps.2
    have Bt := bit_run g k
    rw [List.foldl_cons, ← ih]
    show forS cf (.nm 8) bodyI (D.int (k : Int) :: nats ks) _ _ = _
    refine forS_next (e1 := [e0, e1, e2, e3, e4, e5, e6, some (.ref i), some (.int (k : Int)), e9, e10, e11, some (.ref A.length), some (.int (g : Int)), some (.int (l : Int))]) (by simp [bindT]) (.inl ?_)
    generalize hq : ((2 ^ k : Nat) : Int) = q at *
    cases hb : g.testBit k <;> rw [hb] at Bt
    · have e : inS g K k = insU K (g + 2 ^ k, k) := by simp [inS, hb]
      rw [e]
      have P := MM_put A K (g + 2 ^ k, k) [e0, e1, e2, e3, e4, e5, e6, some (.ref i), some (.int (k : Int)), e9, e10, e11, some (.ref A.length), some (.int (g : Int)), some (.int (l : Int))] (by have := hK.len hn; omega)
      have hc : cd (g + 2 ^ k, k) = .tup [.int ((g : Int) + q), .int (k : Int)] := by
        rw [cd, cellD]; simp only; rw [Int.natCast_add, hq]
      rw [hc] at P
      simp [bodyI, ix, Dv, Bt, P]
    · have e : inS g K k = K := by simp [inS, hb]
      rw [e]
      simp [bodyI, ix, Dv, Bt]
end K74
end

section
set_option linter.all false
set_option Elab.async false
set_option maxRecDepth 20000
namespace K74
open Py
open PySem (Str)
def nearL (Z : List Cell) (l : Nat) : List Nat := match Z[l]? with | some p => nearK Z p | none => []
theorem nearL_lt {Z : List Cell} {n : Nat} (hn : n = Z.length) : ∀ l, ∀ k ∈ nearL Z l, k < n := by
  intro l k hk
  unfold nearL at hk
  split at hk
  · simp only [nearK, List.mem_filter, List.mem_range] at hk; omega
  · cases hk
theorem outer_run (cf : Cfg) (e0 e1 e2 e3 e5 e6 e9 e10 e11 : Option D) (A : Mem) (a i n : Nat) (Z : List Cell) (hz : n = Z.length) (hn : n ≤ 16) (hA : A[i]? = some (.lst ((pows n).map D.int))) (hN : A[a]? = some (.lst (nearD Z Z))) : ∀ (K acc : List NN) (e8 e13 e14 : Option D), (∀ x ∈ K, x.1 < 2 ^ n ∧ x.2 < n) → RNG n acc → ∃ y8 y13 y14, forS cf (.tp [.nm 13, .nm 14]) bodyO (K.map cd) [e0, e1, e2, e3, some (.ref a), e5, e6, some (.ref i), e8, e9, e10, e11, some (.ref A.length), e13, e14] (MM A acc) = .nx [e0, e1, e2, e3, some (.ref a), e5, e6, some (.ref i), y8, e9, e10, e11, some (.ref A.length), y13, y14] (MM A (K.foldl (fun acc x => (nearL Z x.2).foldl (inS x.1) acc) acc))
  | [], acc, e8, e13, e14, _, _ => ⟨e8, e13, e14, forS_nil ..⟩
  | x :: K, acc, e8, e13, e14, hx, hacc => by
    obtain ⟨hg, hl⟩ := hx x (by simp)
    have hlz : x.2 < Z.length := by omega
    have en : nearL Z x.2 = nearK Z Z[x.2] := by simp [nearL, List.getElem?_eq_getElem hlz]
    have R := inS_fold_rng hg (nearL Z x.2) acc hacc (nearL_lt hz x.2)
    obtain ⟨z8, I⟩ := inner_run cf e0 e1 e2 e3 (some (.ref a)) e5 e6 e9 e10 e11 A i n x.1 x.2 hn hA hg (nearL Z x.2) acc e8 (nearL_lt hz x.2) hacc
    obtain ⟨y8, y13, y14, ih⟩ := outer_run cf e0 e1 e2 e3 e5 e6 e9 e10 e11 A a i n Z hz hn hA hN K ((nearL Z x.2).foldl (inS x.1) acc) z8 (some (.int (x.1 : Int))) (some (.int (x.2 : Int))) (fun y hy => hx y (by simp [hy])) R
    refine ⟨y8, y13, y14, ?_⟩
    have ix : idxR (.ref a) (.int (x.2 : Int)) (MM A acc) = .ok (.lst (nats (nearL Z x.2))) (MM A acc) := by
      apply idxR_lst (xs := nearD Z Z)
      · simp [der, MM_at hN]
      · simp [dctOf, MM_at hN]
      · rw [nearD, at_map, at_nat, List.getElem?_eq_getElem hlz, en]; rfl
    rw [List.map_cons, List.foldl_cons, ← ih]
    apply forS_nx [e0, e1, e2, e3, some (.ref a), e5, e6, some (.ref i), e8, e9, e10, e11, some (.ref A.length), some (.int (x.1 : Int)), some (.int (x.2 : Int))]
    · simp [bindT, bindTs, cd, cellD]
    · simp [bodyO, ix, I]
def turnB : List S := [.asg (.nm 12) (.dnew), .for_ (.tp [.nm 13, .nm 14]) .seq [.dkeys (.var 10)] bodyO, .asg (.nm 10) (.var 12)]
theorem kvN_keys (K : List NN) : (kvN K).map (·.1) = K.map cd := by simp [kvN]
theorem lock_MM (B : Mem) (K : List NN) (r : Mem) : lockD (.ref B.length) (MM B K ++ r) = .ok (.lck (.dtp (kvN K))) ((B ++ [.non]) ++ r) := by
  have h : (MM B K ++ r)[B.length]? = some (.dtp (kvN K)) := by simp [MM]
  simp only [lockD, h]
  congr 1
  simp [MM]
theorem turn_run (cf : Cfg) (e0 e1 e2 e3 e5 e6 e8 e9 e11 e12 e13 e14 : Option D) (B : Mem) (K : List NN) (a i n : Nat) (Z : List Cell) (hz : n = Z.length) (hn : n ≤ 16) (hA : B[i]? = some (.lst ((pows n).map D.int))) (hN : B[a]? = some (.lst (nearD Z Z))) (hK : RNG n K) : ∃ y8 y12 y13 y14, execs cf turnB [e0, e1, e2, e3, some (.ref a), e5, e6, some (.ref i), e8, e9, some (.ref B.length), e11, e12, e13, e14] (MM B K) = .nx [e0, e1, e2, e3, some (.ref a), e5, e6, some (.ref i), y8, e9, some (.ref (B ++ [D.non]).length), e11, y12, y13, y14] (MM (B ++ [.non]) (stepK (nearL Z) K)) := by
  have ext : ∀ {j : Nat} {d : D}, B[j]? = some d → (B ++ [D.non])[j]? = some d := fun {j d} h => by
    rw [List.getElem?_append_left (List.getElem?_eq_some_iff.mp h).1]; exact h
  obtain ⟨y8, y13, y14, O⟩ := outer_run cf e0 e1 e2 e3 e5 e6 e9 (some (.ref B.length)) e11 (B ++ [.non]) a i n Z hz hn (ext hA) (ext hN) K [] e8 e13 e14 hK.2 ⟨by simp, by simp⟩
  refine ⟨y8, some (.ref (B ++ [D.non]).length), y13, y14, ?_⟩
  have L := lock_MM B K [.dtp []]
  have e1' : (MM B K).length = (B ++ [D.non]).length := by simp [MM]
  have e2' : (B ++ [D.non]) ++ [D.dtp []] = MM (B ++ [.non]) [] := rfl
  rw [e2'] at L
  generalize hq : (B ++ [D.non]).length = q at *
  simp [turnB, e1', L, kvN_keys, O, stepK]
theorem turns_run (cf : Cfg) (e0 e1 e2 e3 e5 e6 e9 : Option D) (a i n : Nat) (Z : List Cell) (hz : n = Z.length) (hn : n ≤ 16) : ∀ (xs : List D) (B : Mem) (K : List NN) (e8 e11 e12 e13 e14 : Option D), B[i]? = some (.lst ((pows n).map D.int)) → B[a]? = some (.lst (nearD Z Z)) → RNG n K → ∃ Y y8 y11 y12 y13 y14, forS cf (.nm 11) turnB xs [e0, e1, e2, e3, some (.ref a), e5, e6, some (.ref i), e8, e9, some (.ref B.length), e11, e12, e13, e14] (MM B K) = .nx [e0, e1, e2, e3, some (.ref a), e5, e6, some (.ref i), y8, e9, some (.ref (B ++ Y).length), y11, y12, y13, y14] (MM (B ++ Y) (levK (nearL Z) xs.length K))
  | [], B, K, e8, e11, e12, e13, e14, _, _, _ => ⟨[], e8, e11, e12, e13, e14, by rw [forS_nil]; simp [levK]⟩
  | x :: xs, B, K, e8, e11, e12, e13, e14, hA, hN, hK => by
    have ext : ∀ {j : Nat} {d : D}, B[j]? = some d → (B ++ [D.non])[j]? = some d := fun {j d} h => by
      rw [List.getElem?_append_left (List.getElem?_eq_some_iff.mp h).1]; exact h
    obtain ⟨z8, z12, z13, z14, T⟩ := turn_run cf e0 e1 e2 e3 e5 e6 e8 e9 (some x) e12 e13 e14 B K a i n Z hz hn hA hN hK
    obtain ⟨Y, y8, y11, y12, y13, y14, ih⟩ := turns_run cf e0 e1 e2 e3 e5 e6 e9 a i n Z hz hn xs (B ++ [.non]) (stepK (nearL Z) K) z8 (some x) z12 z13 z14 (ext hA) (ext hN) (stepK_rng (nearL_lt hz) hK)
    refine ⟨.non :: Y, y8, y11, y12, y13, y14, ?_⟩
    have e : B ++ D.non :: Y = B ++ [.non] ++ Y := by simp
    rw [e, List.length_cons, levK, ← ih]
    exact forS_nx _ _ _ (by simp [bindT]) T
theorem levK_rng {Z : List Cell} {n : Nat} (hz : n = Z.length) : ∀ (t : Nat) (K : List NN), RNG n K → RNG n (levK (nearL Z) t K)
  | 0, K, h => h
  | t + 1, K, h => levK_rng hz t _ (stepK_rng (nearL_lt hz) h)
/-- the ends -/
def endL (Z : List Cell) (s : Nat) : List Cell := ((levK (nearL Z) (Z.length - 1) [(2 ^ s, s)]).map fun x => Z.getD x.2 (0, 0)).mergeSort leP
theorem index_run (cf : Cfg) (Z : List Cell) (p : Cell) (s : Nat) (hs : s < Z.length) (nd : Z.Nodup) (hp : Z[s] = p) (m : Mem) : pr cf.sub .index [.lst (Z.map cellD), cellD p] m = some (.int (s : Int), m) := by
  have h : min (deps (Z.map cellD)) (dep (cellD p)) ≤ dq ∧ plainK (cellD p) = true := in_ok Z p
  have f : (Z.map cellD).findIdx? (fun y => eqB y (cellD p)) = some s := by
    rw [List.findIdx?_map]
    have : (fun y => eqB y (cellD p)) ∘ cellD = fun q => decide (q = p) := by funext q; simp [eqB_cell]
    rw [this, List.findIdx?_eq_some_iff_getElem]
    refine ⟨hs, by simp [hp], fun j hj => ?_⟩
    simp only [decide_eq_true_eq]
    intro e
    rw [← hp] at e
    have := (List.getElem_inj nd).mp e
    omega
  show ((der m (cellD p)).bind fun x => (der m (.lst (Z.map cellD))).bind fun c => match c with
    | .lst xs => if min (deps xs) (dep x) ≤ dq ∧ plainK x = true then (xs.findIdx? fun y => eqB y x).map fun (k : Nat) => (D.int (k : Int), m) else none
    | _ => none) = _
  simp only [der_cell, der_lst, Option.bind_some, if_pos h, f, Option.map_some]
theorem f3 (n : Nat) (r c : Int) (s : Nat) (m : Mem) (hg : (okN r && okN c) = true) (h16 : r * c ≤ 16) (hs : s < (cells r c).length) : run tbl sub 1000 word (n + 2) 3 [.int r, .int c, cellD (cells r c)[s]] m = .ok (.lst ((endL (cells r c) s).map cellD)) m := by
  have gr := grd hg h16
  have F2 := f2 n r c m hg
  obtain ⟨p, hp⟩ : ∃ p, p = (cells r c)[s] := ⟨_, rfl⟩
  rw [← hp]
  generalize hZ : cells r c = Z at *
  have hl := gr.len
  obtain ⟨cf, hcf⟩ : ∃ cf : Cfg, cf = ⟨run tbl sub 1000 word (n + 1), sub, 1000, word⟩ := ⟨_, rfl⟩
  rw [run_tbl (g := ⟨3, 15, b3, false⟩) rfl]
  obtain ⟨y5, y6, T1⟩ := nears_run cf Z (some (.int r)) (some (.int c)) (some (cellD p)) m (by omega) Z [] none none (by simp; omega)
  obtain ⟨y8, T3⟩ := pows_run cf (some (.int r)) (some (.int c)) (some (cellD p)) (some (.lst (Z.map cellD))) (some (.ref m.length)) y5 y6 (m ++ [.lst (nearD Z Z)]) (rng 0 Z.length) 0 none (by simp [rng_len']; omega)
  have hr : okB (Z.length : Int) = true := okB_mk (by omega) (by omega)
  have hr1 : okB ((Z.length : Int) - 1) = true := okB_mk (by omega) (by omega)
  have T4 := fun m => index_run cf Z p s hs gr.nd hp.symm m
  obtain ⟨A, hA⟩ : ∃ A : Mem, A = m ++ [.lst (nearD Z Z)] ++ [.lst ((pows Z.length).map D.int)] := ⟨_, rfl⟩
  have A0 : A[m.length]? = some (.lst (nearD Z Z)) := by rw [hA]; simp
  have A1 : A[m.length + 1]? = some (.lst ((pows Z.length).map D.int)) := by rw [hA]; simp
  obtain ⟨Y, z8, z11, z12, z13, z14, T6⟩ := turns_run cf (some (.int r)) (some (.int c)) (some (cellD p)) (some (.lst (Z.map cellD))) y5 y6 (some (.int (s : Int))) m.length (m.length + 1) Z.length Z rfl hl (rng 0 (Z.length - 1)) A [(2 ^ s, s)] y8 none none none none A1 A0 ⟨by simp, by simp; exact ⟨Nat.pow_lt_pow_right (by omega) hs, hs⟩⟩
  have hdk : run tbl sub 1000 word (n + 1) 2 [.int r, .int c] m = .ok (.lst (Z.map cellD)) m := F2
  have E0 : exec cf (.par [3, 4] [.call 2 [.var 0, .var 1], .mut (.lst [])]) [some (.int r), some (.int c), some (cellD p), none, none, none, none, none, none, none, none, none, none, none, none] m = .nx [some (.int r), some (.int c), some (cellD p), some (.lst (Z.map cellD)), some (.ref m.length), none, none, none, none, none, none, none, none, none, none] (m ++ [.lst []]) := by
    rw [hcf]; simp [hdk]
  have E1 : exec cf (.for_ (.tp [.nm 5, .nm 6]) .seq [.var 3] [.expr (.meth .append (.var 4) [compN])]) [some (.int r), some (.int c), some (cellD p), some (.lst (Z.map cellD)), some (.ref m.length), none, none, none, none, none, none, none, none, none, none] (m ++ [.lst []]) = .nx [some (.int r), some (.int c), some (cellD p), some (.lst (Z.map cellD)), some (.ref m.length), y5, y6, none, none, none, none, none, none, none, none] (m ++ [.lst (nearD Z Z)]) := by
    simp only [List.nil_append] at T1
    simp [T1]
  have E2 : exec cf (.asg (.nm 7) (.mut (.lst [.lit (.int 1)]))) [some (.int r), some (.int c), some (cellD p), some (.lst (Z.map cellD)), some (.ref m.length), y5, y6, none, none, none, none, none, none, none, none] (m ++ [.lst (nearD Z Z)]) = .nx [some (.int r), some (.int c), some (cellD p), some (.lst (Z.map cellD)), some (.ref m.length), y5, y6, some (.ref (m ++ [D.lst (nearD Z Z)]).length), none, none, none, none, none, none, none] (m ++ [.lst (nearD Z Z)] ++ [.lst ((pows 0).map D.int)]) := by
    simp [pows]
  have E3 : exec cf (.for_ (.nm 8) .rng1 [.prim .len [.var 3]] [.expr (.meth .append (.var 7) [.op .mul (.lit (.int 2)) (.idx (.var 7) (.neg (.lit (.int 1))))])]) [some (.int r), some (.int c), some (cellD p), some (.lst (Z.map cellD)), some (.ref m.length), y5, y6, some (.ref (m ++ [D.lst (nearD Z Z)]).length), none, none, none, none, none, none, none] (m ++ [.lst (nearD Z Z)] ++ [.lst ((pows 0).map D.int)]) = .nx [some (.int r), some (.int c), some (cellD p), some (.lst (Z.map cellD)), some (.ref m.length), y5, y6, some (.ref (m.length + 1)), y8, none, none, none, none, none, none] A := by
    have e : 0 + (rng 0 Z.length).length = Z.length := by simp [rng_len']
    rw [e, ← hA] at T3
    have e2 : (m ++ [D.lst (nearD Z Z)]).length = m.length + 1 := by simp
    rw [e2] at T3 ⊢
    generalize m ++ [D.lst (nearD Z Z)] ++ [.lst ((pows 0).map D.int)] = m3 at *
    simp [range_nat _ _ hr, T3]
  have E4 : exec cf (.asg (.nm 9) (.meth .index (.var 3) [.var 2])) [some (.int r), some (.int c), some (cellD p), some (.lst (Z.map cellD)), some (.ref m.length), y5, y6, some (.ref (m.length + 1)), y8, none, none, none, none, none, none] A = .nx [some (.int r), some (.int c), some (cellD p), some (.lst (Z.map cellD)), some (.ref m.length), y5, y6, some (.ref (m.length + 1)), y8, some (.int (s : Int)), none, none, none, none, none] A := by
    simp only [exec_asg, ev_meth, ev_var, slot_succ, slot_zero, kMeth1_ok, der_lst, kMeth2_lst, evs_cons, evs_nil, kEvs1_ok, kEvs2_ok, kMeth3_ok, T4 A, of_pair]
    simp
  have E5 : exec cf (.asg (.nm 10) (.dnew1 (.tup [.idx (.var 7) (.var 9), .var 9]) (.lit (.bl true)))) [some (.int r), some (.int c), some (cellD p), some (.lst (Z.map cellD)), some (.ref m.length), y5, y6, some (.ref (m.length + 1)), y8, some (.int (s : Int)), none, none, none, none, none] A = .nx [some (.int r), some (.int c), some (cellD p), some (.lst (Z.map cellD)), some (.ref m.length), y5, y6, some (.ref (m.length + 1)), y8, some (.int (s : Int)), some (.ref A.length), none, none, none, none] (MM A [(2 ^ s, s)]) := by
    have ix : idxR (.ref (m.length + 1)) (.int (s : Int)) (A ++ [.dtp []]) = .ok (.int ((2 ^ s : Nat) : Int)) (A ++ [.dtp []]) := by
      have hx : (MM A [])[m.length + 1]? = some (.lst ((pows Z.length).map D.int)) := MM_at A1
      apply idxR_lst (xs := (pows Z.length).map D.int)
      · exact der_ref _ hx
      · show dctOf (MM A []) _ = none
        simp [dctOf, hx]
      · exact pows_at (by omega)
    have P : put1 A.length (.tup [.int ((2 ^ s : Nat) : Int), .int (s : Int)]) (.bl true) (A ++ [.dtp []]) = .ok (.ref A.length) (MM A [(2 ^ s, s)]) := by
      have k : keyOk (cd (2 ^ s, s)) = true := keyOk_cell _
      show put1 A.length (cd (2 ^ s, s)) (.bl true) (A ++ [.dtp []]) = _
      have d : der (A ++ [.dtp []]) (cd (2 ^ s, s)) = some (cd (2 ^ s, s)) := rfl
      simp only [put1, d, k, plainK_bl]
      simp [isNew, MM, kvN]
    generalize ((2 ^ s : Nat) : Int) = q at *
    simp [ev_dnew1, ix, P]
  have E6 : exec cf (.for_ (.nm 11) .rng1 [.op .sub (.prim .len [.var 3]) (.lit (.int 1))] turnB) [some (.int r), some (.int c), some (cellD p), some (.lst (Z.map cellD)), some (.ref m.length), y5, y6, some (.ref (m.length + 1)), y8, some (.int (s : Int)), some (.ref A.length), none, none, none, none] (MM A [(2 ^ s, s)]) = .nx [some (.int r), some (.int c), some (cellD p), some (.lst (Z.map cellD)), some (.ref m.length), y5, y6, some (.ref (m.length + 1)), z8, some (.int (s : Int)), some (.ref (A ++ Y).length), z11, z12, z13, z14] (MM (A ++ Y) (levK (nearL Z) (Z.length - 1) [(2 ^ s, s)])) := by
    have e : (rng 0 (Z.length - 1)).length = Z.length - 1 := by simp [rng_len']
    rw [e] at T6
    have hi : itemsOf .rng1 [.int ((Z.length : Int) - 1)] (MM A [(2 ^ s, s)]) = some (rng 0 (Z.length - 1)) := by
      rw [range_items _ _ hr1]; congr 2; omega
    generalize MM A [(2 ^ s, s)] = m6 at *
    generalize (A ++ Y).length = q at *
    simp [hi, T6]
  obtain ⟨K, hK⟩ : ∃ K, K = levK (nearL Z) (Z.length - 1) [(2 ^ s, s)] := ⟨_, rfl⟩
  have RK : RNG Z.length K := by rw [hK]; exact levK_rng rfl _ _ ⟨by simp, by simp; exact ⟨Nat.pow_lt_pow_right (by omega) hs, hs⟩⟩
  have Klen := RK.len hl
  have E7 : exec cf (.ret (.prim .sorted [.comp [13, 14] (.tp [.nm 13, .nm 14]) .seq [.dkeys (.var 10)] [] (.idx (.var 3) (.var 14))])) [some (.int r), some (.int c), some (cellD p), some (.lst (Z.map cellD)), some (.ref m.length), y5, y6, some (.ref (m.length + 1)), z8, some (.int (s : Int)), some (.ref (A ++ Y).length), z11, z12, z13, z14] (MM (A ++ Y) K) = .rt (.lst ((endL Z s).map cellD)) (A ++ Y ++ [D.non]) := by
    have L := lock_MM (A ++ Y) K []
    simp only [List.append_nil] at L
    have C : compS cf [some (.int r), some (.int c), some (cellD p), some (.lst (Z.map cellD)), some (.ref m.length), y5, y6, some (.ref (m.length + 1)), z8, some (.int (s : Int)), some (.ref (A ++ Y).length), z11, z12, z13, z14] [13, 14] (.tp [.nm 13, .nm 14]) [] (.idx (.var 3) (.var 14)) (K.map cd) (A ++ Y ++ [D.non]) = .ok ((K.map fun x => Z.getD x.2 (0, 0)).map cellD) (A ++ Y ++ [D.non]) := by
      have ec : K.map cd = (K.map fun x => ((x.1 : Int), (x.2 : Int))).map cellD := by simp [cd]
      rw [ec, compS_cells (fun q => cellD (Z.getD q.2.toNat (0, 0))) ?_ (by simp; omega)]
      · simp
      · intro q hq acc ha
        obtain ⟨x, hx, rfl⟩ := List.mem_map.mp hq
        have hx2 := (RK.2 x hx).2
        have ix : idxR (.lst (Z.map cellD)) (.int (x.2 : Int)) (A ++ Y ++ [D.non]) = .ok (cellD (Z.getD x.2 (0, 0))) (A ++ Y ++ [D.non]) := by
          apply idxR_lst'
          rw [at_map, at_nat, List.getElem?_eq_getElem hx2, List.getD_eq_getElem?_getD, List.getElem?_eq_getElem hx2]; rfl
        generalize A ++ Y ++ [D.non] = m9 at *
        simp [itS, wipeE, bindT, bindTs, cellD, ix, ha]
    have So := sortD_cells (K.map fun x => Z.getD x.2 (0, 0))
    rw [endL, ← hK]
    generalize (K.map fun x => Z.getD x.2 (0, 0)) = M at *
    generalize A ++ Y ++ [D.non] = m9 at *
    generalize (A ++ Y).length = q at *
    simp [L, kvN_keys, C, So]
  have hb : b3 = [.par [3, 4] [.call 2 [.var 0, .var 1], .mut (.lst [])], .for_ (.tp [.nm 5, .nm 6]) .seq [.var 3] [.expr (.meth .append (.var 4) [compN])], .asg (.nm 7) (.mut (.lst [.lit (.int 1)])), .for_ (.nm 8) .rng1 [.prim .len [.var 3]] [.expr (.meth .append (.var 7) [.op .mul (.lit (.int 2)) (.idx (.var 7) (.neg (.lit (.int 1))))])], .asg (.nm 9) (.meth .index (.var 3) [.var 2]), .asg (.nm 10) (.dnew1 (.tup [.idx (.var 7) (.var 9), .var 9]) (.lit (.bl true))), .for_ (.nm 11) .rng1 [.op .sub (.prim .len [.var 3]) (.lit (.int 1))] turnB, .ret (.prim .sorted [.comp [13, 14] (.tp [.nm 13, .nm 14]) .seq [.dkeys (.var 10)] [] (.idx (.var 3) (.var 14))])] := rfl
  rw [← hK] at E6
  have R0 : ∀ b, runFn cf ⟨3, 15, b, false⟩ [.int r, .int c, cellD p] m = finish false m.length (execs cf b [some (.int r), some (.int c), some (cellD p), none, none, none, none, none, none, none, none, none, none, none, none] m) := fun b => rfl
  rw [← hcf, R0, hb]
  rw [execs_cons, E0, thn_nx, execs_cons, E1, thn_nx, execs_cons, E2, thn_nx, execs_cons, E3, thn_nx, execs_cons, E4, thn_nx, execs_cons, E5, thn_nx, execs_cons, E6, thn_nx, execs_cons, E7]
  rw [thn_rt, finish_rt _ _ _ rfl]
  congr 1
  rw [hA]; simp
end K74
end

section
set_option linter.all false
set_option Elab.async false
set_option maxRecDepth 20000
namespace K74
open Py
theorem nearL_ok {Z : List Cell} : Near Z (nearL Z) := by
  intro l hl k
  simp only [nearL, List.getElem?_eq_getElem hl, nearK, List.mem_filter, List.mem_range, nearP]
  constructor
  · rintro ⟨hk, h⟩
    rw [List.getElem?_eq_getElem hk] at h
    simp only at h; rw [← stp_dst] at h
    exact ⟨hk, by simpa [stp] using h⟩
  · rintro ⟨hk, h⟩
    refine ⟨hk, ?_⟩
    rw [List.getElem?_eq_getElem hk]
    simp only
    rw [← stp_dst]
    simpa [stp] using h
theorem size_facts {x : Nat × Nat} (h : x ∈ sizes) : (okN x.1 && okN x.2) = true ∧ x.1 * x.2 ≤ 16 ∧ 1 ≤ x.1 * x.2 ∧ x.1 < 11 ∧ x.2 < 11 := by
  simp only [sizes, List.mem_cons, List.not_mem_nil, or_false] at h
  rcases h with rfl | rfl | rfl | rfl | rfl | rfl | rfl | rfl | rfl | rfl | rfl | rfl | rfl | rfl | rfl | rfl <;> decide
theorem can_has {x : Nat × Nat} (h : x ∈ sizes) {s j : Nat} (hs : s < (cells x.1 x.2).length) (hj : j < (cells x.1 x.2).length) : Can (cells x.1 x.2) (cells x.1 x.2)[j] ((cells x.1 x.2).length - 1) [(cells x.1 x.2)[s]] (cells x.1 x.2)[s] ↔ hasT x.1 x.2 (cells x.1 x.2)[s] (cells x.1 x.2)[j] = true := by
  obtain ⟨hg, h16, h1, hr, hc⟩ := size_facts h
  have gr := grd hg (by exact_mod_cast h16)
  have hl := cells_len x.1 hr x.2 hc
  rw [canM gr.nd (near_ok h hl) _ _ (2 ^ s) s j hs hj]
  · have E := ends_k x h s (by omega)
    simp only [endsS, List.all_eq_true, List.mem_range] at E
    have := E j (by omega)
    rw [List.getElem?_eq_getElem hs, List.getElem?_eq_getElem hj] at this
    simp only [beq_iff_eq] at this
    rw [hl, this]
  · intro i hi
    rw [Nat.testBit_two_pow]
    simp only [List.mem_singleton, decide_eq_true_eq]
    rw [List.getElem_inj gr.nd]; exact eq_comm
theorem mem_ends {x : Nat × Nat} (h : x ∈ sizes) {s j : Nat} (hs : s < (cells x.1 x.2).length) (hj : j < (cells x.1 x.2).length) : (cells x.1 x.2)[j] ∈ endL (cells x.1 x.2) s ↔ hasT x.1 x.2 (cells x.1 x.2)[s] (cells x.1 x.2)[j] = true := by
  obtain ⟨hg, h16, h1, hr, hc⟩ := size_facts h
  have gr := grd hg (by exact_mod_cast h16)
  rw [← can_has h hs hj]
  have RK : RNG (cells x.1 x.2).length (levK (nearL (cells x.1 x.2)) ((cells x.1 x.2).length - 1) [(2 ^ s, s)]) := levK_rng rfl _ _ ⟨by simp, by simp; exact ⟨Nat.pow_lt_pow_right (by omega) hs, hs⟩⟩
  have LE := lev_ends (nearL (cells x.1 x.2)) j ((cells x.1 x.2).length - 1) [(2 ^ s, s)]
  rw [canM gr.nd nearL_ok _ _ (2 ^ s) s j hs hj]
  · simp only [List.mem_singleton, exists_eq_left] at LE
    rw [← LE, endL, List.mem_mergeSort, List.mem_map]
    constructor
    · rintro ⟨y, hy, e⟩
      refine ⟨y, hy, ?_⟩
      have hy2 := (RK.2 y hy).2
      rw [List.getD_eq_getElem?_getD, List.getElem?_eq_getElem hy2] at e
      exact (List.getElem_inj gr.nd).mp e
    · rintro ⟨y, hy, rfl⟩
      exact ⟨y, hy, by rw [List.getD_eq_getElem?_getD, List.getElem?_eq_getElem hj]; rfl⟩
  · intro i hi
    rw [Nat.testBit_two_pow]
    simp only [List.mem_singleton, decide_eq_true_eq]
    rw [List.getElem_inj gr.nd]; exact eq_comm
theorem ends_sub {x : Nat × Nat} (h : x ∈ sizes) {s : Nat} (hs : s < (cells x.1 x.2).length) : ∀ q ∈ endL (cells x.1 x.2) s, q ∈ cells x.1 x.2 := by
  intro q hq
  have RK : RNG (cells x.1 x.2).length (levK (nearL (cells x.1 x.2)) ((cells x.1 x.2).length - 1) [(2 ^ s, s)]) := levK_rng rfl _ _ ⟨by simp, by simp; exact ⟨Nat.pow_lt_pow_right (by omega) hs, hs⟩⟩
  rw [endL, List.mem_mergeSort, List.mem_map] at hq
  obtain ⟨y, hy, rfl⟩ := hq
  have hy2 := (RK.2 y hy).2
  rw [List.getD_eq_getElem?_getD, List.getElem?_eq_getElem hy2]
  exact List.getElem_mem hy2
theorem ends_len {x : Nat × Nat} (h : x ∈ sizes) {s : Nat} (hs : s < (cells x.1 x.2).length) : (endL (cells x.1 x.2) s).length ≤ 1048576 := by
  obtain ⟨hg, h16, h1, hr, hc⟩ := size_facts h
  have hl := cells_len x.1 hr x.2 hc
  have RK : RNG (cells x.1 x.2).length (levK (nearL (cells x.1 x.2)) ((cells x.1 x.2).length - 1) [(2 ^ s, s)]) := levK_rng rfl _ _ ⟨by simp, by simp; exact ⟨Nat.pow_lt_pow_right (by omega) hs, hs⟩⟩
  have := RK.len (by omega)
  simpa [endL] using this
theorem mem_ends' {x : Nat × Nat} (h : x ∈ sizes) {p q : Cell} (hp : p ∈ cells x.1 x.2) (hq : q ∈ cells x.1 x.2) {s : Nat} (hs : s < (cells x.1 x.2).length) (e : (cells x.1 x.2)[s] = p) : q ∈ endL (cells x.1 x.2) s ↔ hasT x.1 x.2 p q = true := by
  obtain ⟨j, hj, rfl⟩ := List.getElem_of_mem hq
  subst e
  exact mem_ends h hs hj
theorem told_some {x : Nat × Nat} (h : x ∈ sizes) {p q : Cell} (hp : p ∈ cells x.1 x.2) (hq : q ∈ cells x.1 x.2) {res : Option (List Cell)} (ht : Told x.1 x.2 p q res) : res.isSome = hasT x.1 x.2 p q := by
  obtain ⟨s, hs, rfl⟩ := List.getElem_of_mem hp
  obtain ⟨j, hj, rfl⟩ := List.getElem_of_mem hq
  cases res with
  | some v => exact (ht.1 v rfl).1.symm
  | none =>
    cases hh : hasT x.1 x.2 (cells x.1 x.2)[s] (cells x.1 x.2)[j]
    · rfl
    · exact absurd ((can_has h hs hj).mpr hh) (ht.2 rfl hh)
end K74
end

section
set_option linter.all false
set_option Elab.async false
set_option maxRecDepth 20000
namespace K74
open Py
open PySem (Str)
/-! ### what is a trail: the program's reading and the law's -/
def ends2 (one other : Cell) (ps : List Cell) : Bool := decide (ps.head? = some one) && decide (ps.getLast? = some other)
theorem f21a (n : Nat) (r c : Int) (one other : Cell) (v : D) (m : Mem) (hg : (okN r && okN c) = true) (h : pl2 v) (ha : areAll r c v = false) : run tbl sub 1000 word (n + 5) 21 [.int r, .int c, cellD one, cellD other, v] m = .ok (.bl false) m := by
  rw [run_tbl (g := ⟨5, 5, b21, false⟩) rfl]
  simp [runFn, b21, f6, hg, f19, h, ha]
theorem head_ix {p : Cell} {ps : List Cell} (m : Mem) : idxR (figD (p :: ps)) (.int 0) m = .ok (cellD p) m := idxR_tup rfl
theorem last_ix {z : Cell} {ps : List Cell} (m : Mem) (h : ps.getLast? = some z) : idxR (figD ps) (.int (-1)) m = .ok (cellD z) m := by
  apply idxR_tup; rw [at_last, List.getLast?_map, h]; rfl
theorem f21b (n : Nat) (r c : Int) (one other : Cell) (p : Cell) (ps : List Cell) (m : Mem) (hg : (okN r && okN c) = true) (ha : areAll r c (figD (p :: ps)) = true) (hl : (p :: ps).length ≤ 100) : run tbl sub 1000 word (n + 5) 21 [.int r, .int c, cellD one, cellD other, figD (p :: ps)] m = .ok (.bl (ends2 one other (p :: ps) && beside (p :: ps))) m := by
  rw [run_tbl (g := ⟨5, 5, b21, false⟩) rfl]
  obtain ⟨z, hz⟩ : ∃ z, (p :: ps).getLast? = some z := by simp [List.getLast?_cons]
  have A := f19 n r c (figD (p :: ps)) m hg (pl2_cells (p :: ps))
  rw [ha] at A
  have H := head_ix (p := p) (ps := ps) m
  have Z := last_ix m hz
  have E1 := eq_cell p one m
  have E2 := eq_cell z other m
  have B := f20 (n + 2) (p :: ps) m (by omega)
  have B' : run tbl sub 1000 word (n + 4) 20 [figD (p :: ps)] m = .ok (.bl (beside (p :: ps))) m := B
  have C := f6 (n + 2) r c m
  simp only [hg, if_true] at C
  have e : ends2 one other (p :: ps) = (decide (p = one) && decide (z = other)) := by simp [ends2, hz]
  rw [e]
  generalize figD (p :: ps) = V at *
  cases h1 : decide (p = one) <;> rw [h1] at E1
  · simp [runFn, b21, C, A, H, E1]
  · cases h2 : decide (z = other) <;> rw [h2] at E2 <;> simp [runFn, b21, C, A, H, E1, Z, E2, B']
/-! ### the law -/
abbrev bodyC : List S := [.iff (.or (.not (.prim .isT [.var 5])) (.or (.op .ne (.prim .len [.var 5]) (.lit (.int 2))) (.op .ne (.comp [6] (.nm 6) .seq [.var 5] [.or (.prim .isB [.var 6]) (.not (.prim .isI [.var 6]))] (.var 6)) (.lst [])))) [.ret (.lit (.bl false))] []]
theorem f16cell (n : Nat) (R C O P X d : D) (m : Mem) (h : pl1 d) :
    (isIC d = false → execs ⟨run tbl sub 1000 word n, sub, 1000, word⟩ bodyC [some R, some C, some O, some P, some X, some d, none, none] m = .rt (.bl false) m) ∧
    (isIC d = true → execs ⟨run tbl sub 1000 word n, sub, 1000, word⟩ bodyC [some R, some C, some O, some P, some X, some d, none, none] m = .nx [some R, some C, some O, some P, some X, some d, none, none] m) := by
  rcases isTup_or d with ⟨ds, rfl⟩ | hd
  · match ds, h with
    | [a, b], h =>
      have ha := h.2 _ rfl a (by simp)
      have hb := h.2 _ rfl b (by simp)
      have K : compS ⟨run tbl sub 1000 word n, sub, 1000, word⟩ [some R, some C, some O, some P, some X, some (.tup [a, b]), none, none] [6] (.nm 6) [.or (.prim .isB [.var 6]) (.not (.prim .isI [.var 6]))] (.var 6) [a, b] m = .ok ([a, b].filter notI) m := by
        rw [compS_filter notI id]
        · simp
        · intro x hx acc hacc
          have hp : plainK x = true := by simp at hx; rcases hx with rfl | rfl <;> assumption
          cases h1 : kindIs .isB x <;> cases h2 : kindIs .isI x <;> simp [itS, wipeE, bindT, pr_isB, pr_isI, hp, h1, h2, notI, hacc, settle_plain m hp]
        · simp
      have E : (isIC (.tup [a, b])) = (List.filter notI [a, b]).isEmpty := by
        cases a <;> first | (simp [plainK] at ha; done) | skip
        all_goals cases b <;> first | (simp [plainK] at hb; done) | simp [isIC, notI, kindIs, List.filter]
      constructor <;> intro hi <;> rw [E] at hi <;> simp [pr_isT, K, opR_ne_nil, hi]
    | [], h => simp [pr_isT, isIC]
    | [a], h => simp [pr_isT, isIC]
    | a :: b :: c :: r, h => simp [pr_isT, isIC, show ((r.length : Int) + 1 + 1 + 1 != 2) = true by simp; omega]
  · have : isIC d = false := by
      unfold isIC; split
      · simp [kindIs] at hd
      · rfl
    simp [pr_isT, h.1, hd, this]
def lawT (r c : Int) (v : D) : Bool := match v with
  | .tup ds => !((ds.length : Int) != r * c) && ds.all isIC
  | _ => false
theorem cellsLoop (n : Nat) (R C O P X : D) (ds : List D) (m : Mem) (h : ∀ d ∈ ds, pl1 d) :
    (ds.all isIC = false → forS ⟨run tbl sub 1000 word n, sub, 1000, word⟩ (.nm 5) bodyC ds [some R, some C, some O, some P, some X, none, none, none] m = .rt (.bl false) m) ∧
    (ds.all isIC = true → ∃ y, forS ⟨run tbl sub 1000 word n, sub, 1000, word⟩ (.nm 5) bodyC ds [some R, some C, some O, some P, some X, none, none, none] m = .nx [some R, some C, some O, some P, some X, y, none, none] m) := by
  have F := forS_find (c := ⟨run tbl sub 1000 word n, sub, 1000, word⟩) (t := .nm 5) (b := bodyC) (fun e => ∃ y, e = [some R, some C, some O, some P, some X, y, none, none]) (fun d => !isIC d) (fun _ => .bl false) m ds (by
            rintro x hx e ⟨y, rfl⟩
            have K := f16cell n R C O P X x m (h x hx)
            refine ⟨_, rfl, fun hp => ?_, fun hp => ?_⟩
            · exact K.1 (by simpa using hp)
            · exact ⟨_, .inl (K.2 (by simpa using hp)), ⟨_, rfl⟩⟩) [some R, some C, some O, some P, some X, none, none, none] ⟨_, rfl⟩
  constructor
  · intro hx
    obtain ⟨x, hx1, hx2⟩ : ∃ x, x ∈ ds ∧ isIC x = false := by simpa using hx
    obtain ⟨z, hz⟩ : ∃ z, ds.find? (fun d => !isIC d) = some z := by
      cases hf : ds.find? (fun d => !isIC d) with
      | some z => exact ⟨z, rfl⟩
      | none => simp at hf; simp [hf x hx1] at hx2
    exact F.1 z hz
  · intro hx
    obtain ⟨e2, F2, y, rfl⟩ := F.2 (by
      rw [List.find?_eq_none]
      intro d hd
      have := List.all_eq_true.mp hx d hd
      simp [this])
    exact ⟨y, F2⟩
theorem f16a (n : Nat) (r c : Int) (one other : Cell) (v : D) (m : Mem) (hg : (okN r && okN c) = true) (h : pl2 v) (hb : lawT r c v = false) : run tbl sub 1000 word (n + 2) 16 [.int r, .int c, cellD one, cellD other, v] m = .ok (.bl false) m := by
  rw [run_tbl (g := ⟨5, 8, b16, false⟩) rfl]
  have h2 := okN_iff.mp hg
  have M : opR .mul (.int r) (.int c) m = .ok (.int (r * c)) m := opR_mul_int m (.inl (small_mk (by omega) (by omega)))
  rcases isTup_or v with ⟨ds, rfl⟩ | hv
  · cases h1 : ((ds.length : Int) != r * c)
    · have hx : ds.all isIC = false := by simpa [lawT, h1] using hb
      have F := (cellsLoop (n + 1) (.int r) (.int c) (cellD one) (cellD other) (.tup ds) ds m (h.2 ds rfl)).1 hx
      simp [runFn, b16, pr_isT, M, h1]
      rw [F]; simp
    · simp [runFn, b16, pr_isT, M, h1]
  · simp [runFn, b16, pr_isT, h.1, hv]
def sd1 (ps : List Cell) (k : Nat) : Int := match ps[k]?, ps[k - 1]? with | some p, some q => dst p q | _, _ => 2
theorem steps1_run (n : Nat) (R C O P : D) (y : Option D) (ps : List Cell) (m : Mem) (hl : ps.length ≤ 100) : ∃ L, compS ⟨run tbl sub 1000 word n, sub, 1000, word⟩ [some R, some C, some O, some P, some (figD ps), y, none, none] [7] (.nm 7) [.op .ne (.op .add (.prim .abs [.op .sub (.idx (.idx (.var 4) (.var 7)) (.lit (.int 0))) (.idx (.idx (.var 4) (.op .sub (.var 7) (.lit (.int 1)))) (.lit (.int 0)))]) (.prim .abs [.op .sub (.idx (.idx (.var 4) (.var 7)) (.lit (.int 1))) (.idx (.idx (.var 4) (.op .sub (.var 7) (.lit (.int 1)))) (.lit (.int 1)))])) (.lit (.int 1))] (.var 7) (rng 1 (ps.length - 1)) m = .ok L m ∧ L.isEmpty = beside ps := by
  refine ⟨_, compS_rng_filter (fun k => sd1 ps k.toNat != 1) (fun k => .int k) ?_ (by omega), ?_⟩
  · intro k k1 k2 acc ha
    obtain ⟨j, rfl⟩ : ∃ j : Nat, k = j + 1 := ⟨(k - 1).toNat, by omega⟩
    have hj : j + 1 < ps.length := by omega
    have a1 : at? (ps.map cellD) ((j : Int) + 1) = some (cellD ps[j + 1]) := by
      rw [at_map, at_nat1, List.getElem?_eq_getElem hj]; rfl
    have a2 : at? (ps.map cellD) (j : Int) = some (cellD ps[j]) := by
      rw [at_map, at_nat, List.getElem?_eq_getElem (by omega)]; rfl
    have e3 : sd1 ps ((j : Int) + 1).toNat = dst ps[j + 1] ps[j] := by
      have : ((j : Int) + 1).toNat = j + 1 := by omega
      rw [this]
      simp only [sd1, List.getElem?_eq_getElem hj, Nat.add_sub_cancel, List.getElem?_eq_getElem (show j < ps.length by omega)]
    have x1 : idxR (figD ps) (.int ((j : Int) + 1)) m = .ok (cellD ps[j + 1]) m := idxR_tup a1
    have x2 : idxR (figD ps) (.int (j : Int)) m = .ok (cellD ps[j]) m := idxR_tup a2
    have p0 := i0 ps[j + 1] m
    have p1 := i1 ps[j + 1] m
    have q0 := i0 ps[j] m
    have q1 := i1 ps[j] m
    rw [e3]
    have hb : bindT (.nm 7) (.int ((j : Int) + 1)) (wipeE [some R, some C, some O, some P, some (figD ps), y, none, none] [7]) = some [some R, some C, some O, some P, some (figD ps), y, none, some (.int ((j : Int) + 1))] := by simp [wipeE, bindT]
    have ej : (j : Int) + 1 - 1 = (j : Int) := by omega
    have T : tests ⟨run tbl sub 1000 word n, sub, 1000, word⟩ [some R, some C, some O, some P, some (figD ps), y, none, some (.int ((j : Int) + 1))] [.op .ne (.op .add (.prim .abs [.op .sub (.idx (.idx (.var 4) (.var 7)) (.lit (.int 0))) (.idx (.idx (.var 4) (.op .sub (.var 7) (.lit (.int 1)))) (.lit (.int 0)))]) (.prim .abs [.op .sub (.idx (.idx (.var 4) (.var 7)) (.lit (.int 1))) (.idx (.idx (.var 4) (.op .sub (.var 7) (.lit (.int 1)))) (.lit (.int 1)))])) (.lit (.int 1))] m = .ok (dst ps[j + 1] ps[j] != 1) m := by
      have d : dst ps[j + 1] ps[j] = (if ps[j + 1].1 - ps[j].1 < 0 then -(ps[j + 1].1 - ps[j].1) else ps[j + 1].1 - ps[j].1) + (if ps[j + 1].2 - ps[j].2 < 0 then -(ps[j + 1].2 - ps[j].2) else ps[j + 1].2 - ps[j].2) := rfl
      rw [d]
      generalize figD ps = V at *
      simp [x1, x2, p0, p1, q0, q1, ej]
      cases h : ((if ps[j + 1].1 - ps[j].1 < 0 then -(ps[j + 1].1 - ps[j].1) else ps[j + 1].1 - ps[j].1) + (if ps[j + 1].2 - ps[j].2 < 0 then -(ps[j + 1].2 - ps[j].2) else ps[j + 1].2 - ps[j].2) != 1) <;> simp [h]
    rw [itS, hb, itB_some, T]
    cases (dst ps[j + 1] ps[j] != 1) <;> simp [ha]
  · rw [Bool.eq_iff_iff]
    simp only [List.isEmpty_iff, List.map_eq_nil_iff, List.filter_eq_nil_iff, List.mem_map, List.mem_range, beside, List.all_eq_true]
    have key : ∀ k, k + 1 < ps.length → ((match ps[k]?, ps[k + 1]? with | some p, some q => stp p q | _, _ => false) = true ↔ sd1 ps (k + 1) = 1) := by
      intro k hk
      rw [List.getElem?_eq_getElem hk, List.getElem?_eq_getElem (show k < ps.length by omega)]
      simp only [stp_dst, sd1, List.getElem?_eq_getElem hk, Nat.add_sub_cancel, List.getElem?_eq_getElem (show k < ps.length by omega)]
      rw [dst_comm]; simp
    constructor
    · intro H k hk
      refine (key k (by omega)).mpr ?_
      have := H (1 + (k : Int)) ⟨k, hk, rfl⟩
      have e : (1 + (k : Int)).toNat = k + 1 := by omega
      rw [e] at this
      simpa using this
    · rintro H a ⟨k, hk, rfl⟩
      have := (key k (by omega)).mp (H k hk)
      have e : (1 + (k : Int)).toNat = k + 1 := by omega
      rw [e, this]; simp
theorem ne_gridL (r c : Int) (ps : List Cell) (m : Mem) : opR .ne (.lst ((ps.mergeSort leP).map cellD)) (.lst ((cells r c).map cellD)) m = .ok (.bl !(inGrid r c ps)) m := by
  have hd : dep (.lst ((cells r c).map cellD)) ≤ dq := by have := deps_cells (cells r c); simp [dep, dq]; omega
  rw [opR_some (op_ne_r m hd rfl rfl)]; simp [eqB, eqBs_cells, inGrid]
theorem f16b (n : Nat) (r c : Int) (one other : Cell) (p : Cell) (ps : List Cell) (m : Mem) (hg : (okN r && okN c) = true) (hb : lawT r c (figD (p :: ps)) = true) (hl : (p :: ps).length ≤ 100) : run tbl sub 1000 word (n + 2) 16 [.int r, .int c, cellD one, cellD other, figD (p :: ps)] m = .ok (.bl (inGrid r c (p :: ps) && (ends2 one other (p :: ps) && beside (p :: ps)))) m := by
  rw [run_tbl (g := ⟨5, 8, b16, false⟩) rfl]
  have h2 := okN_iff.mp hg
  have M : opR .mul (.int r) (.int c) m = .ok (.int (r * c)) m := opR_mul_int m (.inl (small_mk (by omega) (by omega)))
  obtain ⟨z, hz⟩ : ∃ z, (p :: ps).getLast? = some z := by simp [List.getLast?_cons]
  have H := head_ix (p := p) (ps := ps) m
  have Z := last_ix m hz
  have N1 := ne_cell p one m
  have N2 := ne_cell z other m
  have G := f2 n r c m hg
  have NG := ne_gridL r c (p :: ps) m
  have So := sortD_cells (p :: ps)
  have hx : ((p :: ps).map cellD).all isIC = true := by
    rw [List.all_eq_true]; intro d hd; obtain ⟨q, _, rfl⟩ := List.mem_map.mp hd; rfl
  obtain ⟨y, F⟩ := (cellsLoop (n + 1) (.int r) (.int c) (cellD one) (cellD other) (figD (p :: ps)) ((p :: ps).map cellD) m (fun d hd => by
    obtain ⟨q, _, rfl⟩ := List.mem_map.mp hd
    exact ⟨rfl, fun es e x hx => by cases e; simp at hx; rcases hx with rfl | rfl <;> rfl⟩)).2 hx
  obtain ⟨L, S1, S2⟩ := steps1_run (n + 1) (.int r) (.int c) (cellD one) (cellD other) y (p :: ps) m hl
  have E := opR_eq_nil L m
  rw [S2] at E
  have hlen : (((p :: ps).length : Int) != r * c) = false := by
    have := hb
    simp only [lawT, List.length_map, Bool.and_eq_true, Bool.not_eq_true'] at this
    exact this.1
  have isT : kindIs .isT (figD (p :: ps)) = true := rfl
  have LN : lenD m (figD (p :: ps)) = some (p :: ps).length := by simp [lenD]
  have So' : sortSrc m (figD (p :: ps)) = some ((p :: ps).map cellD) := rfl
  have It : itemsOf .seq [figD (p :: ps)] m = some ((p :: ps).map cellD) := rfl
  have pk : plainK (figD (p :: ps)) = true := rfl
  have dr : der m (figD (p :: ps)) = some (figD (p :: ps)) := rfl
  have hr2 : itemsOf .rng2 [.int 1, .int ((p :: ps).length : Int)] m = some (rng 1 ((p :: ps).length - 1)) := by
    rw [range2_items _ _ m (okB_mk (by omega) (by omega)) (okB_mk (by omega) (by omega))]
    congr 2; omega
  have e : ends2 one other (p :: ps) = (decide (p = one) && decide (z = other)) := by simp [ends2, hz]
  rw [e]
  generalize (p :: ps).length = NN' at *
  generalize hV : figD (p :: ps) = V at *
  generalize (p :: ps).map cellD = VL at *
  generalize inGrid r c (p :: ps) = IG at *
  cases IG
  · simp [runFn, b16, pr_isT, dr, pk, isT, LN, M, hlen, It, F, So', So, G, NG]
  · cases h1 : decide (p = one) <;> rw [h1] at N1
    · simp [runFn, b16, pr_isT, dr, pk, isT, LN, M, hlen, It, F, So', So, G, NG, H, N1]
    · cases h2 : decide (z = other) <;> rw [h2] at N2 <;> simp [runFn, b16, pr_isT, dr, pk, isT, LN, M, hlen, It, F, So', So, G, NG, H, N1, Z, N2, hr2, S1, E]
/-- both tell the same -/
theorem same (n k : Nat) (r c : Int) (one other : Cell) (v : D) (m : Mem) (hg : (okN r && okN c) = true) (h : pl2 v) : ∃ b, run tbl sub 1000 word (n + 5) 21 [.int r, .int c, cellD one, cellD other, v] m = .ok (.bl b) m ∧ run tbl sub 1000 word (k + 2) 16 [.int r, .int c, cellD one, cellD other, v] m = .ok (.bl b) m := by
  have h2 := okN_iff.mp hg
  have hrc : r * c ≤ 100 := Int.mul_le_mul (show r ≤ 10 by omega) (show c ≤ 10 by omega) (by omega) (by omega)
  have hrc1 : 1 ≤ r * c := Int.mul_le_mul (show 1 ≤ r by omega) (show 1 ≤ c by omega) (by omega) (by omega)
  cases hL : lawT r c v with
  | true =>
    have : ∃ ps : List (Int × Int), v = .tup (ps.map cellD) := by
      unfold lawT at hL
      split at hL
      · simp only [Bool.and_eq_true] at hL
        obtain ⟨ps, rfl⟩ := isIC_cells (ds := ‹_›) hL.2
        exact ⟨ps, rfl⟩
      · cases hL
    obtain ⟨ps, rfl⟩ := this
    have hL' := hL
    simp [lawT] at hL'
    match ps, hL, hL', h with
    | [], hL, hL', h => simp at hL'; omega
    | p :: ps, hL, hL', h =>
      have hl : (p :: ps).length ≤ 100 := by have := hL'.1; omega
      refine ⟨_, ?_, f16b k r c one other p ps m hg hL hl⟩
      cases hG : inGrid r c (p :: ps)
      · exact f21a n r c one other _ m hg h (by rw [areAll_cells, hG]; simp)
      · rw [f21b n r c one other p ps m hg (by rw [areAll_cells, hG, inGrid_isCell hg hG]; simp; have := hL'.1; simp at this; omega) hl]
        simp
  | false =>
    refine ⟨false, ?_, f16a k r c one other v m hg h hL⟩
    cases ha : areAll r c v with
    | false => exact f21a n r c one other v m hg h ha
    | true =>
      exfalso
      unfold areAll at ha
      split at ha
      · rename_i ds
        simp only [Bool.and_eq_true, decide_eq_true_eq] at ha
        obtain ⟨ps, rfl⟩ := all_cells ha.1.2
        have hx : (ps.map cellD).all isIC = true := by
          rw [List.all_eq_true]; intro d hd; obtain ⟨q, _, rfl⟩ := List.mem_map.mp hd; rfl
        simp only [lawT, hx, ha.1.1] at hL
        simp at hL
      · cases ha
end K74
end

section
set_option linter.all false
set_option Elab.async false
set_option maxRecDepth 20000
namespace K74
open Py
open PySem (Str)
theorem f1 (n : Nat) (ds : List Int) (b : Int) (h : b ≠ 0) (r : Mem) : run tbl sub 1000 word (n + 1) 1 [.ref 0, .int b] (drw ds :: r) = .ok (.int (takeV ds b)) (drw ds.dropLast :: r) := by
  rw [run_tbl (g := ⟨2, 2, takeB, false⟩) rfl, take_run _ ds h]
def okL (A : List D) : Prop := A.length ≤ 100 ∧ ∀ d ∈ A, pl1 d
theorem okL_slL {V : List D} (h : okL V) (a b : Option Int) : okL (sliceL V a b) := ⟨Nat.le_trans (sliceL_len ..) h.1, fun d hd => h.2 d (sliceL_sub _ _ _ d hd)⟩
theorem okL_slR {V : List D} (h : okL V) (a : Option Int) : okL (sliceR V a) := ⟨Nat.le_trans (sliceR_len ..) h.1, fun d hd => h.2 d (sliceR_sub _ _ d hd)⟩
theorem pl2_tup {A : List D} (h : ∀ d ∈ A, pl1 d) : pl2 (.tup A) := ⟨rfl, fun ds e d hd => by cases e; exact h d hd⟩
theorem pl2_lst (A : List D) : pl2 (.lst A) := ⟨rfl, fun ds e => by cases e⟩
def parts (x y : Int) : List D := [.tup [.bl (x == 1), .int y], .lst [.int x, .int y], .non, .tup [.int x, .int y, .int 0], .tup [.int y, .int x]]
theorem parts_pl1 (x y : Int) : ∀ d ∈ parts x y, pl1 d := by
  intro d hd
  simp [parts] at hd
  rcases hd with rfl | rfl | rfl | rfl | rfl <;> refine ⟨rfl, fun es e z hz => ?_⟩ <;> cases e <;> simp at hz <;> rcases hz with rfl | rfl | rfl <;> rfl
theorem at_cells (ps : List (Int × Int)) (k : Int) (h : 0 ≤ k) (h2 : k < ps.length) : ∃ x y, at? (ps.map cellD) k = some (.tup [.int x, .int y]) := by
  obtain ⟨q, rfl⟩ : ∃ q : Nat, k = q := ⟨k.toNat, by omega⟩
  have : q < ps.length := by omega
  exact ⟨(ps[q]).1, (ps[q]).2, by rw [at_map, at_nat, List.getElem?_eq_getElem this]; rfl⟩
theorem f17 (n : Nat) (ds : List Int) (ps : List (Int × Int)) (h0 : 1 ≤ ps.length) (hl : ps.length ≤ 100) : ∃ vs ds', run tbl sub 1000 word (n + 2) 17 [.ref 0, .tup (ps.map cellD)] [drw ds] = .ok (.lst vs) [drw ds'] ∧ vs.length ≤ 20 ∧ ∀ v ∈ vs, pl2 v := by
  rw [run_tbl (g := ⟨2, 10, b17, false⟩) rfl]
  obtain ⟨V, hV⟩ : ∃ V, V = ps.map cellD := ⟨_, rfl⟩
  have oV : okL V := ⟨by rw [hV]; simpa using hl, fun d hd => by
    rw [hV] at hd; obtain ⟨p, _, rfl⟩ := List.mem_map.mp hd
    exact ⟨rfl, fun es e z hz => by cases e; simp at hz; rcases hz with rfl | rfl <;> rfl⟩⟩
  obtain ⟨N, hN⟩ : ∃ N, N = ps.length := ⟨_, rfl⟩
  have hVN : V.length = N := by rw [hV, hN]; simp
  have hN0 : (N : Int) ≠ 0 := by omega
  obtain ⟨k, hk⟩ : ∃ k, k = takeV ds N := ⟨_, rfl⟩
  obtain ⟨j, hj⟩ : ∃ j, j = takeV ds.dropLast N := ⟨_, rfl⟩
  have bk := takeV_bd ds (b := N) (by omega)
  have bj := takeV_bd ds.dropLast (b := N) (by omega)
  rw [← hk] at bk
  rw [← hj] at bj
  have T1 := f1 n ds N hN0 []
  have T2 := f1 n ds.dropLast N hN0 []
  rw [← hk] at T1
  rw [← hj] at T2
  obtain ⟨x, y, hxy⟩ : ∃ x y, at? V k = some (.tup [.int x, .int y]) := by
    rw [hV]; exact at_cells ps k bk.1 (by omega)
  rw [← hV]
  obtain ⟨lo, hlo⟩ : ∃ lo, lo = if j < k then j else k := ⟨_, rfl⟩
  obtain ⟨hi, hhi⟩ : ∃ hi, hi = if j > k then j else k := ⟨_, rfl⟩
  have blo : 0 ≤ lo ∧ lo < N := by rw [hlo]; split <;> omega
  have bhi : 0 ≤ hi ∧ hi < N := by rw [hhi]; split <;> omega
  have sk : small64 k = true := small_mk (by omega) (by omega)
  have sk1 : small64 (k + 1) = true := small_mk (by omega) (by omega)
  have slo : small64 lo = true := small_mk (by omega) (by omega)
  have slo1 : small64 (lo + 1) = true := small_mk (by omega) (by omega)
  have shi : small64 hi = true := small_mk (by omega) (by omega)
  have shi1 : small64 (hi + 1) = true := small_mk (by omega) (by omega)
  obtain ⟨A1, eA1, oA1⟩ : ∃ A, sliceL V none (some 1) = A ∧ okL A := ⟨_, rfl, okL_slL oV ..⟩
  obtain ⟨A2, eA2, oA2⟩ : ∃ A, sliceR V none = A ∧ okL A := ⟨_, rfl, okL_slR oV ..⟩
  obtain ⟨A4, eA4, oA4⟩ : ∃ A, sliceL V none (some k) = A ∧ okL A := ⟨_, rfl, okL_slL oV ..⟩
  obtain ⟨A5, eA5, oA5⟩ : ∃ A, sliceL V none (some (-1)) = A ∧ okL A := ⟨_, rfl, okL_slL oV ..⟩
  obtain ⟨B1, eB1, oB1⟩ : ∃ A, sliceL V none (some lo) = A ∧ okL A := ⟨_, rfl, okL_slL oV ..⟩
  obtain ⟨B2, eB2, oB2⟩ : ∃ A, sliceL V (some hi) (some (hi + 1)) = A ∧ okL A := ⟨_, rfl, okL_slL oV ..⟩
  obtain ⟨B3, eB3, oB3⟩ : ∃ A, sliceL V (some (lo + 1)) (some hi) = A ∧ okL A := ⟨_, rfl, okL_slL oV ..⟩
  obtain ⟨B4, eB4, oB4⟩ : ∃ A, sliceL V (some lo) (some (lo + 1)) = A ∧ okL A := ⟨_, rfl, okL_slL oV ..⟩
  obtain ⟨B5, eB5, oB5⟩ : ∃ A, sliceL V (some (hi + 1)) none = A ∧ okL A := ⟨_, rfl, okL_slL oV ..⟩
  obtain ⟨B6, eB6, oB6⟩ : ∃ A, sliceL V (some lo) (some hi) = A ∧ okL A := ⟨_, rfl, okL_slL oV ..⟩
  obtain ⟨B7, eB7, oB7⟩ : ∃ A, sliceR B6 none = A ∧ okL A := ⟨_, rfl, okL_slR oB6 ..⟩
  obtain ⟨B8, eB8, oB8⟩ : ∃ A, sliceL V (some hi) none = A ∧ okL A := ⟨_, rfl, okL_slL oV ..⟩
  obtain ⟨C1, eC1, oC1⟩ : ∃ A, sliceL V (some (k + 1)) none = A ∧ okL A := ⟨_, rfl, okL_slL oV ..⟩
  have ft : ∀ q : Nat, q ≤ 2000 → fits q = true := fun q hq => fits_le (by omega)
  have l1 := oA1.1; have l2 := oA2.1; have l4 := oA4.1; have l5 := oA5.1
  have m1 := oB1.1; have m2 := oB2.1; have m3 := oB3.1; have m4 := oB4.1; have m5 := oB5.1; have m6 := oB6.1; have m7 := oB7.1; have m8 := oB8.1; have m9 := oC1.1
  have g3 := ft (N + A1.length) (by omega)
  have g4 := ft (B1.length + B2.length) (by omega)
  have g6' := ft (B1.length + (B2.length + B3.length) + B4.length) (by omega)
  have g5 := ft (B1.length + B2.length + B3.length) (by omega)
  have g7' := ft (B1.length + (B2.length + (B3.length + B4.length)) + B5.length) (by omega)
  have g8 := ft (B1.length + B7.length) (by omega)
  have g9 := ft (B1.length + B7.length + B8.length) (by omega)
  have g10 := ft (A4.length + 1) (by omega)
  have g11 := ft (A4.length + 1 + C1.length) (by omega)
  have tail : ∀ (m : Mem) (x7 x8 : D), compS ⟨run tbl sub 1000 word (n + 1), sub, 1000, word⟩ [some (.ref 0), some (.tup V), some (.int k), some (.int j), some (.int lo), some (.int hi), some x7, some x8, some (.ref 1), none] [9] (.nm 9) [] (.op .add (.op .add (.sl (.var 1) none (some (.var 2))) (.tup [.var 9])) (.sl (.var 1) (some (.op .add (.var 2) (.lit (.int 1)))) none)) (parts x y) m = .ok ((parts x y).map fun p => .tup (A4 ++ [p] ++ C1)) m := by
    intro m x7 x8
    apply compS_map
    · intro p hp acc ha
      have hpp := (parts_pl1 x y p hp).1
      simp [itS, wipeE, bindT, sk, sk1, eA4, eC1, settle_plain m hpp, g10, g11, ha]
    · simp [parts]
  obtain ⟨PP, hPP⟩ : ∃ PP, PP = (parts x y).map fun p => D.tup (A4 ++ [p] ++ C1) := ⟨_, rfl⟩
  have hPl : PP.length = 5 := by rw [hPP]; simp [parts]
  have hPpl : ∀ v ∈ PP, pl2 v := by
    intro v hv; rw [hPP] at hv
    obtain ⟨p, hp, rfl⟩ := List.mem_map.mp hv
    refine pl2_tup fun d hd => ?_
    simp at hd
    rcases hd with hd | rfl | hd
    · exact oA4.2 d hd
    · exact parts_pl1 x y d hp
    · exact oC1.2 d hd
  rw [← hPP] at tail
  simp only [parts] at tail
  have q : ∀ A B : List D, okL A → okL B → pl2 (.tup (A ++ B)) := fun A B a b => pl2_tup fun d hd => by
    rcases List.mem_append.mp hd with h | h
    · exact a.2 d h
    · exact b.2 d h
  have base : ∀ v ∈ [D.tup V, .tup A2, .lst V, .tup A5, .tup (V ++ A1), .non, .tup [], .str "trail", .tup (B1 ++ (B7 ++ B8))], pl2 v := by
    intro v hv
    simp only [List.mem_cons, List.not_mem_nil, or_false] at hv
    rcases hv with rfl | rfl | rfl | rfl | rfl | rfl | rfl | rfl | rfl
    · exact pl2_tup oV.2
    · exact pl2_tup oA2.2
    · exact pl2_lst _
    · exact pl2_tup oA5.2
    · exact q _ _ oV oA1
    · exact ⟨rfl, fun ds e => by cases e⟩
    · exact pl2_tup (by simp)
    · exact ⟨rfl, fun ds e => by cases e⟩
    · refine pl2_tup fun d hd => ?_
      simp only [List.mem_append] at hd
      rcases hd with h | h | h
      · exact oB1.2 d h
      · exact oB7.2 d h
      · exact oB8.2 d h
  have pb : ∀ (x7 x8 : Option D) (m : Mem), parO [4, 5] [.int lo, .int hi] [some (.ref 0), some (.tup V), some (.int k), some (.int j), none, none, x7, x8, none, none] m = .nx [some (.ref 0), some (.tup V), some (.int k), some (.int j), some (.int lo), some (.int hi), x7, x8, none, none] m := fun x7 x8 m => by simp [parO, bindTs, bindT]
  by_cases hlh : lo < hi
  · refine ⟨[D.tup V, .tup A2, .lst V, .tup A5, .tup (V ++ A1), .non, .tup [], .str "trail", .tup (B1 ++ (B7 ++ B8))] ++ [.tup (B1 ++ (B2 ++ (B3 ++ (B4 ++ B5))))] ++ PP, ds.dropLast.dropLast, ?_, by simp [hPl], ?_⟩
    · simp [runFn, b17, hVN, T1, T2, asgO, bindT, bindTs, ← hlo, ← hhi, eA1, eA2, eA5, g3, sk, hlh, slo, slo1, shi, shi1, eB1, eB2, eB3, eB4, eB5, eB6, eB7, eB8, g4, g5, g6', g7', g8, g9, der, idxR_tup hxy, tail, hPl]
    · intro v hv
      rcases List.mem_append.mp hv with hv | hv
      · rcases List.mem_append.mp hv with hv | hv
        · exact base v hv
        · simp only [List.mem_cons, List.not_mem_nil, or_false] at hv
          subst hv
          refine pl2_tup fun d hd => ?_
          simp only [List.mem_append] at hd
          rcases hd with h | h | h | h | h
          · exact oB1.2 d h
          · exact oB2.2 d h
          · exact oB3.2 d h
          · exact oB4.2 d h
          · exact oB5.2 d h
      · exact hPpl v hv
  · refine ⟨[D.tup V, .tup A2, .lst V, .tup A5, .tup (V ++ A1), .non, .tup [], .str "trail", .tup (B1 ++ (B7 ++ B8))] ++ PP, ds.dropLast.dropLast, ?_, by simp [hPl], ?_⟩
    · simp [runFn, b17, hVN, T1, T2, asgO, bindT, bindTs, ← hlo, ← hhi, eA1, eA2, eA5, g3, sk, hlh, slo, slo1, shi, shi1, eB1, eB6, eB7, eB8, g8, g9, der, idxR_tup hxy, tail, hPl]
    · intro v hv
      rcases List.mem_append.mp hv with hv | hv
      · exact base v hv
      · exact hPpl v hv
end K74
end

section
set_option linter.all false
set_option Elab.async false
set_option maxRecDepth 20000
namespace K74
open Py
open PySem (Str)
theorem f4 (n : Nat) (b : Bool) (m : Mem) : run tbl sub 1000 word (n + 1) 4 [.bl b, .bl b] m = .ok (.bl true) m := by
  have := alike_run (tbl := tbl) (sub := sub) (W := 1000) (word := word) (f := 4) rfl m 0 n (.bl b) (.bl b) rfl rfl (by simp [dep])
  rw [this]; simp [alk]
noncomputable abbrev cc : Cfg := ⟨run tbl sub 1000 word 28, sub, 1000, word⟩
def sizesD : List D := sizes.map fun x => .tup [.int (x.1 : Int), .int (x.2 : Int)]
def z0 : S := .asg (.nm 1) (.lst [.tup [.lit (.int 1), .lit (.int 5)], .tup [.lit (.int 2), .lit (.int 2)], .tup [.lit (.int 2), .lit (.int 3)], .tup [.lit (.int 2), .lit (.int 5)], .tup [.lit (.int 2), .lit (.int 7)], .tup [.lit (.int 3), .lit (.int 3)], .tup [.lit (.int 3), .lit (.int 4)], .tup [.lit (.int 3), .lit (.int 5)], .tup [.lit (.int 4), .lit (.int 4)], .tup [.lit (.int 5), .lit (.int 3)], .tup [.lit (.int 4), .lit (.int 3)], .tup [.lit (.int 7), .lit (.int 2)], .tup [.lit (.int 6), .lit (.int 1)], .tup [.lit (.int 1), .lit (.int 1)], .tup [.lit (.int 1), .lit (.int 2)], .tup [.lit (.int 2), .lit (.int 8)]])
def z1 : S := .asg (.tp [.nm 2, .nm 3]) (.idx (.var 1) (.call 1 [.var 0, .lit (.int 16)]))
def z2 : S := .asg (.nm 4) (.call 2 [.var 2, .var 3])
def z3 : S := .asg (.nm 5) (.idx (.var 4) (.call 1 [.var 0, .prim .len [.var 4]]))
def z4 : S := .asg (.nm 6) (.call 3 [.var 2, .var 3, .var 5])
def z5b : List S := [.asg (.nm 8) (.and (.op .in_ (.var 7) (.var 6)) (.or (.op .ne (.var 7) (.var 5)) (.op .eq (.prim .len [.var 4]) (.lit (.int 1))))), .iff (.not (.call 4 [.call 15 [.lit (.int 0), .var 2, .var 3, .var 5, .var 7], .var 8])) [.ret (.lit (.bl false))] []]
def z5 : S := .for_ (.nm 7) .seq [.var 4] z5b
def z6 : S := .asg (.nm 7) (.ite (.op .le (.op .add (.prim .len [.var 6]) (.lit (.int 2))) (.op .add (.prim .len [.var 6]) (.prim .len [.var 4]))) (.idx (.op .add (.var 6) (.var 4)) (.call 1 [.var 0, .op .add (.prim .len [.var 6]) (.lit (.int 2))])) (.idx (.var 4) (.lit (.int 0))))
def z7 : S := .asg (.nm 9) (.call 15 [.lit (.int 1), .var 2, .var 3, .var 5, .var 7])
def z8 : S := .iff (.or (.op .ne (.op .isnot (.var 9) (.lit .non)) (.op .in_ (.var 7) (.var 6))) (.and (.op .isnot (.var 9) (.lit .non)) (.not (.call 16 [.var 2, .var 3, .var 5, .var 7, .var 9])))) [.ret (.lit (.bl false))] []
def z9b : List S := [.iff (.not (.call 4 [.call 21 [.var 2, .var 3, .var 5, .var 7, .var 10], .call 16 [.var 2, .var 3, .var 5, .var 7, .var 10]])) [.ret (.lit (.bl false))] []]
def z9 : S := .for_ (.nm 10) .seq [.call 17 [.var 0, .ite (.op .isnot (.var 9) (.lit .non)) (.var 9) (.prim .tuple [.var 4])]] z9b
def z10 : S := .ret (.and (.op .eq (.comp [11] (.nm 11) .rng1 [.lit (.int 2)] [] (.call 15 [.var 11, .var 2, .var 3, .var 5, .tup [.var 2, .lit (.int 0)]])) (.op .mul (.lst [.lit (.str "none")]) (.lit (.int 2)))) (.op .eq (.call 15 [.lit (.int 0), .var 2, .var 3, .tup [.lit (.int 0), .var 3], .var 5]) (.lit (.str "none"))))
theorem b22_eq : b22 = [z0, z1, z2, z3, z4, z5, z6, z7, z8, z9, z10] := rfl
theorem ez0 (x0 : Option D) (m : Mem) : exec cc z0 [x0, none, none, none, none, none, none, none, none, none, none, none] m = .nx [x0, some (.lst sizesD), none, none, none, none, none, none, none, none, none, none] m := by
  simp [z0, sizesD, sizes]
theorem at_sizes (k : Int) (h : 0 ≤ k) (h2 : k < 16) : ∃ x ∈ sizes, at? sizesD k = some (.tup [.int (x.1 : Int), .int (x.2 : Int)]) := by
  obtain ⟨q, rfl⟩ : ∃ q : Nat, k = q := ⟨k.toNat, by omega⟩
  have hq : q < sizes.length := by have : sizes.length = 16 := rfl; omega
  exact ⟨sizes[q], List.getElem_mem hq, by rw [sizesD, at_map, at_nat, List.getElem?_eq_getElem hq]; rfl⟩
theorem ez1 (ds : List Int) : ∃ x ∈ sizes, exec cc z1 [some (.ref 0), some (.lst sizesD), none, none, none, none, none, none, none, none, none, none] [drw ds] = .nx [some (.ref 0), some (.lst sizesD), some (.int (x.1 : Int)), some (.int (x.2 : Int)), none, none, none, none, none, none, none, none] [drw ds.dropLast] := by
  have b := takeV_bd ds (b := 16) (by omega)
  obtain ⟨x, hx, h⟩ := at_sizes (takeV ds 16) b.1 b.2
  refine ⟨x, hx, ?_⟩
  have T := f1 27 ds 16 (by omega) []
  have I := idxR_lst' (m := [drw ds.dropLast]) h
  generalize sizesD = W at *
  simp [z1, T, I, asgO, bindT, bindTs]
theorem ez2 (x0 x1 : Option D) (r c : Int) (m : Mem) (hg : (okN r && okN c) = true) : exec cc z2 [x0, x1, some (.int r), some (.int c), none, none, none, none, none, none, none, none] m = .nx [x0, x1, some (.int r), some (.int c), some (.lst ((cells r c).map cellD)), none, none, none, none, none, none, none] m := by
  have F := f2 27 r c m hg
  simp [z2, F]
theorem ez3 (x1 x2 x3 : Option D) (Z : List Cell) (ds : List Int) (hZ : 1 ≤ Z.length) : ∃ s, ∃ hs : s < Z.length, exec cc z3 [some (.ref 0), x1, x2, x3, some (.lst (Z.map cellD)), none, none, none, none, none, none, none] [drw ds] = .nx [some (.ref 0), x1, x2, x3, some (.lst (Z.map cellD)), some (cellD Z[s]), none, none, none, none, none, none] [drw ds.dropLast] := by
  have b := takeV_bd ds (b := Z.length) (by omega)
  have T := f1 27 ds Z.length (by omega) []
  obtain ⟨k, hk⟩ : ∃ k : Nat, takeV ds Z.length = k := ⟨(takeV ds Z.length).toNat, by omega⟩
  rw [hk] at b T
  have hkl : k < Z.length := by omega
  refine ⟨k, hkl, ?_⟩
  have h : at? (Z.map cellD) (k : Int) = some (cellD Z[k]) := by
    rw [at_map, at_nat, List.getElem?_eq_getElem hkl]; rfl
  have I := idxR_lst' (m := [drw ds.dropLast]) h
  simp [z3, T, I]
theorem ez4 (x0 x1 : Option D) (r c : Int) (s : Nat) (m : Mem) (hg : (okN r && okN c) = true) (h16 : r * c ≤ 16) (hs : s < (cells r c).length) : exec cc z4 [x0, x1, some (.int r), some (.int c), some (.lst ((cells r c).map cellD)), some (cellD (cells r c)[s]), none, none, none, none, none, none] m = .nx [x0, x1, some (.int r), some (.int c), some (.lst ((cells r c).map cellD)), some (cellD (cells r c)[s]), some (.lst ((endL (cells r c) s).map cellD)), none, none, none, none, none] m := by
  have F := f3 26 r c s m hg h16 hs
  simp [z4, F]
theorem ez5 (x0 x1 : Option D) {x : Nat × Nat} (hx : x ∈ sizes) (s : Nat) (hs : s < (cells x.1 x.2).length) (m : Mem) : ∃ y7 y8, exec cc z5 [x0, x1, some (.int (x.1 : Int)), some (.int (x.2 : Int)), some (.lst ((cells x.1 x.2).map cellD)), some (cellD (cells x.1 x.2)[s]), some (.lst ((endL (cells x.1 x.2) s).map cellD)), none, none, none, none, none] m = .nx [x0, x1, some (.int (x.1 : Int)), some (.int (x.2 : Int)), some (.lst ((cells x.1 x.2).map cellD)), some (cellD (cells x.1 x.2)[s]), some (.lst ((endL (cells x.1 x.2) s).map cellD)), y7, y8, none, none, none] m := by
  obtain ⟨hg, h16, h1, hr, hc⟩ := size_facts hx
  have hp : (cells x.1 x.2)[s] ∈ cells x.1 x.2 := List.getElem_mem hs
  have ME : ∀ q ∈ cells x.1 x.2, (q ∈ endL (cells x.1 x.2) s ↔ hasT x.1 x.2 (cells x.1 x.2)[s] q = true) := fun q hq => mem_ends' hx hp hq hs rfl
  have HP : hasT x.1 x.2 (cells x.1 x.2)[s] (cells x.1 x.2)[s] = decide ((x.1 : Int) * x.2 = 1) := by simp [hasT]
  have LI := cells_lenI hg
  generalize (cells x.1 x.2)[s] = p at *
  generalize endL (cells x.1 x.2) s = E at *
  obtain ⟨e2, m2, F, ⟨y7, y8, he⟩, hm⟩ := forS_inv (c := cc) (t := .nm 7) (b := z5b) (fun e m' => (∃ y7 y8, e = [x0, x1, some (.int (x.1 : Int)), some (.int (x.2 : Int)), some (.lst ((cells x.1 x.2).map cellD)), some (cellD p), some (.lst (E.map cellD)), y7, y8, none, none, none]) ∧ m' = m) ((cells x.1 x.2).map cellD) (by
    rintro d hd e m' ⟨⟨y7, y8, rfl⟩, rfl⟩
    obtain ⟨q, hq, rfl⟩ := List.mem_map.mp hd
    refine ⟨[x0, x1, some (.int (x.1 : Int)), some (.int (x.2 : Int)), some (.lst ((cells x.1 x.2).map cellD)), some (cellD p), some (.lst (E.map cellD)), some (cellD q), y8, none, none, none], by simp [bindT], [x0, x1, some (.int (x.1 : Int)), some (.int (x.2 : Int)), some (.lst ((cells x.1 x.2).map cellD)), some (cellD p), some (.lst (E.map cellD)), some (cellD q), some (.bl (hasT x.1 x.2 p q)), none, none, none], m', .inl ?_, ⟨_, _, rfl⟩, rfl⟩
    have H := f15 23 x.1 x.2 p q m' hg hp hq
    have I := in_lst q E m'
    have N := ne_cell q p m'
    have A := f4 27 (hasT x.1 x.2 p q) m'
    have LN : lenD m' (.lst ((cells x.1 x.2).map cellD)) = some (cells x.1 x.2).length := by simp [lenD]
    have me := ME q hq
    cases hh : hasT x.1 x.2 p q <;> rw [hh] at H A me
    · have : decide (q ∈ E) = false := by simpa using me
      rw [this] at I
      simp [z5b, I, H, A]
    · have : decide (q ∈ E) = true := by simpa using me
      rw [this] at I
      by_cases hqp : q = p
      · subst hqp
        rw [HP] at hh
        have l1 : (((cells x.1 x.2).length : Int) == 1) = true := by rw [LI]; simpa using hh
        simp only [decide_true, Bool.not_true] at N
        simp [z5b, I, N, LN, l1, H, A]
      · simp only [hqp, decide_false, Bool.not_false] at N
        simp [z5b, I, N, H, A]) _ m ⟨⟨none, none, rfl⟩, rfl⟩
  subst he hm
  refine ⟨y7, y8, ?_⟩
  simp [z5, F]
theorem ez6 (x1 x2 x3 x5 y7 y8 : Option D) (Z E : List Cell) (ds : List Int) (hZ : 1 ≤ Z.length) (hl : Z.length ≤ 100) (hE : E.length ≤ 1048576) (hs : ∀ q ∈ E, q ∈ Z) : ∃ q ds', q ∈ Z ∧ exec cc z6 [some (.ref 0), x1, x2, x3, some (.lst (Z.map cellD)), x5, some (.lst (E.map cellD)), y7, y8, none, none, none] [drw ds] = .nx [some (.ref 0), x1, x2, x3, some (.lst (Z.map cellD)), x5, some (.lst (E.map cellD)), some (cellD q), y8, none, none, none] [drw ds'] := by
  by_cases h : (E.length : Int) + 2 ≤ (E.length : Int) + Z.length
  · have b := takeV_bd ds (b := (E.length : Int) + 2) (by omega)
    have T := f1 27 ds ((E.length : Int) + 2) (by omega) []
    obtain ⟨k, hk⟩ : ∃ k : Nat, takeV ds ((E.length : Int) + 2) = k := ⟨(takeV ds ((E.length : Int) + 2)).toNat, by omega⟩
    rw [hk] at b T
    have hkl : k < (E ++ Z).length := by rw [List.length_append]; omega
    refine ⟨(E ++ Z)[k], ds.dropLast, ?_, ?_⟩
    · have := List.getElem_mem hkl
      rcases List.mem_append.mp this with h | h
      · exact hs _ h
      · exact h
    · have ix : at? ((E ++ Z).map cellD) (k : Int) = some (cellD (E ++ Z)[k]) := by
        rw [at_map, at_nat, List.getElem?_eq_getElem hkl]; rfl
      have hf : fits ((E.map cellD).length + (Z.map cellD).length) = true := fits_le (by simp; omega)
      have A : ∀ m, opR .add (.lst (E.map cellD)) (.lst (Z.map cellD)) m = .ok (.lst ((E ++ Z).map cellD)) m := fun m => by rw [opR_add_lst m hf, List.map_append]
      have I := idxR_lst' (m := [drw ds.dropLast]) ix
      generalize (E ++ Z)[k] = q at *
      generalize (E ++ Z).map cellD = W at *
      have hz : (2 : Int) ≤ (Z.length : Int) := by omega
      simp [z6, A, T, I, hz]
  · have h1 : Z.length = 1 := by omega
    obtain ⟨a, rfl⟩ : ∃ a, Z = [a] := List.length_eq_one_iff.mp h1
    have I : idxR (.lst ([a].map cellD)) (.int 0) [drw ds] = .ok (cellD a) [drw ds] := idxR_lst' rfl
    refine ⟨a, ds, by simp, ?_⟩
    simp at I
    simp [z6, I]
theorem ez7 (x0 x1 x4 x6 y8 : Option D) (r c : Int) (p q : Cell) (m : Mem) (hg : (okN r && okN c) = true) (h16 : r * c ≤ 16) (hp : p ∈ cells r c) (hq : q ∈ cells r c) : ∃ res, Told r c p q res ∧ exec cc z7 [x0, x1, some (.int r), some (.int c), x4, some (cellD p), x6, some (cellD q), y8, none, none, none] m = .nx [x0, x1, some (.int r), some (.int c), x4, some (cellD p), x6, some (cellD q), y8, some (optW res), none, none] m := by
  obtain ⟨res, k1, k2⟩ := f15t 7 r c p q m hg hp hq h16
  refine ⟨res, k2, ?_⟩
  simp [z7, k1]
theorem optW_non (res : Option (List Cell)) (m : Mem) : opR .isnot (optW res) .non m = .ok (.bl res.isSome) m := by
  cases res with
  | none => rfl
  | some v => exact opR_isnot_non m rfl
theorem told_law {r c : Int} {p q : Cell} {v : List Cell} (n : Nat) (m : Mem) (hg : (okN r && okN c) = true) (h16 : r * c ≤ 16) (hw : Way (cells r c) v q) (hl : v.length = (cells r c).length) (hh : v.head? = some p) : run tbl sub 1000 word (n + 2) 16 [.int r, .int c, cellD p, cellD q, figD v] m = .ok (.bl true) m := by
  have gr := grd hg h16
  have LI := cells_lenI hg
  have hz := gr.len
  cases v with
  | nil => simp at hh
  | cons a v =>
    have hin : inGrid r c (a :: v) = true := by
      simp only [inGrid, decide_eq_true_eq]
      rw [sort_filter gr hw.nd hw.sub]
      apply List.filter_eq_self.mpr
      intro x hx
      simp only [decide_eq_true_eq]
      by_cases hxv : x ∈ a :: v
      · exact hxv
      · exfalso
        have := sub_len (q := x :: a :: v) (F := cells r c) (List.nodup_cons.mpr ⟨hxv, hw.nd⟩) (fun y hy => by
          rcases List.mem_cons.mp hy with rfl | hy
          · exact hx
          · exact hw.sub y hy)
        simp only [List.length_cons] at this hl
        omega
    have hT : lawT r c (figD (a :: v)) = true := by
      have hx : ((a :: v).map cellD).all isIC = true := by
        rw [List.all_eq_true]; intro d hd; obtain ⟨q, _, rfl⟩ := List.mem_map.mp hd; rfl
      simp only [lawT, hx, List.length_map, hl, LI]
      simp
    rw [f16b n r c p q a v m hg hT (by rw [hl]; omega), hin, hw.bes]
    have : ends2 p q (a :: v) = true := by
      simp only [ends2, hh, hw.last, decide_true, Bool.and_self]
    rw [this]; rfl
theorem ez8 (x0 x1 x4 y8 : Option D) (r c : Int) (p q : Cell) (E : List Cell) (res : Option (List Cell)) (m : Mem) (hg : (okN r && okN c) = true) (h16 : r * c ≤ 16) (ht : Told r c p q res) (he : res.isSome = decide (q ∈ E)) : exec cc z8 [x0, x1, some (.int r), some (.int c), x4, some (cellD p), some (.lst (E.map cellD)), some (cellD q), y8, some (optW res), none, none] m = .nx [x0, x1, some (.int r), some (.int c), x4, some (cellD p), some (.lst (E.map cellD)), some (cellD q), y8, some (optW res), none, none] m := by
  have N := optW_non res m
  have I := in_lst q E m
  rw [← he] at I
  cases res with
  | none =>
    simp only [Option.isSome_none] at N I
    simp [z8, N, I]
  | some v =>
    obtain ⟨_, h1, h2, h3⟩ := ht.1 v rfl
    have L := told_law 26 m hg h16 h1 h2 h3
    simp only [optW, Option.isSome_some] at N I ⊢
    generalize figD v = V at *
    simp [z8, N, I, L]
theorem ez9 (x1 x6 y8 : Option D) (r c : Int) (p q : Cell) (res : Option (List Cell)) (ds : List Int) (hg : (okN r && okN c) = true) (h16 : r * c ≤ 16) (hp : p ∈ cells r c) (ht : Told r c p q res) : ∃ y10 ds', exec cc z9 [some (.ref 0), x1, some (.int r), some (.int c), some (.lst ((cells r c).map cellD)), some (cellD p), x6, some (cellD q), y8, some (optW res), none, none] [drw ds] = .nx [some (.ref 0), x1, some (.int r), some (.int c), some (.lst ((cells r c).map cellD)), some (cellD p), x6, some (cellD q), y8, some (optW res), y10, none] [drw ds'] := by
  have gr := grd hg h16
  have hz := gr.len
  have pos : 1 ≤ (cells r c).length := List.length_pos_of_mem hp
  obtain ⟨w, hw1, hw2, hw3⟩ : ∃ w : List Cell, 1 ≤ w.length ∧ w.length ≤ 100 ∧ w = res.getD (cells r c) := ⟨_, by
    cases res with
    | none => exact pos
    | some v => obtain ⟨_, _, h2, _⟩ := ht.1 v rfl; simp only [Option.getD_some]; omega, by
    cases res with
    | none => simp only [Option.getD_none]; omega
    | some v => obtain ⟨_, _, h2, _⟩ := ht.1 v rfl; simp only [Option.getD_some]; omega, rfl⟩
  obtain ⟨vs, ds', F, _, hvs⟩ := f17 26 ds w hw1 hw2
  have N := optW_non res [drw ds]
  obtain ⟨e2, m2, L, ⟨y10, he⟩, hm⟩ := forS_inv (c := cc) (t := .nm 10) (b := z9b) (fun e m' => (∃ y10, e = [some (.ref 0), x1, some (.int r), some (.int c), some (.lst ((cells r c).map cellD)), some (cellD p), x6, some (cellD q), y8, some (optW res), y10, none]) ∧ m' = [drw ds']) vs (by
    rintro v hv e m' ⟨⟨y10, rfl⟩, rfl⟩
    obtain ⟨b, h1, h2⟩ := same 23 26 r c p q v [drw ds'] hg (hvs v hv)
    have A := f4 27 b [drw ds']
    refine ⟨_, rfl, _, _, .inl ?_, ⟨some v, rfl⟩, rfl⟩
    simp [z9b, h1, h2, A]) _ [drw ds'] ⟨⟨none, rfl⟩, rfl⟩
  subst he hm
  refine ⟨y10, ds', ?_⟩
  have V : ev cc [some (.ref 0), x1, some (.int r), some (.int c), some (.lst ((cells r c).map cellD)), some (cellD p), x6, some (cellD q), y8, some (optW res), none, none] (.ite (.op .isnot (.var 9) (.lit .non)) (.var 9) (.prim .tuple [.var 4])) [drw ds] = .ok (.tup (w.map cellD)) [drw ds] := by
    rw [hw3]
    cases res with
    | none =>
      simp only [Option.isSome_none] at N
      simp [N]
    | some v =>
      simp only [optW, Option.isSome_some] at N ⊢
      simp [N]
  have E : evs cc [some (.ref 0), x1, some (.int r), some (.int c), some (.lst ((cells r c).map cellD)), some (cellD p), x6, some (cellD q), y8, some (optW res), none, none] [.call 17 [.var 0, .ite (.op .isnot (.var 9) (.lit .non)) (.var 9) (.prim .tuple [.var 4])]] [drw ds] = .ok [.lst vs] [drw ds'] := by
    simp only [evs_cons, evs_nil, ev_call, ev_var, slot_zero, kEvs1_ok, V, kEvs2_ok, kCall_ok, F]
  simp only [z9, exec_for, E]
  simp [L]
theorem ez10 (x0 x1 x4 x6 x7 y8 y9 y10 : Option D) (r c : Int) (p : Cell) (m : Mem) (hg : (okN r && okN c) = true) (hp : p ∈ cells r c) : exec cc z10 [x0, x1, some (.int r), some (.int c), x4, some (cellD p), x6, x7, y8, y9, y10, none] m = .rt (.bl true) m := by
  have hr : ((r, 0) : Cell) ∉ cells r c := fun h => by have := (mem_cells.mp h).1; simp at this
  have hc : ((0, c) : Cell) ∉ cells r c := fun h => by have := (mem_cells.mp h).2; simp at this
  have C := compS_rng (c := cc) (e := [x0, x1, some (.int r), some (.int c), x4, some (cellD p), x6, x7, y8, y9, y10, none]) (own := [11]) (t := .nm 11) (ifs := []) (el := .call 15 [.var 11, .var 2, .var 3, .var 5, .tup [.var 2, .lit (.int 0)]]) (m := m) (fun _ => .str "none") (a := 0) (n := 2) (by
    intro k h1 h2 acc ha
    obtain ⟨j, rfl⟩ : ∃ j : Nat, k = j := ⟨k.toNat, by omega⟩
    have X := f15x 22 j (by omega) r c p (r, 0) m hg (.inr hr)
    have X' : run tbl sub 1000 word 28 15 [.int (j : Int), .int r, .int c, cellD p, .tup [.int r, .int 0]] m = .ok (.str "none") m := X
    simp [itS, wipeE, bindT, X', ha]) (by omega)
  have E : (List.range 2).map (fun (_ : Nat) => D.str "none") = repL 2 [D.str "none"] := rfl
  simp only [E] at C
  have Mu : opR .mul (.lst [.str "none"]) (.int 2) m = .ok (.lst (repL 2 [.str "none"])) m := rfl
  have Eq : opR .eq (.lst (repL 2 [.str "none"])) (.lst (repL 2 [.str "none"])) m = .ok (.bl true) m := by
    rw [opR_some (op_eq_l m (by decide) rfl rfl)]
    rfl
  have X0 := f15x 22 0 (by omega) r c (0, c) p m hg (.inl hc)
  have X0' : run tbl sub 1000 word 28 15 [.int 0, .int r, .int c, .tup [.int 0, .int c], cellD p] m = .ok (.str "none") m := X0
  simp [z10, range_lit 2 2 _ rfl rfl, C, Mu, Eq, X0']
theorem small_ok (ds : List Int) : ∃ ds', run tbl sub 1000 word 29 22 [.ref 0] [drw ds] = .ok (.bl true) [drw ds'] := by
  obtain ⟨x, hx, h1⟩ := ez1 ds
  obtain ⟨hg, h16', hp1, hr, hc⟩ := size_facts hx
  have h16 : (x.1 : Int) * x.2 ≤ 16 := by exact_mod_cast h16'
  have hl := cells_len x.1 hr x.2 hc
  have h2 := ez2 (some (.ref 0)) (some (.lst sizesD)) x.1 x.2 [drw ds.dropLast] hg
  obtain ⟨s, hs, h3⟩ := ez3 (some (.lst sizesD)) (some (.int (x.1 : Int))) (some (.int (x.2 : Int))) (cells x.1 x.2) ds.dropLast (by omega)
  have h4 := ez4 (some (.ref 0)) (some (.lst sizesD)) x.1 x.2 s [drw ds.dropLast.dropLast] hg h16 hs
  obtain ⟨y7, y8, h5⟩ := ez5 (some (.ref 0)) (some (.lst sizesD)) hx s hs [drw ds.dropLast.dropLast]
  have hp : (cells x.1 x.2)[s] ∈ cells x.1 x.2 := List.getElem_mem hs
  obtain ⟨q, ds1, hq, h6⟩ := ez6 (some (.lst sizesD)) (some (.int (x.1 : Int))) (some (.int (x.2 : Int))) (some (cellD (cells x.1 x.2)[s])) y7 y8 (cells x.1 x.2) (endL (cells x.1 x.2) s) ds.dropLast.dropLast (by omega) (by omega) (ends_len hx hs) (ends_sub hx hs)
  obtain ⟨res, ht, h7⟩ := ez7 (some (.ref 0)) (some (.lst sizesD)) (some (.lst ((cells x.1 x.2).map cellD))) (some (.lst ((endL (cells x.1 x.2) s).map cellD))) y8 x.1 x.2 (cells x.1 x.2)[s] q [drw ds1] hg h16 hp hq
  have he : res.isSome = decide (q ∈ endL (cells x.1 x.2) s) := by
    rw [told_some hx hp hq ht, Bool.eq_iff_iff, ← mem_ends' hx hp hq hs rfl]; simp
  have h8 := ez8 (some (.ref 0)) (some (.lst sizesD)) (some (.lst ((cells x.1 x.2).map cellD))) y8 x.1 x.2 (cells x.1 x.2)[s] q (endL (cells x.1 x.2) s) res [drw ds1] hg h16 ht he
  obtain ⟨y10, ds2, h9⟩ := ez9 (some (.lst sizesD)) (some (.lst ((endL (cells x.1 x.2) s).map cellD))) y8 x.1 x.2 (cells x.1 x.2)[s] q res ds1 hg h16 hp ht
  have h10 := ez10 (some (.ref 0)) (some (.lst sizesD)) (some (.lst ((cells x.1 x.2).map cellD))) (some (.lst ((endL (cells x.1 x.2) s).map cellD))) (some (cellD q)) y8 (some (optW res)) y10 x.1 x.2 (cells x.1 x.2)[s] [drw ds2] hg hp
  refine ⟨ds2, ?_⟩
  rw [run_tbl (g := ⟨1, 12, b22, false⟩) rfl]
  have R0 : ∀ b, runFn cc ⟨1, 12, b, false⟩ [.ref 0] [drw ds] = finish false 1 (execs cc b [some (.ref 0), none, none, none, none, none, none, none, none, none, none, none] [drw ds]) := fun b => rfl
  rw [R0, b22_eq, execs_cons, ez0, thn_nx, execs_cons, h1, thn_nx, execs_cons, h2, thn_nx, execs_cons, h3, thn_nx, execs_cons, h4, thn_nx, execs_cons, h5, thn_nx, execs_cons, h6, thn_nx, execs_cons, h7, thn_nx, execs_cons, h8, thn_nx, execs_cons, h9, thn_nx, execs_cons, h10, thn_rt]
  rfl
end K74
end

section
set_option linter.all false
set_option Elab.async false
set_option maxRecDepth 20000
namespace K74
open Py
open PySem (Str)
/-- what is told, in a cell -/
theorem f4r (n : Nat) (b : Bool) (m : Mem) : run tbl sub 1000 word (n + 2) 4 [.ref m.length, .lst [.bl b, .bl b, .bl b, .bl b]] (m ++ [.lst [.bl b, .bl b, .bl b, .bl b]]) = .ok (.bl true) (m ++ [.lst [.bl b, .bl b, .bl b, .bl b]]) := by
  rw [run_tbl (g := ⟨2, 3, b4, false⟩) rfl]
  obtain ⟨ys, hys⟩ : ∃ ys, ys = [D.bl b, .bl b, .bl b, .bl b] := ⟨_, rfl⟩
  rw [← hys]
  have at4 : ∀ k : Int, 0 ≤ k → k < 4 → at? ys k = some (.bl b) := by
    intro k h1 h2
    have : k = 0 ∨ k = 1 ∨ k = 2 ∨ k = 3 := by omega
    rw [hys]
    rcases this with rfl | rfl | rfl | rfl <;> rfl
  have C : compS ⟨run tbl sub 1000 word (n + 1), sub, 1000, word⟩ [some (.ref m.length), some (.lst ys), none] [2] (.nm 2) [.not (.call 4 [.idx (.var 0) (.var 2), .idx (.var 1) (.var 2)])] (.var 2) (rng 0 4) (m ++ [.lst ys]) = .ok [] (m ++ [.lst ys]) := by
    rw [compS_rng_filter (fun _ => false) (fun k => .int k) ?_ (by omega)]
    · simp
    · intro k h1 h2 acc ha
      have x0 : idxR (.ref m.length) (.int k) (m ++ [.lst ys]) = .ok (.bl b) (m ++ [.lst ys]) := by
        apply idxR_lst (xs := ys)
        · simp
        · simp [dctOf]
        · exact at4 k h1 (by omega)
      have x1 : idxR (.lst ys) (.int k) (m ++ [.lst ys]) = .ok (.bl b) (m ++ [.lst ys]) := idxR_lst' (at4 k h1 (by omega))
      have A := f4 n b (m ++ [.lst ys])
      simp [itS, wipeE, bindT, x0, x1, A]
  have L : ys.length = 4 := by rw [hys]; rfl
  have E := opR_eq_nil [] (m ++ [.lst ys])
  have T : (m ++ [D.lst ys]).take (m ++ [D.lst ys]).length = m ++ [.lst ys] := List.take_length
  have I0 : kindIs .isL (.lst ys) = true := rfl
  have T2 : (m ++ [D.lst ys]).take (m.length + 1) = m ++ [.lst ys] := List.take_of_length_le (by simp)
  have P0 : pr sub .isL [.ref m.length] (m ++ [.lst ys]) = some (.bl true, m ++ [.lst ys]) := by
    show ((der (m ++ [.lst ys]) (.ref m.length)).bind fun d => if plainK d then some (D.bl (kindIs .isL d), m ++ [.lst ys]) else none) = _
    rw [der_new]; rfl
  have P1 : pr sub .isT [.ref m.length] (m ++ [.lst ys]) = some (.bl false, m ++ [.lst ys]) := by
    show ((der (m ++ [.lst ys]) (.ref m.length)).bind fun d => if plainK d then some (D.bl (kindIs .isT d), m ++ [.lst ys]) else none) = _
    rw [der_new]; rfl
  simp [runFn, b4, pr_isL, pr_isT, P0, P1, T2, L, range_lit 4 4 _ rfl rfl, C, E]
theorem swp_cells {r c : Int} {p : Cell} (h : p ∈ cells r c) : swp p ∈ cells c r := by
  rw [mem_cells] at *; exact ⟨h.2, h.1⟩
theorem mir_cells {r c : Int} {p : Cell} (h : p ∈ cells r c) : mirR r p ∈ cells r c := by
  rw [mem_cells] at *; simp only [mirR]; omega
noncomputable abbrev cl : Cfg := ⟨run tbl sub 1000 word 29, sub, 1000, word⟩
def t0 : S := .par [3, 4] [.idx (.lst [.op .add (.lit (.int 1)) (.call 1 [.var 1, .lit (.int 10)]), .op .add (.lit (.int 2)) (.call 1 [.var 1, .lit (.int 2)]), .lit (.int 3)]) (.call 1 [.var 1, .lit (.int 3)]), .op .add (.lit (.int 1)) (.call 1 [.var 1, .lit (.int 10)])]
def t1 : S := .par [5, 6] [.tup [.call 1 [.var 1, .var 3], .call 1 [.var 1, .var 4]], .tup [.call 1 [.var 1, .var 3], .call 1 [.var 1, .var 4]]]
def t2 : S := .asg (.nm 7) (.ite (.op .ne (.var 5) (.var 6)) (.call 23 [.var 3, .var 4, .var 5, .var 6]) (.op .eq (.op .mul (.var 3) (.var 4)) (.lit (.int 1))))
def t3 : S := .asg (.nm 8) (.mut (.lst [.call 15 [.lit (.int 0), .var 3, .var 4, .var 5, .var 6], .call 15 [.lit (.int 0), .var 3, .var 4, .var 6, .var 5], .call 15 [.lit (.int 0), .var 4, .var 3, .slr (.var 5) none, .slr (.var 6) none]]))
def t4 : S := .expr (.meth .append (.var 8) [.call 15 [.lit (.int 0), .var 3, .var 4, .tup [.op .sub (.op .sub (.var 3) (.lit (.int 1))) (.idx (.var 5) (.lit (.int 0))), .idx (.var 5) (.lit (.int 1))], .tup [.op .sub (.op .sub (.var 3) (.lit (.int 1))) (.idx (.var 6) (.lit (.int 0))), .idx (.var 6) (.lit (.int 1))]]])
def t5 : S := .iff (.not (.call 4 [.var 8, .op .mul (.lst [.var 7]) (.lit (.int 4))])) [.ret (.lit (.bl false))] []
def t6 : S := .iff (.and (.op .gt (.op .mul (.var 3) (.var 4)) (.lit (.int 20))) (.op .ne (.call 15 [.lit (.int 1), .var 3, .var 4, .var 5, .var 6]) (.lit (.str "much")))) [.ret (.lit (.bl false))] []
def tB : List S := [t0, t1, t2, t3, t4, t5, t6]
theorem b24_eq : b24 = [.asg (.nm 1) (.call 0 [.var 0]), .iff (.not (.call 22 [.var 1])) [.ret (.lit (.bl false))] [], .for_ (.nm 2) .rng1 [.lit (.int 12)] tB, .ret (.lit (.bl true))] := rfl
theorem et0 (x0 x2 x3 x4 x5 x6 x7 x8 : Option D) (ds : List Int) (R : Mem) : ∃ r c ds', (okN r && okN c) = true ∧ exec cl t0 [x0, some (.ref 0), x2, x3, x4, x5, x6, x7, x8] (drw ds :: R) = .nx [x0, some (.ref 0), x2, some (.int r), some (.int c), x5, x6, x7, x8] (drw ds' :: R) := by
  have b1 := takeV_bd ds (b := 10) (by omega)
  have b2 := takeV_bd ds.dropLast (b := 2) (by omega)
  have b3 := takeV_bd ds.dropLast.dropLast (b := 3) (by omega)
  have b4 := takeV_bd ds.dropLast.dropLast.dropLast (b := 10) (by omega)
  have T1 := f1 28 ds 10 (by omega) R
  have T2 := f1 28 ds.dropLast 2 (by omega) R
  have T3 := f1 28 ds.dropLast.dropLast 3 (by omega) R
  have T4 := f1 28 ds.dropLast.dropLast.dropLast 10 (by omega) R
  obtain ⟨r, hr, ix⟩ : ∃ r, (1 ≤ r ∧ r ≤ 10) ∧ at? [D.int (1 + takeV ds 10), .int (2 + takeV ds.dropLast 2), .int 3] (takeV ds.dropLast.dropLast 3) = some (.int r) := by
    have : takeV ds.dropLast.dropLast 3 = 0 ∨ takeV ds.dropLast.dropLast 3 = 1 ∨ takeV ds.dropLast.dropLast 3 = 2 := by omega
    rcases this with h | h | h <;> rw [h]
    · exact ⟨_, by omega, rfl⟩
    · exact ⟨_, by omega, rfl⟩
    · exact ⟨_, by omega, rfl⟩
  have I := idxR_lst' (m := drw ds.dropLast.dropLast.dropLast :: R) ix
  refine ⟨r, 1 + takeV ds.dropLast.dropLast.dropLast 10, ds.dropLast.dropLast.dropLast.dropLast, by rw [okN_iff]; omega, ?_⟩
  simp [t0, T1, T2, T3, T4, I]
theorem et1 (x0 x2 x5 x6 x7 x8 : Option D) (r c : Int) (ds : List Int) (R : Mem) (hg : (okN r && okN c) = true) : ∃ p q ds', p ∈ cells r c ∧ q ∈ cells r c ∧ exec cl t1 [x0, some (.ref 0), x2, some (.int r), some (.int c), x5, x6, x7, x8] (drw ds :: R) = .nx [x0, some (.ref 0), x2, some (.int r), some (.int c), some (cellD p), some (cellD q), x7, x8] (drw ds' :: R) := by
  have h := okN_iff.mp hg
  have b1 := takeV_bd ds (b := r) (by omega)
  have b2 := takeV_bd ds.dropLast (b := c) (by omega)
  have b3 := takeV_bd ds.dropLast.dropLast (b := r) (by omega)
  have b4 := takeV_bd ds.dropLast.dropLast.dropLast (b := c) (by omega)
  have T1 := f1 28 ds r (by omega) R
  have T2 := f1 28 ds.dropLast c (by omega) R
  have T3 := f1 28 ds.dropLast.dropLast r (by omega) R
  have T4 := f1 28 ds.dropLast.dropLast.dropLast c (by omega) R
  refine ⟨(takeV ds r, takeV ds.dropLast c), (takeV ds.dropLast.dropLast r, takeV ds.dropLast.dropLast.dropLast c), ds.dropLast.dropLast.dropLast.dropLast, mem_cells.mpr ⟨b1, b2⟩, mem_cells.mpr ⟨b3, b4⟩, ?_⟩
  simp [t1, T1, T2, T3, T4, cellD]
theorem et2 (x0 x1 x2 x7 x8 : Option D) (r c : Int) (p q : Cell) (m : Mem) (hg : (okN r && okN c) = true) (hp : p ∈ cells r c) (hq : q ∈ cells r c) : exec cl t2 [x0, x1, x2, some (.int r), some (.int c), some (cellD p), some (cellD q), x7, x8] m = .nx [x0, x1, x2, some (.int r), some (.int c), some (cellD p), some (cellD q), some (.bl (hasT r c p q)), x8] m := by
  rw [← due_has (ing_cells.mp hp) (ing_cells.mp hq)]
  have h := okN_iff.mp hg
  have M : opR .mul (.int r) (.int c) m = .ok (.int (r * c)) m := opR_mul_int m (.inl (small_mk (by omega) (by omega)))
  have N := ne_cell p q m
  by_cases e : p = q
  · simp only [e, decide_true, Bool.not_true] at N
    simp [t2, e, N, M, dueL]
    rfl
  · simp only [e, decide_false, Bool.not_false] at N
    by_cases h2 : c < r
    · have F := f23b 27 r c p q m hg h2
      simp [t2, N, F, dueL, e, h2]
    · have F := f23a 28 r c p q m hg (by omega)
      simp [t2, N, F, dueL, e, h2]
theorem et3 (x0 x1 x2 x7 x8 : Option D) (r c : Int) (p q : Cell) (m : Mem) (hg : (okN r && okN c) = true) (hp : p ∈ cells r c) (hq : q ∈ cells r c) : exec cl t3 [x0, x1, x2, some (.int r), some (.int c), some (cellD p), some (cellD q), x7, x8] m = .nx [x0, x1, x2, some (.int r), some (.int c), some (cellD p), some (cellD q), x7, some (.ref m.length)] (m ++ [.lst [.bl (hasT r c p q), .bl (hasT r c p q), .bl (hasT r c p q)]]) := by
  have A := f15 24 r c p q m hg hp hq
  have B := f15 24 r c q p m hg hq hp
  rw [has_sym (ing_cells.mp hp) (ing_cells.mp hq)] at B
  have C := f15 24 c r (swp p) (swp q) m (by rw [Bool.and_comm]; exact hg) (swp_cells hp) (swp_cells hq)
  rw [has_swp (ing_cells.mp hp) (ing_cells.mp hq)] at C
  simp [t3, A, B, C, slr_cell]
theorem et4 (x0 x1 x2 x7 : Option D) (r c : Int) (p q : Cell) (m : Mem) (hg : (okN r && okN c) = true) (hp : p ∈ cells r c) (hq : q ∈ cells r c) : exec cl t4 [x0, x1, x2, some (.int r), some (.int c), some (cellD p), some (cellD q), x7, some (.ref m.length)] (m ++ [.lst [.bl (hasT r c p q), .bl (hasT r c p q), .bl (hasT r c p q)]]) = .nx [x0, x1, x2, some (.int r), some (.int c), some (cellD p), some (cellD q), x7, some (.ref m.length)] (m ++ [.lst [.bl (hasT r c p q), .bl (hasT r c p q), .bl (hasT r c p q), .bl (hasT r c p q)]]) := by
  have A := f15 24 r c (mirR r p) (mirR r q) (m ++ [.lst [.bl (hasT r c p q), .bl (hasT r c p q), .bl (hasT r c p q)]]) hg (mir_cells hp) (mir_cells hq)
  rw [has_mir (ing_cells.mp hp) (ing_cells.mp hq)] at A
  generalize hasT r c p q = b at *
  have p0 := i0 p (m ++ [.lst [.bl b, .bl b, .bl b]])
  have p1 := i1 p (m ++ [.lst [.bl b, .bl b, .bl b]])
  have q0 := i0 q (m ++ [.lst [.bl b, .bl b, .bl b]])
  have q1 := i1 q (m ++ [.lst [.bl b, .bl b, .bl b]])
  have A' : run tbl sub 1000 word 29 15 [.int 0, .int r, .int c, .tup [.int (r - 1 - p.1), .int p.2], .tup [.int (r - 1 - q.1), .int q.2]] (m ++ [.lst [.bl b, .bl b, .bl b]]) = .ok (.bl b) (m ++ [.lst [.bl b, .bl b, .bl b]]) := A
  have E : evs cl [x0, x1, x2, some (.int r), some (.int c), some (cellD p), some (cellD q), x7, some (.ref m.length)] [.call 15 [.lit (.int 0), .var 3, .var 4, .tup [.op .sub (.op .sub (.var 3) (.lit (.int 1))) (.idx (.var 5) (.lit (.int 0))), .idx (.var 5) (.lit (.int 1))], .tup [.op .sub (.op .sub (.var 3) (.lit (.int 1))) (.idx (.var 6) (.lit (.int 0))), .idx (.var 6) (.lit (.int 1))]]] (m ++ [.lst [.bl b, .bl b, .bl b]]) = .ok [.bl b] (m ++ [.lst [.bl b, .bl b, .bl b]]) := by
    generalize m ++ [D.lst [.bl b, .bl b, .bl b]] = m' at *
    simp [p0, p1, q0, q1, A']
  simp only [t4, exec_expr, ev_meth, ev_var, slot_succ, slot_zero, kMeth1_ok, der_new, kMeth2_lst, E, kMeth3_ok]
  simp
theorem et5 (x0 x1 x2 x3 x4 x5 x6 : Option D) (b : Bool) (m : Mem) : exec cl t5 [x0, x1, x2, x3, x4, x5, x6, some (.bl b), some (.ref m.length)] (m ++ [.lst [.bl b, .bl b, .bl b, .bl b]]) = .nx [x0, x1, x2, x3, x4, x5, x6, some (.bl b), some (.ref m.length)] (m ++ [.lst [.bl b, .bl b, .bl b, .bl b]]) := by
  have F := f4r 27 b m
  have M : opR .mul (.lst [.bl b]) (.int 4) (m ++ [.lst [.bl b, .bl b, .bl b, .bl b]]) = .ok (.lst [.bl b, .bl b, .bl b, .bl b]) (m ++ [.lst [.bl b, .bl b, .bl b, .bl b]]) := rfl
  generalize m ++ [D.lst [.bl b, .bl b, .bl b, .bl b]] = m' at *
  simp [t5, M, F]
theorem et6 (x0 x1 x2 x7 x8 : Option D) (r c : Int) (p q : Cell) (m : Mem) (hg : (okN r && okN c) = true) (hp : p ∈ cells r c) (hq : q ∈ cells r c) : exec cl t6 [x0, x1, x2, some (.int r), some (.int c), some (cellD p), some (cellD q), x7, x8] m = .nx [x0, x1, x2, some (.int r), some (.int c), some (cellD p), some (cellD q), x7, x8] m := by
  have h := okN_iff.mp hg
  have M : opR .mul (.int r) (.int c) m = .ok (.int (r * c)) m := opR_mul_int m (.inl (small_mk (by omega) (by omega)))
  by_cases h2 : 20 < r * c
  · have F := f15m 23 r c p q m hg hp hq h2
    simp [t6, M, h2, F]
  · simp [t6, M, h2]
theorem turn_ok (x0 x2 x3 x4 x5 x6 x7 x8 : Option D) (ds : List Int) (R : Mem) : ∃ y3 y4 y5 y6 y7 y8 ds' R', execs cl tB [x0, some (.ref 0), x2, x3, x4, x5, x6, x7, x8] (drw ds :: R) = .nx [x0, some (.ref 0), x2, y3, y4, y5, y6, y7, y8] (drw ds' :: R') := by
  obtain ⟨r, c, ds1, hg, h0⟩ := et0 x0 x2 x3 x4 x5 x6 x7 x8 ds R
  obtain ⟨p, q, ds2, hp, hq, h1⟩ := et1 x0 x2 x5 x6 x7 x8 r c ds1 R hg
  have h2 := et2 x0 (some (.ref 0)) x2 x7 x8 r c p q (drw ds2 :: R) hg hp hq
  have h3 := et3 x0 (some (.ref 0)) x2 (some (.bl (hasT r c p q))) x8 r c p q (drw ds2 :: R) hg hp hq
  have h4 := et4 x0 (some (.ref 0)) x2 (some (.bl (hasT r c p q))) r c p q (drw ds2 :: R) hg hp hq
  have h5 := et5 x0 (some (.ref 0)) x2 (some (.int r)) (some (.int c)) (some (cellD p)) (some (cellD q)) (hasT r c p q) (drw ds2 :: R)
  have h6 := et6 x0 (some (.ref 0)) x2 (some (.bl (hasT r c p q))) (some (.ref (drw ds2 :: R).length)) r c p q (drw ds2 :: R ++ [.lst [.bl (hasT r c p q), .bl (hasT r c p q), .bl (hasT r c p q), .bl (hasT r c p q)]]) hg hp hq
  refine ⟨some (.int r), some (.int c), some (cellD p), some (cellD q), some (.bl (hasT r c p q)), some (.ref (drw ds2 :: R).length), ds2, R ++ [.lst [.bl (hasT r c p q), .bl (hasT r c p q), .bl (hasT r c p q), .bl (hasT r c p q)]], ?_⟩
  rw [tB, execs_cons, h0, thn_nx, execs_cons, h1, thn_nx, execs_cons, h2, thn_nx, execs_cons, h3, thn_nx, execs_cons, h4, thn_nx, execs_cons, h5, thn_nx, execs_cons, h6, thn_nx, execs_nil]
  rfl
theorem law_ok : ∀ ns : List Int, ns.length ≤ 63 → (∀ z ∈ ns, PySem.Builtin.Int.intBits z ≤ 1048576) → ∃ μ, run tbl sub 1000 word 30 24 [.lck (.lst (ns.map D.int))] [] = .ok (.bl true) μ := by
  intro ns hn _
  rw [run_tbl (g := ⟨1, 9, b24, false⟩) rfl]
  obtain ⟨s, hs⟩ : ∃ s : D, s = .lck (.lst (ns.map D.int)) := ⟨_, rfl⟩
  obtain ⟨ds, hds⟩ : ∃ ds, run tbl sub 1000 word 29 0 [.lck (.lst (ns.map D.int))] [] = .ok (.ref 0) [drw ds] := by
    rw [run_tbl (g := ⟨1, 7, drawsB, true⟩) rfl]
    exact draws_run _ ns hn
  rw [← hs] at hds ⊢
  obtain ⟨ds1, hsm⟩ := small_ok ds
  obtain ⟨e2, m2, F1, x2, x3, x4, x5, x6, x7, x8, ds2, R2, he, hm⟩ := forS_inv (c := cl) (t := .nm 2) (b := tB) (fun e m => ∃ x2 x3 x4 x5 x6 x7 x8 ds R, e = [some s, some (.ref 0), x2, x3, x4, x5, x6, x7, x8] ∧ m = drw ds :: R) (rng 0 12) (by
    rintro x hx e m ⟨x2, x3, x4, x5, x6, x7, x8, ds, R, rfl, rfl⟩
    obtain ⟨y3, y4, y5, y6, y7, y8, ds', R', T⟩ := turn_ok (some s) (some x) x3 x4 x5 x6 x7 x8 ds R
    exact ⟨_, rfl, _, _, .inl T, _, _, _, _, _, _, _, _, _, rfl, rfl⟩) [some s, some (.ref 0), none, none, none, none, none, none, none] [drw ds1] ⟨_, _, _, _, _, _, _, _, _, rfl, rfl⟩
  subst he hm
  refine ⟨[], ?_⟩
  rw [b24_eq]
  simp [runFn, hds, hsm, range_lit 12 12 _ rfl rfl, F1]
end K74
end

section
set_option Elab.async false
set_option linter.all false
set_option maxRecDepth 100000
set_option maxHeartbeats 4000000
namespace K74
open PySem PySem.Spec PyProof.Rows L2 L2H Py
open PySem (Str)
theorem ac {α : Type} {p : α → Prop} {x : α} {xs : List α} (h : p x) (t : ∀ y ∈ xs, p y) : ∀ y ∈ x :: xs, p y := List.forall_mem_cons.mpr ⟨h, t⟩
theorem sc0 : FnScope N0 ["script"] (defScope (top 28)) := ⟨rfl, rfl, rfl, by decide +kernel, rfl, by decide +kernel, by decide +kernel⟩
theorem sc1 : FnScope N1 ["draws", "bound"] (defScope (top 29)) := ⟨rfl, rfl, rfl, by decide +kernel, rfl, by decide +kernel, by decide +kernel⟩
theorem sc2 : FnScope N2 ["r", "c"] (defScope (top 32)) := ⟨rfl, rfl, rfl, by decide +kernel, rfl, by decide +kernel, by decide +kernel⟩
theorem sc3 : FnScope N3 ["r", "c", "one"] (defScope (top 33)) := ⟨rfl, rfl, rfl, by decide +kernel, rfl, by decide +kernel, by decide +kernel⟩
theorem sc4 : FnScope N4 ["found", "due"] (defScope (top 30)) := ⟨rfl, rfl, rfl, by decide +kernel, rfl, by decide +kernel, by decide +kernel⟩
theorem sc5 : FnScope N5 ["value", "least", "most"] (defScope (top 8)) := ⟨rfl, rfl, rfl, by decide +kernel, rfl, by decide +kernel, by decide +kernel⟩
theorem sc6 : FnScope N6 ["r", "c"] (defScope (top 16)) := ⟨rfl, rfl, rfl, by decide +kernel, rfl, by decide +kernel, by decide +kernel⟩
theorem sc7 : FnScope N7 ["r", "c"] (defScope (top 17)) := ⟨rfl, rfl, rfl, by decide +kernel, rfl, by decide +kernel, by decide +kernel⟩
theorem sc8 : FnScope N8 ["c", "one", "other"] (defScope (top 20)) := ⟨rfl, rfl, rfl, by decide +kernel, rfl, by decide +kernel, by decide +kernel⟩
theorem sc9 : FnScope N9 ["c", "one", "other"] (defScope (top 21)) := ⟨rfl, rfl, rfl, by decide +kernel, rfl, by decide +kernel, by decide +kernel⟩
theorem sc10 : FnScope N10 ["r", "c", "one", "other"] (defScope (top 22)) := ⟨rfl, rfl, rfl, by decide +kernel, rfl, by decide +kernel, by decide +kernel⟩
theorem sc11 : FnScope N11 ["r", "c", "one", "other"] (defScope (top 23)) := ⟨rfl, rfl, rfl, by decide +kernel, rfl, by decide +kernel, by decide +kernel⟩
theorem sc12 : FnScope N12 ["cell"] (defScope (top 12)) := ⟨rfl, rfl, rfl, by decide +kernel, rfl, by decide +kernel, by decide +kernel⟩
theorem sc13 : FnScope N13 ["cells", "way", "goal", "dead"] (defScope (top 24)) := ⟨rfl, rfl, rfl, by decide +kernel, rfl, by decide +kernel, by decide +kernel⟩
theorem sc14 : FnScope N14 ["r", "c", "one", "other"] (defScope (top 25)) := ⟨rfl, rfl, rfl, by decide +kernel, rfl, by decide +kernel, by decide +kernel⟩
theorem sc15 : FnScope N15 ["which", "r", "c", "one", "other"] (defScope (top 37)) := ⟨rfl, rfl, rfl, by decide +kernel, rfl, by decide +kernel, by decide +kernel⟩
theorem sc16 : FnScope N16 ["r", "c", "one", "other", "value"] (defScope (top 35)) := ⟨rfl, rfl, rfl, by decide +kernel, rfl, by decide +kernel, by decide +kernel⟩
theorem sc17 : FnScope N17 ["draws", "value"] (defScope (top 36)) := ⟨rfl, rfl, rfl, by decide +kernel, rfl, by decide +kernel, by decide +kernel⟩
theorem sc18 : FnScope N18 ["value"] (defScope (top 11)) := ⟨rfl, rfl, rfl, by decide +kernel, rfl, by decide +kernel, by decide +kernel⟩
theorem sc19 : FnScope N19 ["r", "c", "value"] (defScope (top 19)) := ⟨rfl, rfl, rfl, by decide +kernel, rfl, by decide +kernel, by decide +kernel⟩
theorem sc20 : FnScope N20 ["cells"] (defScope (top 18)) := ⟨rfl, rfl, rfl, by decide +kernel, rfl, by decide +kernel, by decide +kernel⟩
theorem sc21 : FnScope N21 ["r", "c", "one", "other", "value"] (defScope (top 26)) := ⟨rfl, rfl, rfl, by decide +kernel, rfl, by decide +kernel, by decide +kernel⟩
theorem sc22 : FnScope N22 ["draws"] (defScope (top 38)) := ⟨rfl, rfl, rfl, by decide +kernel, rfl, by decide +kernel, by decide +kernel⟩
theorem sc23 : FnScope N23 ["r", "c", "one", "other"] (defScope (top 34)) := ⟨rfl, rfl, rfl, by decide +kernel, rfl, by decide +kernel, by decide +kernel⟩
theorem sc24 : FnScope N24 ["script"] (defScope (top 39)) := ⟨rfl, rfl, rfl, by decide +kernel, rfl, by decide +kernel, by decide +kernel⟩
theorem scw : FnScope ["e", "kinds", "kind"] ["e"] (defScope (top 31)) := ⟨rfl, rfl, rfl, by decide +kernel, rfl, by decide +kernel, by decide +kernel⟩
abbrev wjs : List (Str × Nat) := [("OutOfRange", 1), ("Malformed", 2), ("NotThere", 3), ("Refused", 4), ("TooMuch", 5)]
def bw : List Py.S := [.iff (.op .ne (.prim .len [.comp [2] (.nm 2) .lseq [.var 1] [.var 2] (.var 2)]) (.lit (.int 1))) [.ret (.lit (.str "many"))] [], .ret (.idx (.lst [.lit (.str "range"), .lit (.str "form"), .lit (.str "none"), .lit (.str "refused"), .lit (.str "much")]) (.meth .index (.var 1) [.lit (.bl true)]))]
theorem word_ok [Tabs] {P : Program} {w : World} (hwd : w = Tabs.wd) {K : PySem.W.Frag} {mg : Str → Option Value} {base : Heap} {cl : Nat → Addr} {f : Addr} {fd : FuncData} {c : Cfg} (F : Fun K "_law_word" "_law_word" (top 31) f fd) (B : Wb K mg cl c wjs) (e1 : c.sub = sub) (e2 : c.word = word) : WordFn P w K mg base cl c.word 1 f fd "e" := by
  refine word_fn (k := 0) F scw B rfl (by decide +kernel) (tb := bw) (fun X hN hsc hot hu hm hK hw => word_rest (N := ["e", "kinds", "kind"]) (sc := defScope (top 31)) hN hsc hot hu (hw.trans hwd) (by decide +kernel) (by rw [hm]; exact B.len) (by decide +kernel) ⟨⟨by decide +kernel, by decide +kernel⟩, ⟨by decide +kernel, by decide +kernel⟩, ⟨by decide +kernel, by decide +kernel⟩, ⟨by decide +kernel, by decide +kernel⟩, ⟨by decide +kernel, by decide +kernel⟩, ⟨by decide +kernel, by decide +kernel⟩⟩ rfl) ?_
  intro q wd h
  rw [e2] at h
  rw [e1]
  unfold word at h
  split at h
  · cases h; rfl
  · cases h; rfl
  · cases h; rfl
  · cases h
set_option maxHeartbeats 0 in
theorem all_mk {l : PySem.W.OpenLaw} {q : Program} {w : World} {K : PySem.W.Frag} {h : Heap} {mg : Str → Option Value} {fa : Addr} (KX : K.In h) (G : h.Ns mainGlobals mg) (hfa : mg "law" = some (.ref fa)) (TK : TabK q K h)
    {f0 f1 f2 f3 f4 f5 f6 f7 f8 f9 f10 f11 f12 f13 f14 f15 f16 f17 f18 f19 f20 f21 f22 f23 f24 fw : Addr} {od0 an0 od1 an1 od2 an2 od3 an3 od4 an4 od5 an5 od6 an6 od7 an7 od8 an8 od9 an9 od10 an10 od11 an11 od12 an12 od13 an13 od14 an14 od15 an15 od16 an16 od17 an17 od18 an18 od19 an19 od20 an20 od21 an21 od22 an22 od23 an23 od24 an24 odw anw : Option Addr} {sl0 sl1 sl2 sl3 sl4 sl5 sl6 sl7 sl8 sl9 sl10 sl11 sl12 sl13 sl14 sl15 sl16 sl17 sl18 sl19 sl20 sl21 sl22 sl23 sl24 slw : Array (Option Value)} {oc0 kV0 dc0 pm0 ct0 cd0 oc1 kV1 dc1 pm1 ct1 cd1 oc2 kV2 dc2 pm2 ct2 cd2 oc3 kV3 dc3 pm3 ct3 cd3 oc4 kV4 dc4 pm4 ct4 cd4 oc5 kV5 dc5 pm5 ct5 cd5 oc6 kV6 dc6 pm6 ct6 cd6 oc7 kV7 dc7 pm7 ct7 cd7 oc8 kV8 dc8 pm8 ct8 cd8 oc9 kV9 dc9 pm9 ct9 oc10 kV10 dc10 pm10 ct10 cd10 oc11 kV11 dc11 pm11 ct11 cd11 oc12 kV12 dc12 pm12 ct12 cd12 oc13 kV13 dc13 pm13 ct13 cd13 oc14 kV14 dc14 pm14 ct14 cd14 oc15 kV15 dc15 pm15 ct15 cd15 oc16 kV16 dc16 pm16 ct16 cd16 oc17 kV17 dc17 pm17 ct17 cd17 oc18 kV18 dc18 pm18 ct18 cd18 oc19 kV19 dc19 pm19 ct19 oc20 kV20 dc20 pm20 ct20 oc21 kV21 dc21 pm21 ct21 cd21 oc22 kV22 dc22 pm22 ct22 cd22 oc23 kV23 dc23 pm23 ct23 cd23 oc24 kV24 dc24 pm24 ct24 cd24 ocw kVw dcw pmw ctw cdw : Value} {cc9 T9 cc19 T19 cc20 T20 : Addr} {C0 C1 C2 C3 C4 C5 : Addr} {u0 u1 u2 : Value}
    (a0 : PySem.W.nsIn K mainGlobals "_law_draws" = some (some (.ref f0)))
    (l0 : K.lookup f0 = some ⟨oc0, od0, .func (PySem.W.fnOf "_law_draws" "_law_draws" (defArgs (top 28)) (defBody (top 28)) (defScope (top 28)) .none kV0 dc0 pm0 an0 cd0 ct0), sl0⟩)
    (c0 : PySem.W.codeIn K cd0 "_law_draws" = true)
    (k0 : PySem.W.keepIn K (.ref f0) = true)
    (a1 : PySem.W.nsIn K mainGlobals "_law_take" = some (some (.ref f1)))
    (l1 : K.lookup f1 = some ⟨oc1, od1, .func (PySem.W.fnOf "_law_take" "_law_take" (defArgs (top 29)) (defBody (top 29)) (defScope (top 29)) .none kV1 dc1 pm1 an1 cd1 ct1), sl1⟩)
    (c1 : PySem.W.codeIn K cd1 "_law_take" = true)
    (k1 : PySem.W.keepIn K (.ref f1) = true)
    (a2 : PySem.W.nsIn K mainGlobals "_law_grid" = some (some (.ref f2)))
    (l2 : K.lookup f2 = some ⟨oc2, od2, .func (PySem.W.fnOf "_law_grid" "_law_grid" (defArgs (top 32)) (defBody (top 32)) (defScope (top 32)) .none kV2 dc2 pm2 an2 cd2 ct2), sl2⟩)
    (c2 : PySem.W.codeIn K cd2 "_law_grid" = true)
    (k2 : PySem.W.keepIn K (.ref f2) = true)
    (a3 : PySem.W.nsIn K mainGlobals "_law_ends" = some (some (.ref f3)))
    (l3 : K.lookup f3 = some ⟨oc3, od3, .func (PySem.W.fnOf "_law_ends" "_law_ends" (defArgs (top 33)) (defBody (top 33)) (defScope (top 33)) .none kV3 dc3 pm3 an3 cd3 ct3), sl3⟩)
    (c3 : PySem.W.codeIn K cd3 "_law_ends" = true)
    (k3 : PySem.W.keepIn K (.ref f3) = true)
    (a4 : PySem.W.nsIn K mainGlobals "_law_alike" = some (some (.ref f4)))
    (l4 : K.lookup f4 = some ⟨oc4, od4, .func (PySem.W.fnOf "_law_alike" "_law_alike" (defArgs (top 30)) (defBody (top 30)) (defScope (top 30)) .none kV4 dc4 pm4 an4 cd4 ct4), sl4⟩)
    (c4 : PySem.W.codeIn K cd4 "_law_alike" = true)
    (k4 : PySem.W.keepIn K (.ref f4) = true)
    (a5 : PySem.W.nsIn K mainGlobals "is_number" = some (some (.ref f5)))
    (l5 : K.lookup f5 = some ⟨oc5, od5, .func (PySem.W.fnOf "is_number" "is_number" (defArgs (top 8)) (defBody (top 8)) (defScope (top 8)) .none kV5 dc5 pm5 an5 cd5 ct5), sl5⟩)
    (c5 : PySem.W.codeIn K cd5 "is_number" = true)
    (k5 : PySem.W.keepIn K (.ref f5) = true)
    (a6 : PySem.W.nsIn K mainGlobals "check_sides" = some (some (.ref f6)))
    (l6 : K.lookup f6 = some ⟨oc6, od6, .func (PySem.W.fnOf "check_sides" "check_sides" (defArgs (top 16)) (defBody (top 16)) (defScope (top 16)) .none kV6 dc6 pm6 an6 cd6 ct6), sl6⟩)
    (c6 : PySem.W.codeIn K cd6 "check_sides" = true)
    (k6 : PySem.W.keepIn K (.ref f6) = true)
    (a7 : PySem.W.nsIn K mainGlobals "grid" = some (some (.ref f7)))
    (l7 : K.lookup f7 = some ⟨oc7, od7, .func (PySem.W.fnOf "grid" "grid" (defArgs (top 17)) (defBody (top 17)) (defScope (top 17)) .none kV7 dc7 pm7 an7 cd7 ct7), sl7⟩)
    (c7 : PySem.W.codeIn K cd7 "grid" = true)
    (k7 : PySem.W.keepIn K (.ref f7) = true)
    (a8 : PySem.W.nsIn K mainGlobals "is_barred" = some (some (.ref f8)))
    (l8 : K.lookup f8 = some ⟨oc8, od8, .func (PySem.W.fnOf "is_barred" "is_barred" (defArgs (top 20)) (defBody (top 20)) (defScope (top 20)) .none kV8 dc8 pm8 an8 cd8 ct8), sl8⟩)
    (c8 : PySem.W.codeIn K cd8 "is_barred" = true)
    (k8 : PySem.W.keepIn K (.ref f8) = true)
    (a9 : PySem.W.nsIn K mainGlobals "is_three" = some (some (.ref f9)))
    (l9 : K.lookup f9 = some ⟨oc9, od9, .func (PySem.W.fnOf "is_three" "is_three" (defArgs (top 21)) (defBody (top 21)) (defScope (top 21)) .none kV9 dc9 pm9 an9 (.ref cc9) ct9), sl9⟩)
    (c9 : PySem.W.codeIn K (.ref cc9) "is_three" = true)
    (k9 : PySem.W.keepIn K (.ref f9) = true)
    (t9 : PySem.W.tabIn K "is_three" = some (cc9, T9))
    (r9 : ((recsOf q).any fun e => e.name == ("is_three" : Str)) = true)
    (n9 : K.lookup T9 = none)
    (a10 : PySem.W.nsIn K mainGlobals "rule" = some (some (.ref f10)))
    (l10 : K.lookup f10 = some ⟨oc10, od10, .func (PySem.W.fnOf "rule" "rule" (defArgs (top 22)) (defBody (top 22)) (defScope (top 22)) .none kV10 dc10 pm10 an10 cd10 ct10), sl10⟩)
    (c10 : PySem.W.codeIn K cd10 "rule" = true)
    (k10 : PySem.W.keepIn K (.ref f10) = true)
    (a11 : PySem.W.nsIn K mainGlobals "has_trail" = some (some (.ref f11)))
    (l11 : K.lookup f11 = some ⟨oc11, od11, .func (PySem.W.fnOf "has_trail" "has_trail" (defArgs (top 23)) (defBody (top 23)) (defScope (top 23)) .none kV11 dc11 pm11 an11 cd11 ct11), sl11⟩)
    (c11 : PySem.W.codeIn K cd11 "has_trail" = true)
    (k11 : PySem.W.keepIn K (.ref f11) = true)
    (a12 : PySem.W.nsIn K mainGlobals "sides_of" = some (some (.ref f12)))
    (l12 : K.lookup f12 = some ⟨oc12, od12, .func (PySem.W.fnOf "sides_of" "sides_of" (defArgs (top 12)) (defBody (top 12)) (defScope (top 12)) .none kV12 dc12 pm12 an12 cd12 ct12), sl12⟩)
    (c12 : PySem.W.codeIn K cd12 "sides_of" = true)
    (k12 : PySem.W.keepIn K (.ref f12) = true)
    (a13 : PySem.W.nsIn K mainGlobals "gone_on" = some (some (.ref f13)))
    (l13 : K.lookup f13 = some ⟨oc13, od13, .func (PySem.W.fnOf "gone_on" "gone_on" (defArgs (top 24)) (defBody (top 24)) (defScope (top 24)) .none kV13 dc13 pm13 an13 cd13 ct13), sl13⟩)
    (c13 : PySem.W.codeIn K cd13 "gone_on" = true)
    (k13 : PySem.W.keepIn K (.ref f13) = true)
    (a14 : PySem.W.nsIn K mainGlobals "trail" = some (some (.ref f14)))
    (l14 : K.lookup f14 = some ⟨oc14, od14, .func (PySem.W.fnOf "trail" "trail" (defArgs (top 25)) (defBody (top 25)) (defScope (top 25)) .none kV14 dc14 pm14 an14 cd14 ct14), sl14⟩)
    (c14 : PySem.W.codeIn K cd14 "trail" = true)
    (k14 : PySem.W.keepIn K (.ref f14) = true)
    (a15 : PySem.W.nsIn K mainGlobals "_law_asked" = some (some (.ref f15)))
    (l15 : K.lookup f15 = some ⟨oc15, od15, .func (PySem.W.fnOf "_law_asked" "_law_asked" (defArgs (top 37)) (defBody (top 37)) (defScope (top 37)) .none kV15 dc15 pm15 an15 cd15 ct15), sl15⟩)
    (c15 : PySem.W.codeIn K cd15 "_law_asked" = true)
    (k15 : PySem.W.keepIn K (.ref f15) = true)
    (a16 : PySem.W.nsIn K mainGlobals "_law_is_trail" = some (some (.ref f16)))
    (l16 : K.lookup f16 = some ⟨oc16, od16, .func (PySem.W.fnOf "_law_is_trail" "_law_is_trail" (defArgs (top 35)) (defBody (top 35)) (defScope (top 35)) .none kV16 dc16 pm16 an16 cd16 ct16), sl16⟩)
    (c16 : PySem.W.codeIn K cd16 "_law_is_trail" = true)
    (k16 : PySem.W.keepIn K (.ref f16) = true)
    (a17 : PySem.W.nsIn K mainGlobals "_law_bent" = some (some (.ref f17)))
    (l17 : K.lookup f17 = some ⟨oc17, od17, .func (PySem.W.fnOf "_law_bent" "_law_bent" (defArgs (top 36)) (defBody (top 36)) (defScope (top 36)) .none kV17 dc17 pm17 an17 cd17 ct17), sl17⟩)
    (c17 : PySem.W.codeIn K cd17 "_law_bent" = true)
    (k17 : PySem.W.keepIn K (.ref f17) = true)
    (a18 : PySem.W.nsIn K mainGlobals "is_cell" = some (some (.ref f18)))
    (l18 : K.lookup f18 = some ⟨oc18, od18, .func (PySem.W.fnOf "is_cell" "is_cell" (defArgs (top 11)) (defBody (top 11)) (defScope (top 11)) .none kV18 dc18 pm18 an18 cd18 ct18), sl18⟩)
    (c18 : PySem.W.codeIn K cd18 "is_cell" = true)
    (k18 : PySem.W.keepIn K (.ref f18) = true)
    (a19 : PySem.W.nsIn K mainGlobals "are_all" = some (some (.ref f19)))
    (l19 : K.lookup f19 = some ⟨oc19, od19, .func (PySem.W.fnOf "are_all" "are_all" (defArgs (top 19)) (defBody (top 19)) (defScope (top 19)) .none kV19 dc19 pm19 an19 (.ref cc19) ct19), sl19⟩)
    (c19 : PySem.W.codeIn K (.ref cc19) "are_all" = true)
    (k19 : PySem.W.keepIn K (.ref f19) = true)
    (t19 : PySem.W.tabIn K "are_all" = some (cc19, T19))
    (r19 : ((recsOf q).any fun e => e.name == ("are_all" : Str)) = true)
    (n19 : K.lookup T19 = none)
    (a20 : PySem.W.nsIn K mainGlobals "are_beside" = some (some (.ref f20)))
    (l20 : K.lookup f20 = some ⟨oc20, od20, .func (PySem.W.fnOf "are_beside" "are_beside" (defArgs (top 18)) (defBody (top 18)) (defScope (top 18)) .none kV20 dc20 pm20 an20 (.ref cc20) ct20), sl20⟩)
    (c20 : PySem.W.codeIn K (.ref cc20) "are_beside" = true)
    (k20 : PySem.W.keepIn K (.ref f20) = true)
    (t20 : PySem.W.tabIn K "are_beside" = some (cc20, T20))
    (r20 : ((recsOf q).any fun e => e.name == ("are_beside" : Str)) = true)
    (n20 : K.lookup T20 = none)
    (a21 : PySem.W.nsIn K mainGlobals "is_trail" = some (some (.ref f21)))
    (l21 : K.lookup f21 = some ⟨oc21, od21, .func (PySem.W.fnOf "is_trail" "is_trail" (defArgs (top 26)) (defBody (top 26)) (defScope (top 26)) .none kV21 dc21 pm21 an21 cd21 ct21), sl21⟩)
    (c21 : PySem.W.codeIn K cd21 "is_trail" = true)
    (k21 : PySem.W.keepIn K (.ref f21) = true)
    (a22 : PySem.W.nsIn K mainGlobals "_law_is_small" = some (some (.ref f22)))
    (l22 : K.lookup f22 = some ⟨oc22, od22, .func (PySem.W.fnOf "_law_is_small" "_law_is_small" (defArgs (top 38)) (defBody (top 38)) (defScope (top 38)) .none kV22 dc22 pm22 an22 cd22 ct22), sl22⟩)
    (c22 : PySem.W.codeIn K cd22 "_law_is_small" = true)
    (k22 : PySem.W.keepIn K (.ref f22) = true)
    (a23 : PySem.W.nsIn K mainGlobals "_law_rule" = some (some (.ref f23)))
    (l23 : K.lookup f23 = some ⟨oc23, od23, .func (PySem.W.fnOf "_law_rule" "_law_rule" (defArgs (top 34)) (defBody (top 34)) (defScope (top 34)) .none kV23 dc23 pm23 an23 cd23 ct23), sl23⟩)
    (c23 : PySem.W.codeIn K cd23 "_law_rule" = true)
    (k23 : PySem.W.keepIn K (.ref f23) = true)
    (a24 : PySem.W.nsIn K mainGlobals "law" = some (some (.ref f24)))
    (l24 : K.lookup f24 = some ⟨oc24, od24, .func (PySem.W.fnOf "law" "law" (defArgs (top 39)) (defBody (top 39)) (defScope (top 39)) .none kV24 dc24 pm24 an24 cd24 ct24), sl24⟩)
    (c24 : PySem.W.codeIn K cd24 "law" = true)
    (k24 : PySem.W.keepIn K (.ref f24) = true)
    (aw : PySem.W.nsIn K mainGlobals "_law_word" = some (some (.ref fw)))
    (lw : K.lookup fw = some ⟨ocw, odw, .func (PySem.W.fnOf "_law_word" "_law_word" (defArgs (top 31)) (defBody (top 31)) (defScope (top 31)) .none kVw dcw pmw anw cdw ctw), slw⟩)
    (cw : PySem.W.codeIn K cdw "_law_word" = true)
    (kw : PySem.W.keepIn K (.ref fw) = true)
    (ca0 : PySem.W.nsIn K mainGlobals "RightError" = some (some (.ref C0)))
    (ca1 : PySem.W.nsIn K mainGlobals "OutOfRange" = some (some (.ref C1)))
    (ca2 : PySem.W.nsIn K mainGlobals "Malformed" = some (some (.ref C2)))
    (ca3 : PySem.W.nsIn K mainGlobals "NotThere" = some (some (.ref C3)))
    (ca4 : PySem.W.nsIn K mainGlobals "Refused" = some (some (.ref C4)))
    (ca5 : PySem.W.nsIn K mainGlobals "TooMuch" = some (some (.ref C5)))
    (ck1 : PySem.W.keepIn K (.ref C1) = true)
    (cs1 : PySem.W.subIn K (.ref C1) (.type "BaseException") = some true)
    (ct1_ : PySem.W.typeIn K (.ref C1) = some (.type "type"))
    (ce1 : PySem.W.excIn K C1 [.type "ValueError", .type "Exception", .type "BaseException", .type "object"] "ValueError.__new__" = true)
    (ck3 : PySem.W.keepIn K (.ref C3) = true)
    (cs3 : PySem.W.subIn K (.ref C3) (.type "BaseException") = some true)
    (ct3_ : PySem.W.typeIn K (.ref C3) = some (.type "type"))
    (ce3 : PySem.W.excIn K C3 [.type "ValueError", .type "Exception", .type "BaseException", .type "object"] "ValueError.__new__" = true)
    (ck5 : PySem.W.keepIn K (.ref C5) = true)
    (cs5 : PySem.W.subIn K (.ref C5) (.type "BaseException") = some true)
    (ct5_ : PySem.W.typeIn K (.ref C5) = some (.type "type"))
    (ce5 : PySem.W.excIn K C5 [.type "ValueError", .type "Exception", .type "BaseException", .type "object"] "ValueError.__new__" = true)
    (ck0 : PySem.W.keepIn K (.ref C0) = true)
    (cs0 : PySem.W.subIn K (.ref C0) (.type "BaseException") = some true)
    (ct0_ : PySem.W.typeIn K (.ref C0) = some (.type "type"))
    (ce0 : PySem.W.excIn K C0 [.type "ValueError", .type "Exception", .type "BaseException", .type "object"] "ValueError.__new__" = true)
    (x1_1 : PySem.W.findIn K (.ref C1) "__getattribute__" = some (some (.builtin "BaseException.__getattribute__")))
    (x2_1 : PySem.W.findIn K (.ref C1) "__getattr__" = some none)
    (x4_1 : PySem.W.hasDictIn K C1 = true)
    (x5_1 : PySem.W.findIn K (.ref C1) "__class__" = some (some (.builtin "object.__class__")))
    (x8_1 : PySem.W.mroIn K C1 (.type "object") = some true)
    (y1_1 : PySem.W.kitOne K (.ref C1) (.ref C1) = some true)
    (y1_2 : PySem.W.kitOne K (.ref C1) (.ref C2) = some false)
    (y1_3 : PySem.W.kitOne K (.ref C1) (.ref C3) = some false)
    (y1_4 : PySem.W.kitOne K (.ref C1) (.ref C4) = some false)
    (y1_5 : PySem.W.kitOne K (.ref C1) (.ref C5) = some false)
    (e1 : PySem.W.exmOne K (.ref C1) (.ref C0) = some true)
    (x1_3 : PySem.W.findIn K (.ref C3) "__getattribute__" = some (some (.builtin "BaseException.__getattribute__")))
    (x2_3 : PySem.W.findIn K (.ref C3) "__getattr__" = some none)
    (x4_3 : PySem.W.hasDictIn K C3 = true)
    (x5_3 : PySem.W.findIn K (.ref C3) "__class__" = some (some (.builtin "object.__class__")))
    (x8_3 : PySem.W.mroIn K C3 (.type "object") = some true)
    (y3_1 : PySem.W.kitOne K (.ref C3) (.ref C1) = some false)
    (y3_2 : PySem.W.kitOne K (.ref C3) (.ref C2) = some false)
    (y3_3 : PySem.W.kitOne K (.ref C3) (.ref C3) = some true)
    (y3_4 : PySem.W.kitOne K (.ref C3) (.ref C4) = some false)
    (y3_5 : PySem.W.kitOne K (.ref C3) (.ref C5) = some false)
    (e3 : PySem.W.exmOne K (.ref C3) (.ref C0) = some true)
    (x1_5 : PySem.W.findIn K (.ref C5) "__getattribute__" = some (some (.builtin "BaseException.__getattribute__")))
    (x2_5 : PySem.W.findIn K (.ref C5) "__getattr__" = some none)
    (x4_5 : PySem.W.hasDictIn K C5 = true)
    (x5_5 : PySem.W.findIn K (.ref C5) "__class__" = some (some (.builtin "object.__class__")))
    (x8_5 : PySem.W.mroIn K C5 (.type "object") = some true)
    (y5_1 : PySem.W.kitOne K (.ref C5) (.ref C1) = some false)
    (y5_2 : PySem.W.kitOne K (.ref C5) (.ref C2) = some false)
    (y5_3 : PySem.W.kitOne K (.ref C5) (.ref C3) = some false)
    (y5_4 : PySem.W.kitOne K (.ref C5) (.ref C4) = some false)
    (y5_5 : PySem.W.kitOne K (.ref C5) (.ref C5) = some true)
    (e5 : PySem.W.exmOne K (.ref C5) (.ref C0) = some true)
    (x6 : PySem.W.specialIn K (.builtin "object.__class__") "__get__" = some (some (.builtin "getset_descriptor.__get__")))
    (x7 : PySem.W.takesIn K (.builtin "object.__class__") = some true)
    (z_abs : PySem.W.nsIn K mainGlobals "abs" = some none)
    (z_int : PySem.W.nsIn K mainGlobals "int" = some none)
    (z_range : PySem.W.nsIn K mainGlobals "range" = some none)
    (z_len : PySem.W.nsIn K mainGlobals "len" = some none)
    (z_list : PySem.W.nsIn K mainGlobals "list" = some none)
    (z_reversed : PySem.W.nsIn K mainGlobals "reversed" = some none)
    (z_sorted : PySem.W.nsIn K mainGlobals "sorted" = some none)
    (z_isinstance : PySem.W.nsIn K mainGlobals "isinstance" = some none)
    (z_tuple : PySem.W.nsIn K mainGlobals "tuple" = some none)
    (z_bool : PySem.W.nsIn K mainGlobals "bool" = some none)
    (z_str : PySem.W.nsIn K mainGlobals "str" = some none)
    (z_any : PySem.W.nsIn K mainGlobals "any" = some none)
    (z_min : PySem.W.nsIn K mainGlobals "min" = some none)
    (z_max : PySem.W.nsIn K mainGlobals "max" = some none)
    (z_all : PySem.W.nsIn K mainGlobals "all" = some none)
    (gc0 : PySem.W.nsIn K mainGlobals "MOST_SIDE" = some (some u0))
    (hc0 : RelV (V.int (10)) u0)
    (gc1 : PySem.W.nsIn K mainGlobals "MOST_SEARCHED" = some (some u1))
    (hc1 : RelV (V.int (20)) u1)
    (gc2 : PySem.W.nsIn K mainGlobals "MOST_COORDINATE" = some (some u2))
    (hc2 : RelV (V.int (9)) u2)
    (hlaw : ∀ ns : List Int, ns.length ≤ 63 → (∀ z ∈ ns, Builtin.Int.intBits z ≤ 1048576) → ∃ μ, run tbl sub 1000 word 30 24 [.lck (.lst (ns.map D.int))] [] = .ok (.bl true) μ) :
    LamX.LawAtS l w K (L2N.CX l.prog w) 91 63 "script" mg fa h := by
  letI : Tabs := ⟨[T9, T19, T20], w⟩
  have e := hfa.symm.trans (PySem.W.mg_of KX G a24)
  cases e
  obtain ⟨cl, hcl⟩ : ∃ cl : Nat → Addr, cl = fun i => match i with | 0 => C0 | 1 => C1 | 2 => C2 | 3 => C3 | 4 => C4 | 5 => C5 | _ => C0 := ⟨_, rfl⟩
  have q0 : cl 0 = C0 := congrFun hcl 0
  have q1 : cl 1 = C1 := congrFun hcl 1
  have q2 : cl 2 = C2 := congrFun hcl 2
  have q3 : cl 3 = C3 := congrFun hcl 3
  have q4 : cl 4 = C4 := congrFun hcl 4
  have q5 : cl 5 = C5 := congrFun hcl 5
  refine ⟨PySem.W.fnOf "law" "law" (defArgs (top 39)) (defBody (top 39)) (defScope (top 39)) .none kV24 dc24 pm24 an24 cd24 ct24, [(cc9, T9), (cc19, T19), (cc20, T20)], spG K cl (run tbl sub 1000 word 30 24) 1, ?_, ?_, ?_, fun s u => .of_eq rfl, ?_, fun base kb gb tb => ?_⟩
  · exact ac ((TK _ _ _ r9 t9).2) (ac ((TK _ _ _ r19 t19).2) (ac ((TK _ _ _ r20 t20).2) ((List.forall_mem_nil _))))
  · exact ac (n9) (ac (n19) (ac (n20) ((List.forall_mem_nil _))))
  · exact ac ((TK _ _ _ r9 t9).1) (ac ((TK _ _ _ r19 t19).1) (ac ((TK _ _ _ r20 t20).1) ((List.forall_mem_nil _))))
  · exact law_in (cs := [(cc9, T9), (cc19, T19), (cc20, T20)]) (fun T hT => List.mem_map.mp (show T ∈ List.map (·.2) [(cc9, T9), (cc19, T19), (cc20, T20)] from hT)) hlaw
  · obtain ⟨P, eP⟩ : ∃ P : Program, P = l.prog := ⟨_, rfl⟩
    rw [← eP]
    have D0 : Df P w K mg base cl lay tbl sub 1000 word 0 "_law_draws" 1 := df_mk (N := N0) (g := false) (PySem.W.mg_of KX G a0) l0 c0 k0 (fun _ _ _ _ _ _ us hl => match us, hl with | [_], _ => rfl) sc0 rfl (fun h => nomatch h) (fun F => d0 F)
    have D1 : Df P w K mg base cl lay tbl sub 1000 word 1 "_law_take" 2 := df_mk (N := N1) (g := false) (PySem.W.mg_of KX G a1) l1 c1 k1 (fun _ _ _ _ _ _ us hl => match us, hl with | [_, _], _ => rfl) sc1 rfl (fun h => nomatch h) (fun F => d1 F)
    have D2 : Df P w K mg base cl lay tbl sub 1000 word 2 "_law_grid" 2 := df_mk (N := N2) (g := false) (PySem.W.mg_of KX G a2) l2 c2 k2 (fun _ _ _ _ _ _ us hl => match us, hl with | [_, _], _ => rfl) sc2 rfl (fun h => nomatch h) (fun F => d2 F)
    have D3 : Df P w K mg base cl lay tbl sub 1000 word 3 "_law_ends" 3 := df_mk (N := N3) (g := false) (PySem.W.mg_of KX G a3) l3 c3 k3 (fun _ _ _ _ _ _ us hl => match us, hl with | [_, _, _], _ => rfl) sc3 rfl (fun h => nomatch h) (fun F => d3 F)
    have D4 : Df P w K mg base cl lay tbl sub 1000 word 4 "_law_alike" 2 := df_mk (N := N4) (g := false) (PySem.W.mg_of KX G a4) l4 c4 k4 (fun _ _ _ _ _ _ us hl => match us, hl with | [_, _], _ => rfl) sc4 rfl (fun h => nomatch h) (fun F => d4 F)
    have D5 : Df P w K mg base cl lay tbl sub 1000 word 5 "is_number" 3 := df_mk (N := N5) (g := false) (PySem.W.mg_of KX G a5) l5 c5 k5 (fun _ _ _ _ _ _ us hl => match us, hl with | [_, _, _], _ => rfl) sc5 rfl (fun h => nomatch h) (fun F => d5 F)
    have D6 : Df P w K mg base cl lay tbl sub 1000 word 6 "check_sides" 2 := df_mk (N := N6) (g := false) (PySem.W.mg_of KX G a6) l6 c6 k6 (fun _ _ _ _ _ _ us hl => match us, hl with | [_, _], _ => rfl) sc6 rfl (fun h => nomatch h) (fun F => d6 F)
    have D7 : Df P w K mg base cl lay tbl sub 1000 word 7 "grid" 2 := df_mk (N := N7) (g := false) (PySem.W.mg_of KX G a7) l7 c7 k7 (fun _ _ _ _ _ _ us hl => match us, hl with | [_, _], _ => rfl) sc7 rfl (fun h => nomatch h) (fun F => d7 F)
    have D8 : Df P w K mg base cl lay tbl sub 1000 word 8 "is_barred" 3 := df_mk (N := N8) (g := false) (PySem.W.mg_of KX G a8) l8 c8 k8 (fun _ _ _ _ _ _ us hl => match us, hl with | [_, _, _], _ => rfl) sc8 rfl (fun h => nomatch h) (fun F => d8 F)
    have D9 : Df P w K mg base cl lay tbl sub 1000 word 9 "is_three" 3 := df_mk (N := N9) (g := true) (PySem.W.mg_of KX G a9) l9 c9 k9 (fun _ _ _ _ _ _ us hl => match us, hl with | [_, _, _], _ => rfl) sc9 rfl (fun _ => ⟨cc9, T9, rfl, (show T9 ∈ [T9, T19, T20] by simp), TabX (tb (cc9, T9) (by simp))⟩) (fun F => d9 F)
    have D10 : Df P w K mg base cl lay tbl sub 1000 word 10 "rule" 4 := df_mk (N := N10) (g := false) (PySem.W.mg_of KX G a10) l10 c10 k10 (fun _ _ _ _ _ _ us hl => match us, hl with | [_, _, _, _], _ => rfl) sc10 rfl (fun h => nomatch h) (fun F => d10 F)
    have D11 : Df P w K mg base cl lay tbl sub 1000 word 11 "has_trail" 4 := df_mk (N := N11) (g := false) (PySem.W.mg_of KX G a11) l11 c11 k11 (fun _ _ _ _ _ _ us hl => match us, hl with | [_, _, _, _], _ => rfl) sc11 rfl (fun h => nomatch h) (fun F => d11 F)
    have D12 : Df P w K mg base cl lay tbl sub 1000 word 12 "sides_of" 1 := df_mk (N := N12) (g := false) (PySem.W.mg_of KX G a12) l12 c12 k12 (fun _ _ _ _ _ _ us hl => match us, hl with | [_], _ => rfl) sc12 rfl (fun h => nomatch h) (fun F => d12 F)
    have D13 : Df P w K mg base cl lay tbl sub 1000 word 13 "gone_on" 4 := df_mk (N := N13) (g := false) (PySem.W.mg_of KX G a13) l13 c13 k13 (fun _ _ _ _ _ _ us hl => match us, hl with | [_, _, _, _], _ => rfl) sc13 rfl (fun h => nomatch h) (fun F => d13 F)
    have D14 : Df P w K mg base cl lay tbl sub 1000 word 14 "trail" 4 := df_mk (N := N14) (g := false) (PySem.W.mg_of KX G a14) l14 c14 k14 (fun _ _ _ _ _ _ us hl => match us, hl with | [_, _, _, _], _ => rfl) sc14 rfl (fun h => nomatch h) (fun F => d14 F)
    have D15 : Df P w K mg base cl lay tbl sub 1000 word 15 "_law_asked" 5 := df_mk (N := N15) (g := false) (PySem.W.mg_of KX G a15) l15 c15 k15 (fun _ _ _ _ _ _ us hl => match us, hl with | [_, _, _, _, _], _ => rfl) sc15 rfl (fun h => nomatch h) (fun F => d15 F)
    have D16 : Df P w K mg base cl lay tbl sub 1000 word 16 "_law_is_trail" 5 := df_mk (N := N16) (g := false) (PySem.W.mg_of KX G a16) l16 c16 k16 (fun _ _ _ _ _ _ us hl => match us, hl with | [_, _, _, _, _], _ => rfl) sc16 rfl (fun h => nomatch h) (fun F => d16 F)
    have D17 : Df P w K mg base cl lay tbl sub 1000 word 17 "_law_bent" 2 := df_mk (N := N17) (g := false) (PySem.W.mg_of KX G a17) l17 c17 k17 (fun _ _ _ _ _ _ us hl => match us, hl with | [_, _], _ => rfl) sc17 rfl (fun h => nomatch h) (fun F => d17 F)
    have D18 : Df P w K mg base cl lay tbl sub 1000 word 18 "is_cell" 1 := df_mk (N := N18) (g := false) (PySem.W.mg_of KX G a18) l18 c18 k18 (fun _ _ _ _ _ _ us hl => match us, hl with | [_], _ => rfl) sc18 rfl (fun h => nomatch h) (fun F => d18 F)
    have D19 : Df P w K mg base cl lay tbl sub 1000 word 19 "are_all" 3 := df_mk (N := N19) (g := true) (PySem.W.mg_of KX G a19) l19 c19 k19 (fun _ _ _ _ _ _ us hl => match us, hl with | [_, _, _], _ => rfl) sc19 rfl (fun _ => ⟨cc19, T19, rfl, (show T19 ∈ [T9, T19, T20] by simp), TabX (tb (cc19, T19) (by simp))⟩) (fun F => d19 F)
    have D20 : Df P w K mg base cl lay tbl sub 1000 word 20 "are_beside" 1 := df_mk (N := N20) (g := true) (PySem.W.mg_of KX G a20) l20 c20 k20 (fun _ _ _ _ _ _ us hl => match us, hl with | [_], _ => rfl) sc20 rfl (fun _ => ⟨cc20, T20, rfl, (show T20 ∈ [T9, T19, T20] by simp), TabX (tb (cc20, T20) (by simp))⟩) (fun F => d20 F)
    have D21 : Df P w K mg base cl lay tbl sub 1000 word 21 "is_trail" 5 := df_mk (N := N21) (g := false) (PySem.W.mg_of KX G a21) l21 c21 k21 (fun _ _ _ _ _ _ us hl => match us, hl with | [_, _, _, _, _], _ => rfl) sc21 rfl (fun h => nomatch h) (fun F => d21 F)
    have D22 : Df P w K mg base cl lay tbl sub 1000 word 22 "_law_is_small" 1 := df_mk (N := N22) (g := false) (PySem.W.mg_of KX G a22) l22 c22 k22 (fun _ _ _ _ _ _ us hl => match us, hl with | [_], _ => rfl) sc22 rfl (fun h => nomatch h) (fun F => d22 F)
    have D23 : Df P w K mg base cl lay tbl sub 1000 word 23 "_law_rule" 4 := df_mk (N := N23) (g := false) (PySem.W.mg_of KX G a23) l23 c23 k23 (fun _ _ _ _ _ _ us hl => match us, hl with | [_, _, _, _], _ => rfl) sc23 rfl (fun h => nomatch h) (fun F => d23 F)
    have D24 : Df P w K mg base cl lay tbl sub 1000 word 24 "law" 1 := df_mk (N := N24) (g := false) (PySem.W.mg_of KX G a24) l24 c24 k24 (fun _ _ _ _ _ _ us hl => match us, hl with | [_], _ => rfl) sc24 rfl (fun h => nomatch h) (fun F => d24 F)
    have B : Wb K mg cl (cfgN tbl sub 1000 word 0) wjs := by
      refine ⟨PySem.W.mg_none_of KX G z_isinstance, PySem.W.mg_none_of KX G z_len, ac (by rw [q1]; exact PySem.W.mg_of KX G ca1) (ac (by rw [q2]; exact PySem.W.mg_of KX G ca2) (ac (by rw [q3]; exact PySem.W.mg_of KX G ca3) (ac (by rw [q4]; exact PySem.W.mg_of KX G ca4) (ac (by rw [q5]; exact PySem.W.mg_of KX G ca5) ((List.forall_mem_nil _)))))), fun q wd hq => ?_, fun q wd hq => ?_⟩
      · replace hq : word q = some (.str wd) := hq
        unfold word at hq
        split at hq
        · rw [q1]; exact ⟨x1_1, x2_1, cs1, x4_1, x5_1, x6, x7, x8_1⟩
        · rw [q3]; exact ⟨x1_3, x2_3, cs3, x4_3, x5_3, x6, x7, x8_3⟩
        · rw [q5]; exact ⟨x1_5, x2_5, cs5, x4_5, x5_5, x6, x7, x8_5⟩
        · cases hq
      · replace hq : word q = some (.str wd) := hq
        unfold word at hq
        split at hq
        · exact ac (by rw [q1]; exact y1_1) (ac (by rw [q1, q2]; exact y1_2) (ac (by rw [q1, q3]; exact y1_3) (ac (by rw [q1, q4]; exact y1_4) (ac (by rw [q1, q5]; exact y1_5) ((List.forall_mem_nil _))))))
        · exact ac (by rw [q3, q1]; exact y3_1) (ac (by rw [q3, q2]; exact y3_2) (ac (by rw [q3]; exact y3_3) (ac (by rw [q3, q4]; exact y3_4) (ac (by rw [q3, q5]; exact y3_5) ((List.forall_mem_nil _))))))
        · exact ac (by rw [q5, q1]; exact y5_1) (ac (by rw [q5, q2]; exact y5_2) (ac (by rw [q5, q3]; exact y5_3) (ac (by rw [q5, q4]; exact y5_4) (ac (by rw [q5]; exact y5_5) ((List.forall_mem_nil _))))))
        · cases hq
    have GC : Gc P w K mg base cl sub word lay := by
      refine ⟨rfl, ?_, ?_, ?_, ?_, ?_, ?_⟩
      · exact ac (PySem.W.mg_none_of KX G z_abs) (ac (PySem.W.mg_none_of KX G z_int) (ac (PySem.W.mg_none_of KX G z_range) (ac (PySem.W.mg_none_of KX G z_len) (ac (PySem.W.mg_none_of KX G z_list) (ac (PySem.W.mg_none_of KX G z_reversed) (ac (PySem.W.mg_none_of KX G z_sorted) (ac (PySem.W.mg_none_of KX G z_isinstance) (ac (PySem.W.mg_none_of KX G z_tuple) (ac (PySem.W.mg_none_of KX G z_bool) (ac (PySem.W.mg_none_of KX G z_str) (ac (PySem.W.mg_none_of KX G z_any) (ac (PySem.W.mg_none_of KX G z_min) (ac (PySem.W.mg_none_of KX G z_max) (ac (PySem.W.mg_none_of KX G z_all) ((List.forall_mem_nil _))))))))))))))))
      · exact ac (by rw [q1]; exact ⟨PySem.W.mg_of KX G ca1, ck1, cs1, ct1_, _, _, _, _, PySem.F.excBase_ValueError, ce1⟩) (ac (by rw [q3]; exact ⟨PySem.W.mg_of KX G ca3, ck3, cs3, ct3_, _, _, _, _, PySem.F.excBase_ValueError, ce3⟩) (ac (by rw [q5]; exact ⟨PySem.W.mg_of KX G ca5, ck5, cs5, ct5_, _, _, _, _, PySem.F.excBase_ValueError, ce5⟩) (ac (by rw [q0]; exact ⟨PySem.W.mg_of KX G ca0, ck0, cs0, ct0_, _, _, _, _, PySem.F.excBase_ValueError, ce0⟩) ((List.forall_mem_nil _)))))
      · exact ac (⟨_, PySem.W.mg_of KX G gc0, hc0⟩) (ac (⟨_, PySem.W.mg_of KX G gc1, hc1⟩) (ac (⟨_, PySem.W.mg_of KX G gc2, hc2⟩) ((List.forall_mem_nil _))))
      · refine ac ?_ (List.forall_mem_nil _)
        intro q d hq
        unfold word at hq
        split at hq
        · rw [q1, q0]; exact e1
        · rw [q3, q0]; exact e3
        · rw [q5, q0]; exact e5
        · cases hq
      · intro q d hq
        unfold word at hq
        split at hq
        · cases hq; exact ⟨_, rfl, by decide +kernel, by decide +kernel⟩
        · cases hq; exact ⟨_, rfl, by decide +kernel, by decide +kernel⟩
        · cases hq; exact ⟨_, rfl, by decide +kernel, by decide +kernel⟩
        · cases hq
      · exact ac ⟨fw, _, "e", word_ok rfl (c := cfgN tbl sub 1000 word 0) (fun_mk lw cw kw) B rfl rfl, PySem.W.mg_of KX G aw, kw, (fun_mk lw cw kw).binds fun _ _ _ _ _ _ us hl => match us, hl with | [_], _ => rfl⟩ (List.forall_mem_nil _)
    have GB := gb_all (L := lay) (tbl := tbl) (sub := sub) (WW := 1000) (word := word) (ac (D0) (ac (D1) (ac (D2) (ac (D3) (ac (D4) (ac (D5) (ac (D6) (ac (D7) (ac (D8) (ac (D9) (ac (D10) (ac (D11) (ac (D12) (ac (D13) (ac (D14) (ac (D15) (ac (D16) (ac (D17) (ac (D18) (ac (D19) (ac (D20) (ac (D21) (ac (D22) (ac (D23) (ac (D24) ((List.forall_mem_nil _))))))))))))))))))))))))))) GC 29
    exact df_core (N := N24) (ps := ["script"]) (g := false) l24 c24 sc24 rfl (fun h => nomatch h) (fun F => d24 F) 29 _ GB
end K74
end

section
set_option Elab.async false
set_option maxRecDepth 100000
open PySem PySem.W PyProof.Rows
set_option maxHeartbeats 0 in
theorem PySem.Challenge.cw_setright_k74_whole_trails_through_grids_holds : PySem.Challenge.rw_setright_k74_whole_trails_through_grids.Holds := by
  w_on; o_law; k_head; (case hw => w_witness2)
  k_fill
  refine Py.walk_py (l := PySem.Challenge.rw_setright_k74_whole_trails_through_grids) (n := 63) (k := 91) (x := "script") (CX := fun w => L2N.CX (PySem.Challenge.rw_setright_k74_whole_trails_through_grids).prog w) rfl (by decide) rfl ⟨rfl, by decide, by decide⟩ (fun w h Y => PySem.W.kIn_of Y) ?F (fun _ _ _ _ _ z => Py.cx_out z)
  case F =>
    intro w mg fa h Y KX G hmg TK
    refine' K74.all_mk KX G hmg TK ?a0 ?l0 ?c0 ?k0 ?a1 ?l1 ?c1 ?k1 ?a2 ?l2 ?c2 ?k2 ?a3 ?l3 ?c3 ?k3 ?a4 ?l4 ?c4 ?k4 ?a5 ?l5 ?c5 ?k5 ?a6 ?l6 ?c6 ?k6 ?a7 ?l7 ?c7 ?k7 ?a8 ?l8 ?c8 ?k8 ?a9 ?l9 ?c9 ?k9 ?t9 ?r9 ?n9 ?a10 ?l10 ?c10 ?k10 ?a11 ?l11 ?c11 ?k11 ?a12 ?l12 ?c12 ?k12 ?a13 ?l13 ?c13 ?k13 ?a14 ?l14 ?c14 ?k14 ?a15 ?l15 ?c15 ?k15 ?a16 ?l16 ?c16 ?k16 ?a17 ?l17 ?c17 ?k17 ?a18 ?l18 ?c18 ?k18 ?a19 ?l19 ?c19 ?k19 ?t19 ?r19 ?n19 ?a20 ?l20 ?c20 ?k20 ?t20 ?r20 ?n20 ?a21 ?l21 ?c21 ?k21 ?a22 ?l22 ?c22 ?k22 ?a23 ?l23 ?c23 ?k23 ?a24 ?l24 ?c24 ?k24 ?aw ?lw ?cw ?kw ?ca0 ?ca1 ?ca2 ?ca3 ?ca4 ?ca5 ?ck1 ?cs1 ?ct1_ ?ce1 ?ck3 ?cs3 ?ct3_ ?ce3 ?ck5 ?cs5 ?ct5_ ?ce5 ?ck0 ?cs0 ?ct0_ ?ce0 ?x1_1 ?x2_1 ?x4_1 ?x5_1 ?x8_1 ?y1_1 ?y1_2 ?y1_3 ?y1_4 ?y1_5 ?e1 ?x1_3 ?x2_3 ?x4_3 ?x5_3 ?x8_3 ?y3_1 ?y3_2 ?y3_3 ?y3_4 ?y3_5 ?e3 ?x1_5 ?x2_5 ?x4_5 ?x5_5 ?x8_5 ?y5_1 ?y5_2 ?y5_3 ?y5_4 ?y5_5 ?e5 ?x6 ?x7 ?z_abs ?z_int ?z_range ?z_len ?z_list ?z_reversed ?z_sorted ?z_isinstance ?z_tuple ?z_bool ?z_str ?z_any ?z_min ?z_max ?z_all ?gc0 ?hc0 ?gc1 ?hc1 ?gc2 ?hc2 ?hlaw
    (case a0 => k_is)
    (case l0 => k_is)
    (case c0 => k_is)
    (case k0 => k_is)
    (case a1 => k_is)
    (case l1 => k_is)
    (case c1 => k_is)
    (case k1 => k_is)
    (case a2 => k_is)
    (case l2 => k_is)
    (case c2 => k_is)
    (case k2 => k_is)
    (case a3 => k_is)
    (case l3 => k_is)
    (case c3 => k_is)
    (case k3 => k_is)
    (case a4 => k_is)
    (case l4 => k_is)
    (case c4 => k_is)
    (case k4 => k_is)
    (case a5 => k_is)
    (case l5 => k_is)
    (case c5 => k_is)
    (case k5 => k_is)
    (case a6 => k_is)
    (case l6 => k_is)
    (case c6 => k_is)
    (case k6 => k_is)
    (case a7 => k_is)
    (case l7 => k_is)
    (case c7 => k_is)
    (case k7 => k_is)
    (case a8 => k_is)
    (case l8 => k_is)
    (case c8 => k_is)
    (case k8 => k_is)
    (case a9 => k_is)
    (case l9 => k_is)
    (case c9 => k_is)
    (case k9 => k_is)
    (case t9 => exact Py.tab_mk (by k_is) (by k_is) (by rfl) (by k_is) (by rfl))
    (case r9 => first | rfl | decide +kernel | k_is)
    (case n9 => first | kernel_rfl | rfl | with_unfolding_all rfl)
    (case a10 => k_is)
    (case l10 => k_is)
    (case c10 => k_is)
    (case k10 => k_is)
    (case a11 => k_is)
    (case l11 => k_is)
    (case c11 => k_is)
    (case k11 => k_is)
    (case a12 => k_is)
    (case l12 => k_is)
    (case c12 => k_is)
    (case k12 => k_is)
    (case a13 => k_is)
    (case l13 => k_is)
    (case c13 => k_is)
    (case k13 => k_is)
    (case a14 => k_is)
    (case l14 => k_is)
    (case c14 => k_is)
    (case k14 => k_is)
    (case a15 => k_is)
    (case l15 => k_is)
    (case c15 => k_is)
    (case k15 => k_is)
    (case a16 => k_is)
    (case l16 => k_is)
    (case c16 => k_is)
    (case k16 => k_is)
    (case a17 => k_is)
    (case l17 => k_is)
    (case c17 => k_is)
    (case k17 => k_is)
    (case a18 => k_is)
    (case l18 => k_is)
    (case c18 => k_is)
    (case k18 => k_is)
    (case a19 => k_is)
    (case l19 => k_is)
    (case c19 => k_is)
    (case k19 => k_is)
    (case t19 => exact Py.tab_mk (by k_is) (by k_is) (by rfl) (by k_is) (by rfl))
    (case r19 => first | rfl | decide +kernel | k_is)
    (case n19 => first | kernel_rfl | rfl | with_unfolding_all rfl)
    (case a20 => k_is)
    (case l20 => k_is)
    (case c20 => k_is)
    (case k20 => k_is)
    (case t20 => exact Py.tab_mk (by k_is) (by k_is) (by rfl) (by k_is) (by rfl))
    (case r20 => first | rfl | decide +kernel | k_is)
    (case n20 => first | kernel_rfl | rfl | with_unfolding_all rfl)
    (case a21 => k_is)
    (case l21 => k_is)
    (case c21 => k_is)
    (case k21 => k_is)
    (case a22 => k_is)
    (case l22 => k_is)
    (case c22 => k_is)
    (case k22 => k_is)
    (case a23 => k_is)
    (case l23 => k_is)
    (case c23 => k_is)
    (case k23 => k_is)
    (case a24 => k_is)
    (case l24 => k_is)
    (case c24 => k_is)
    (case k24 => k_is)
    (case aw => k_is)
    (case lw => k_is)
    (case cw => k_is)
    (case kw => k_is)
    (case ca0 => k_is)
    (case ca1 => k_is)
    (case ca2 => k_is)
    (case ca3 => k_is)
    (case ca4 => k_is)
    (case ca5 => k_is)
    (case ck1 => k_is)
    (case cs1 => k_is)
    (case ct1_ => k_is)
    (case ce1 => k_exc)
    (case ck3 => k_is)
    (case cs3 => k_is)
    (case ct3_ => k_is)
    (case ce3 => k_exc)
    (case ck5 => k_is)
    (case cs5 => k_is)
    (case ct5_ => k_is)
    (case ce5 => k_exc)
    (case ck0 => k_is)
    (case cs0 => k_is)
    (case ct0_ => k_is)
    (case ce0 => k_exc)
    (case x1_1 => k_is)
    (case x2_1 => k_is)
    (case x4_1 => k_is)
    (case x5_1 => k_is)
    (case x8_1 => k_is)
    (case y1_1 => exact Py.kit_ref (by k_is) (by k_is) (by k_is) (by decide))
    (case y1_2 => exact Py.kit_ref (by k_is) (by k_is) (by k_is) (by decide))
    (case y1_3 => exact Py.kit_ref (by k_is) (by k_is) (by k_is) (by decide))
    (case y1_4 => exact Py.kit_ref (by k_is) (by k_is) (by k_is) (by decide))
    (case y1_5 => exact Py.kit_ref (by k_is) (by k_is) (by k_is) (by decide))
    (case e1 => exact PySem.W.exm_ref (by k_is) (by k_is) (by k_is) (by k_is))
    (case x1_3 => k_is)
    (case x2_3 => k_is)
    (case x4_3 => k_is)
    (case x5_3 => k_is)
    (case x8_3 => k_is)
    (case y3_1 => exact Py.kit_ref (by k_is) (by k_is) (by k_is) (by decide))
    (case y3_2 => exact Py.kit_ref (by k_is) (by k_is) (by k_is) (by decide))
    (case y3_3 => exact Py.kit_ref (by k_is) (by k_is) (by k_is) (by decide))
    (case y3_4 => exact Py.kit_ref (by k_is) (by k_is) (by k_is) (by decide))
    (case y3_5 => exact Py.kit_ref (by k_is) (by k_is) (by k_is) (by decide))
    (case e3 => exact PySem.W.exm_ref (by k_is) (by k_is) (by k_is) (by k_is))
    (case x1_5 => k_is)
    (case x2_5 => k_is)
    (case x4_5 => k_is)
    (case x5_5 => k_is)
    (case x8_5 => k_is)
    (case y5_1 => exact Py.kit_ref (by k_is) (by k_is) (by k_is) (by decide))
    (case y5_2 => exact Py.kit_ref (by k_is) (by k_is) (by k_is) (by decide))
    (case y5_3 => exact Py.kit_ref (by k_is) (by k_is) (by k_is) (by decide))
    (case y5_4 => exact Py.kit_ref (by k_is) (by k_is) (by k_is) (by decide))
    (case y5_5 => exact Py.kit_ref (by k_is) (by k_is) (by k_is) (by decide))
    (case e5 => exact PySem.W.exm_ref (by k_is) (by k_is) (by k_is) (by k_is))
    (case x6 => k_is)
    (case x7 => k_is)
    (case z_abs => k_is)
    (case z_int => k_is)
    (case z_range => k_is)
    (case z_len => k_is)
    (case z_list => k_is)
    (case z_reversed => k_is)
    (case z_sorted => k_is)
    (case z_isinstance => k_is)
    (case z_tuple => k_is)
    (case z_bool => k_is)
    (case z_str => k_is)
    (case z_any => k_is)
    (case z_min => k_is)
    (case z_max => k_is)
    (case z_all => k_is)
    (case gc0 => k_is)
    (case hc0 => exact ⟨_, rfl⟩)
    (case gc1 => k_is)
    (case hc1 => exact ⟨_, rfl⟩)
    (case gc2 => k_is)
    (case hc2 => exact ⟨_, rfl⟩)
    case hlaw => exact K74.law_ok
end
