import PyProof.Rows.All
import Wide.All
import OpenK.AllK
import Wide.FinOn
import KE.LtData
import KE.KeyNested
import HandS.ForMost
import HandS.Deep
import HandS.Exc
import HandS.ExcOwn
import HandS.WordsExc
import HandS.TryOnly
import HandS.Walk
import HandS.Conv
import HandS.Zip
import HandS.IsInst
import HandS.Wide
import HandS.DictComp
import HandS.Defaults
import HandS.Lambda
import KE.KDictKeyed
import HandS.TupAny
import HandS.TupMul
import HandS.TupLe
import KE.DataCmp
import HandS.Style
import PyProof.SeqIndex
import KE.GoesEnum
import KE.GoesZip
import KE.GoesMore
import KE.KDictWalk
import KE.KDictDisplayH
import PyProof.DictTable
import KE.SortKeyHeap
import KE.KDictSum
import KE.KDictCopyH
import KE.DataMinMax
import HandS.SortKw
import HandS.ExcCtx
import HandS.HeadWalk
import HandS.HeadHook4
import HandS.Head2
import PySem.Challenge.RW_saidheard_k42_five_neighbours
set_option Elab.async false
set_option linter.all false
set_option maxRecDepth 100000
/-! The evaluator: an own small tree, run over plain data. -/
namespace SH
open PySem
abbrev D := PyData

/-- a run's end: a value, an exception of a class (by its number), or: not served -/
inductive R (A : Type) where
  | ok (a : A) | exc (c : Nat) | bad
def R.bind {A B : Type} : R A -> (A -> R B) -> R B
  | .ok a, f => f a
  | .exc c, _ => .exc c
  | .bad, _ => .bad
def R.calm {A : Type} : R A -> R A
  | .exc _ => .bad
  | r => r
def R.of {A : Type} : Option A -> R A
  | some a => .ok a
  | none => .bad
@[simp] theorem R.bind_ok {A B : Type} (a : A) (f : A -> R B) : (R.ok a).bind f = f a := rfl
@[simp] theorem R.bind_exc {A B : Type} (c : Nat) (f : A -> R B) : (R.exc c).bind f = .exc c := rfl
@[simp] theorem R.bind_bad {A B : Type} (f : A -> R B) : (R.bad).bind f = .bad := rfl
@[simp] theorem R.calm_ok {A : Type} (a : A) : (R.ok a).calm = .ok a := rfl
@[simp] theorem R.calm_exc {A : Type} (c : Nat) : (R.exc c : R A).calm = .bad := rfl
@[simp] theorem R.calm_bad {A : Type} : (R.bad : R A).calm = .bad := rfl
@[simp] theorem R.of_some {A : Type} (a : A) : R.of (some a) = .ok a := rfl
@[simp] theorem R.of_none {A : Type} : R.of (none : Option A) = .bad := rfl

/-- a name's thing: frozen (may be shared), or made here, unshared, that may be changed -/
inductive Cell where
  | fz (d : D) | ow (d : D)
abbrev En := List (Option Cell)
def lim : Nat := 16777216

/-! ### data -/
mutual
def ltD : D -> D -> Bool
  | .bool a, .bool b => !a && b
  | .int a, .int b => decide (a < b)
  | .str a, .str b => decide (a.cps.toList < b.cps.toList)
  | .list a, .list b => ltAll a b
  | .tuple a, .tuple b => ltAll a b
  | _, _ => false
def ltAll : List D -> List D -> Bool
  | [], _ :: _ => true
  | _, [] => false
  | x :: xs, y :: ys => if PyData.eqv x y = true then ltAll xs ys else ltD x y
end
def okEq (d : D) : Bool := SeqAt.shaped d
def eqD (a b : D) : Option Bool := if okEq a && okEq b then some (PyData.eqv a b) else none
def okLt (a b : D) : Bool := PySem.W.alike a b && (match a with | .none => false | _ => true) && okEq a && okEq b
def cltD (a b : D) : Option Bool := if okLt a b then some (ltD a b) else none
def seqOf : D -> Option (List D)
  | .list xs => some xs
  | .tuple xs => some xs
  | _ => none
def isFlat : D -> Bool
  | .none => true | .bool _ => true | .int _ => true | .str _ => true | _ => false
def inSeq (x : D) (ys : List D) : Bool := ys.any fun z => PyData.eqv z x
/-- a key of a dict -/
def isKey1 : D -> Bool
  | .int _ => true | .str _ => true | _ => false
mutual
def nk : D -> Option NestedKey
  | .none => some .none
  | .bool b => some (.num (if b = true then 1 else 0))
  | .int i => some (.num i)
  | .str x => some (.text x)
  | .tuple xs => (nkAll xs).map .tup
  | _ => none
def nkAll : List D -> Option (List NestedKey)
  | [] => some []
  | x :: xs => (nk x).bind fun k => (nkAll xs).map fun ks => k :: ks
end
/-- kind of a key: 1 an int or a text, 2 a tuple of such things, 0 none -/
def keyKind : D -> Nat
  | .int _ => 1 | .str _ => 1
  | .tuple xs => match nkAll xs with
    | some ks => if (NestedKey.tup ks).depth <= 8 then 2 else 0
    | none => 0
  | _ => 0
def dkind : List (D × D) -> Nat
  | [] => 3
  | kv :: _ => keyKind kv.1
/-- may this key be asked of this dict -/
def keyFits (k : D) (kvs : List (D × D)) : Bool := keyKind k != 0 && (dkind kvs == 3 || dkind kvs == keyKind k)
def dget : List (D × D) -> D -> Option D
  | [], _ => none
  | (k, v) :: r, x => if PyData.eqv k x = true then some v else dget r x
def dput (kvs : List (D × D)) (x y : D) : List (D × D) :=
  if (kvs.any fun kv => PyData.eqv kv.1 x) = true then kvs.map fun kv => if PyData.eqv kv.1 x = true then (kv.1, y) else kv else kvs ++ [(x, y)]
def insD {A : Type} (le : A -> A -> Bool) (x : A) : List A -> List A
  | [] => [x]
  | y :: ys => if le x y = true then x :: y :: ys else y :: insD le x ys
def isort {A : Type} (le : A -> A -> Bool) : List A -> List A
  | [] => []
  | x :: xs => insD le x (isort le xs)
def nonEmptyTup : D -> Bool
  | .tuple (_ :: _) => true
  | _ => false
def notTup : D -> Bool
  | .tuple _ => false | .none => false | _ => true
def allAlike : List D -> Bool
  | [] => true
  | x :: xs => (xs.all fun y => PySem.W.alike x y && PySem.W.alike y x) && PySem.W.alike x x && allAlike xs
def okSort (ds : List D) : Bool := allAlike ds && (ds.all nonEmptyTup || ds.all notTup) && (ds.all okEq)
def leD (a b : D) : Bool := !ltD b a

inductive Cmp where | eq | ne | lt | le | gt | ge | isin | notin | isnone | notnone | isbool | notbool
inductive Op2 where | add | sub | mul | fdiv | mod | pow
inductive Bi where
  | len | all | any | tuple | list | sorted | sum | min1 | max1 | min2 | max2 | dict
  | isTuple | isList | isStr | isInt | isBool
inductive Mt where | index | count | get
inductive Tg where | one (i : Nat) | tup (js : List Nat)
mutual
inductive E where
  | lit (d : D) | gc (i : Nat) | var (i : Nat) | bor (i : Nat)
  | tup (es : Es) | lst (es : Es)
  | op (o : Op2) (a b : E) | cmp (c : Cmp) (a b : E) | chain (c c' : Cmp) (a b d : E)
  | neg (a : E) | not (a : E) | and (a b : E) | or (a b : E) | ife (c a b : E)
  | ix (a i : E) | sl (a lo hi : E) | stp (a : E) (k : Int)
  | call (f : Nat) (es : Es) | bi (f : Bi) (es : Es) | me (f : Mt) (o : E) (es : Es)
  | lc (own : List Nat) (elt : E) (t : Tg) (it : It) (ifs : Es)
  | lc2 (own own1 : List Nat) (elt : E) (t : Tg) (it : It) (ifs : Es) (t1 : Tg) (it1 : It) (ifs1 : Es)
  | dc (own : List Nat) (k v : E) (t : Tg) (it : It) (ifs : Es)
  | dict (kvs : Es)
  | srtk (a : E) (f : Nat) | srtl (a body : E)
  | rep (es : Es) (k : E)
inductive Es where | nil | cons (e : E) (es : Es)
inductive It where | e (a : E) | range (es : Es) | enum (a : E) | zip (es : Es) | items (a : E) | values (a : E)
end
inductive S where
  | set (i : Nat) (e : E) | setO (i : Nat) (e : E)
  | setT (js : List Nat) (e : E) | par (js : List Nat) (own : List Bool) (es : List E)
  | app (i : Nat) (e : E) | ext (i : Nat) (e : E) | put (i : Nat) (k v : E)
  | frz (i : Nat)
  | drop (e : E) | ret (e : E) | raise (c : Nat)
  | ifs (c : E) (a b : List S) | fors (t : Tg) (it : It) (body : List S) | whiles (c : E) (body : List S)
  | cont
inductive Fl where | nx (env : En) | rt (d : D) | ct (env : En)

/-! ### operations -/
def lenD : D -> Option Nat
  | .list xs => some xs.length
  | .tuple xs => some xs.length
  | .str x => if x.length <= lim then some x.length else none
  | _ => none
def boolD : D -> Option Bool
  | .bool b => some b | _ => none
def opD : Op2 -> D -> D -> Option D
  | .add, .int a, .int b => some (.int (a + b))
  | .add, .str a, .str b => if a.length + b.length <= lim then some (.str (a ++ b)) else none
  | .add, .list a, .list b => if a.length + b.length <= lim then some (.list (a ++ b)) else none
  | .add, .tuple a, .tuple b => if a.length + b.length <= lim then some (.tuple (a ++ b)) else none
  | .sub, .int a, .int b => some (.int (a - b))
  | .mul, .int a, .int b => if a.natAbs < 18446744073709551616 || b.natAbs < 18446744073709551616 then some (.int (a * b)) else none
  | .fdiv, .int a, .int b => if 0 < b && b < 18446744073709551616 then some (.int (a / b)) else none
  | .mod, .int a, .int b => if 0 < b then some (.int (a % b)) else none
  | .pow, .int a, .int b => if 0 <= b && b <= 1000000 && a.natAbs < 18446744073709551616 then some (.int (a ^ b.toNat)) else none
  | _, _, _ => none
def repD (a : List D) : D -> Option D
  | .int k => if k < 9223372036854775808 && decide (-9223372036854775808 <= k) && decide (a.length * k.toNat <= lim) then some (.list (List.replicate k.toNat a).flatten) else none
  | _ => none
def inD : D -> D -> Option Bool
  | x, .list ys => if okEq x && okEq (.list ys) then some (inSeq x ys) else none
  | x, .tuple ys => if okEq x && okEq (.tuple ys) then some (inSeq x ys) else none
  | .str x, .str y => match x.cps.toList with
    | [c] => some (y.cps.toList.contains c)
    | _ => none
  | k, .dict kvs => if keyFits k kvs then some (dget kvs k).isSome else none
  | _, _ => none
def isNoneD : D -> Bool
  | .none => true
  | _ => false
def cmpD : Cmp -> D -> D -> Option Bool
  | .eq, a, b => eqD a b
  | .ne, a, b => (eqD a b).map (!·)
  | .lt, a, b => cltD a b
  | .gt, a, b => cltD b a
  | .le, a, b => (cltD b a).map (!·)
  | .ge, a, b => (cltD a b).map (!·)
  | .isin, a, b => inD a b
  | .notin, a, b => (inD a b).map (!·)
  | .isnone, a, .none => some (isNoneD a)
  | .notnone, a, .none => some (!isNoneD a)
  | .isnone, _, _ => none
  | .notnone, _, _ => none
  | .isbool, .bool a, .bool b => some (decide (a = b))
  | .notbool, .bool a, .bool b => some (!decide (a = b))
  | .isbool, _, _ => none
  | .notbool, _, _ => none
/-- place of an index -/
def ixN (n : Nat) (i : Int) : Option Nat := if 0 <= i then (if i < n then some i.toNat else none) else (if -i <= n then some (n - (-i).toNat) else none)
def ixD : D -> D -> Option D
  | .list xs, .int i => (ixN xs.length i).bind fun j => xs[j]?
  | .tuple xs, .int i => (ixN xs.length i).bind fun j => xs[j]?
  | .dict kvs, k => if keyFits k kvs then dget kvs k else none
  | _, _ => none
/-- a part of a slice -/
def partO : D -> Option (Option Int)
  | .none => some none
  | .int i => some (some i)
  | _ => none
def slB (n d : Nat) : Option Int -> Nat
  | none => d
  | some v => if v < 0 then (v + (n : Int)).toNat else min v.toNat n
def slL {A : Type} (xs : List A) (lo hi : Option Int) : List A := (xs.drop (slB xs.length 0 lo)).take (slB xs.length xs.length hi - slB xs.length 0 lo)
def slD (lo hi : Option Int) : D -> Option D
  | .list xs => some (.list (slL xs lo hi))
  | .tuple xs => some (.tuple (slL xs lo hi))
  | _ => none
/-- a step of a slice without bounds -/
def stpL {A : Type} (xs : List A) (k : Int) : List A :=
  (List.range (Builtin.Slice.slicePlaces (Builtin.Slice.sliceAdjust none none k xs.length).1 (Builtin.Slice.sliceAdjust none none k xs.length).2 k)).filterMap fun (m : Nat) => xs[((Builtin.Slice.sliceAdjust none none k xs.length).1 + (m : Int) * k).toNat]?
def stpD (k : Int) : D -> Option D
  | .list xs => if k = -1 then some (.list xs.reverse) else none
  | .tuple xs => if k = 0 || k = 1 || decide (lim < (stpL xs k).length) then none else some (.tuple (stpL xs k))
  | _ => none
def minBy (lt : D -> D -> Bool) : D -> List D -> D
  | x, [] => x
  | x, y :: ys => minBy lt (if lt y x = true then y else x) ys
def intsOf : List D -> Option (List Int)
  | [] => some []
  | .int i :: r => (intsOf r).map fun is => i :: is
  | _ => none
def sumI (ds : List D) : Option Int := (intsOf ds).map fun is => is.sum
def bools : List D -> Option (List Bool)
  | [] => some []
  | .bool b :: r => (bools r).map fun bs => b :: bs
  | _ => none
def allB (unit : Bool) (ds : List D) : Option Bool := (bools ds).map fun bs => if unit = true then bs.all id else bs.any id
def keysOf (kvs : List (D × D)) : List D := kvs.map (·.1)
def itemsOfD : D -> Option (List D)
  | .list xs => some xs
  | .tuple xs => some xs
  | .str x => if x.cps.toList.length <= lim then some (x.cps.toList.map fun c => .str ⟨#[c]⟩) else none
  | .dict kvs => some (keysOf kvs)
  | _ => none
def sortD (xs : List D) : Option (List D) := if okSort xs then some (isort leD xs) else none
def notNone : D -> Bool
  | .none => false
  | _ => true
def tupleD : D -> Option D
  | .list xs => some (.tuple xs)
  | .tuple xs => some (.tuple xs)
  | _ => none
def listD : D -> Option D
  | .list xs => some (.list xs)
  | .tuple xs => some (.list xs)
  | _ => none
def sortedD : D -> Option D
  | .list xs => (sortD xs).map .list
  | .dict kvs => (sortD (keysOf kvs)).map .list
  | _ => none
def okMin (ds : List D) : Bool := allAlike ds && ds.all notNone && ds.all okEq
def bestD (lt : D -> D -> Bool) : D -> Option D
  | .list (x :: xs) => if okMin (x :: xs) then some (minBy lt x xs) else none
  | _ => none
def dictD : D -> Option D
  | .dict kvs => if kvs.all (fun kv => isKey1 kv.1) then some (.dict kvs) else none
  | _ => none
def isTupleD : D -> Bool
  | .tuple _ => true
  | _ => false
def isListD : D -> Bool
  | .list _ => true
  | _ => false
def isStrD : D -> Bool
  | .str _ => true
  | _ => false
def isIntD : D -> Bool
  | .int _ => true
  | .bool _ => true
  | _ => false
def isBoolD : D -> Bool
  | .bool _ => true
  | _ => false
def listOfD : D -> Option (List D)
  | .list xs => some xs
  | _ => none
def bi1 : Bi -> D -> Option D
  | .len, a => (lenD a).map fun (n : Nat) => .int n
  | .all, a => (listOfD a).bind fun xs => (allB true xs).map .bool
  | .any, a => (listOfD a).bind fun xs => (allB false xs).map .bool
  | .tuple, a => tupleD a
  | .list, a => listD a
  | .sorted, a => sortedD a
  | .sum, a => (listOfD a).bind fun xs => (sumI xs).map .int
  | .min1, a => bestD ltD a
  | .max1, a => bestD (fun x y => ltD y x) a
  | .dict, a => dictD a
  | .isTuple, a => some (.bool (isTupleD a))
  | .isList, a => some (.bool (isListD a))
  | .isStr, a => some (.bool (isStrD a))
  | .isInt, a => some (.bool (isIntD a))
  | .isBool, a => some (.bool (isBoolD a))
  | .min2, _ => none
  | .max2, _ => none
def bi2 : Bi -> D -> D -> Option D
  | .min2, .int a, .int b => some (.int (if b < a then b else a))
  | .max2, .int a, .int b => some (.int (if b > a then b else a))
  | _, _, _ => none
def biD (f : Bi) : List D -> Option D
  | [a] => bi1 f a
  | [a, b] => bi2 f a b
  | _ => none
def firstAt (x : D) : List D -> Nat -> Option Nat
  | [], _ => none
  | y :: ys, n => if PyData.eqv y x = true then some n else firstAt x ys (n + 1)
def meD : Mt -> D -> List D -> Option D
  | .index, a, [x] => (seqOf a).bind fun ys => if okEq x && okEq (.list ys) then (firstAt x ys 0).map fun (n : Nat) => .int n else none
  | .count, .list ys, [x] => if okEq x && okEq (.list ys) then some (.int (ys.countP fun z => PyData.eqv z x)) else none
  | .get, .dict kvs, [k, x] => if keyFits k kvs then some ((dget kvs k).getD x) else none
  | _, _, _ => none
def meOk : Mt -> D -> Bool
  | .index, .list _ => true
  | .index, .tuple _ => true
  | .count, .list _ => true
  | .get, .dict _ => true
  | _, _ => false
def rangeU : Nat -> Int -> Int -> List D
  | 0, _, _ => []
  | n + 1, a, c => .int a :: rangeU n (a + c) c
def rngN (a b c : Int) : Nat := if 0 < c then ((b - a + c - 1) / c).toNat else ((a - b - c - 1) / (-c)).toNat
def smallI (a : Int) : Bool := decide (-4611686018427387904 <= a) && decide (a < 4611686018427387904)
def rangeD : List D -> Option (List D)
  | [.int b] => if smallI b && b.toNat <= lim then some (rangeU b.toNat 0 1) else none
  | [.int a, .int b] => if smallI a && smallI b && (b - a).toNat <= lim then some (rangeU (b - a).toNat a 1) else none
  | [.int a, .int b, .int c] => if smallI a && smallI b && c == -1 && (a - b).toNat <= lim then some (rangeU (a - b).toNat a (-1)) else none
  | _ => none
def enumL : List D -> Nat -> List D
  | [], _ => []
  | x :: xs, n => .tuple [.int n, x] :: enumL xs (n + 1)
def zip2L : List D -> List D -> List D
  | x :: xs, y :: ys => .tuple [x, y] :: zip2L xs ys
  | _, _ => []
def bindT : Tg -> D -> En -> Option En
  | .one i, d, env => some (env.set i (some (.fz d)))
  | .tup js, .tuple ds, env => if js.length = ds.length then some ((js.zip ds).foldl (fun e p => e.set p.1 (some (.fz p.2))) env) else none
  | .tup _, _, _ => none
def wipeE (own : List Nat) (env : En) : En := own.foldl (fun e i => e.set i none) env
def cellFz : Option (Option Cell) -> Option D
  | some (some (.fz d)) => some d
  | _ => none
def cellAny : Option (Option Cell) -> Option D
  | some (some (.fz d)) => some d
  | some (some (.ow d)) => some d
  | _ => none
def lcLoop (f : D -> R (Option D)) : List D -> R (List D)
  | [] => .ok []
  | d :: ds => (f d).bind fun o => (lcLoop f ds).bind fun r => .ok (match o with | some y => y :: r | none => r)
def dcLoop (f : D -> R (Option (D × D))) : List D -> List (D × D) -> R (List (D × D))
  | [], acc => .ok acc
  | d :: ds, acc => (f d).bind fun o => match o with
    | some (k, v) => if keyFits k acc then dcLoop f ds (dput acc k v) else .bad
    | none => dcLoop f ds acc
def lc2Loop (f : D -> R (List D)) : List D -> R (List D)
  | [] => .ok []
  | d :: ds => (f d).bind fun l => (lc2Loop f ds).bind fun r => .ok (l ++ r)
/-- sorted by keys, told beside -/
def sortK (kds : List (D × D)) : Option (List D) := if okSort (kds.map (·.1)) then some ((isort (fun a b => leD a.1 b.1) kds).map (·.2)) else none
def keysBy (f : D -> R D) : List D -> R (List (D × D))
  | [] => .ok []
  | d :: ds => (f d).bind fun k => (keysBy f ds).bind fun r => .ok ((k, d) :: r)
def dictOf : List D -> List (D × D) -> Option D
  | [], acc => some (.dict acc)
  | k :: v :: r, acc => if keyFits k acc then dictOf r (dput acc k v) else none
  | _, _ => none
def keysIn : D -> Option (List D)
  | .list xs => some xs
  | .dict kvs => some (keysOf kvs)
  | _ => none

/-! ### expressions -/
section
variable (C : Nat -> List D -> R D) (G : List D)
mutual
def evE : E -> En -> R D
  | .lit d, _ => .ok d
  | .gc i, _ => R.of G[i]?
  | .var i, env => R.of (cellFz env[i]?)
  | .bor i, env => R.of (cellAny env[i]?)
  | .tup es, env => (evEs es env).bind fun ds => .ok (.tuple ds)
  | .lst es, env => (evEs es env).bind fun ds => .ok (.list ds)
  | .op o a b, env => (evE a env).bind fun x => (evE b env).bind fun y => R.of (opD o x y)
  | .cmp c a b, env => (evE a env).bind fun x => (evE b env).bind fun y => (R.of (cmpD c x y)).bind fun b => .ok (.bool b)
  | .chain c c' a b d, env => (evE a env).bind fun x => (evE b env).bind fun y => (R.of (cmpD c x y)).bind fun k =>
      if k = true then (evE d env).bind fun z => (R.of (cmpD c' y z)).bind fun b => .ok (.bool b) else .ok (.bool false)
  | .neg a, env => (evE a env).bind fun x => match x with
      | .int i => .ok (.int (-i))
      | _ => .bad
  | .not a, env => (evE a env).bind fun x => (R.of (boolD x)).bind fun b => .ok (.bool (!b))
  | .and a b, env => (evE a env).bind fun x => (R.of (boolD x)).bind fun k => if k = true then evE b env else .ok (.bool false)
  | .or a b, env => (evE a env).bind fun x => (R.of (boolD x)).bind fun k => if k = true then .ok (.bool true) else evE b env
  | .ife c a b, env => (evE c env).bind fun x => (R.of (boolD x)).bind fun k => if k = true then evE a env else evE b env
  | .ix a i, env => (evE a env).bind fun x => (evE i env).bind fun y => R.of (ixD x y)
  | .sl a lo hi, env => (evE a env).bind fun x => ((evE lo env).bind fun l => R.of (partO l)).bind fun l => ((evE hi env).bind fun h => R.of (partO h)).bind fun h => R.of (slD l h x)
  | .stp a k, env => (evE a env).bind fun x => R.of (stpD k x)
  | .call f es, env => (evEs es env).bind fun ds => C f ds
  | .bi f es, env => (evEs es env).bind fun ds => R.of (biD f ds)
  | .me f o es, env => (evE o env).bind fun x => if meOk f x = true then (evEs es env).bind fun ds => R.of (meD f x ds) else .bad
  | .lc own elt t it ifs, env => (evI it env).bind fun ds => (lcLoop (fun d =>
      (R.of (bindT t d (wipeE own env))).bind fun e => (evIfs ifs e).bind fun k => if k = true then (evE elt e).bind fun y => .ok (some y) else .ok none) ds).calm.bind fun r => .ok (.list r)
  | .lc2 own own1 elt t it ifs t1 it1 ifs1, env => (evI it env).bind fun ds => (lc2Loop (fun d =>
      (R.of (bindT t d (wipeE own env))).bind fun e => (evIfs ifs e).bind fun k => if k = true then
        (evI it1 e).bind fun ds1 => lcLoop (fun d1 => (R.of (bindT t1 d1 (wipeE own1 e))).bind fun e1 => (evIfs ifs1 e1).bind fun k1 => if k1 = true then (evE elt e1).bind fun y => .ok (some y) else .ok none) ds1
        else .ok []) ds).calm.bind fun r => if r.length <= lim then .ok (.list r) else .bad
  | .dc own k v t it ifs, env => (evI it env).bind fun ds => (dcLoop (fun d =>
      (R.of (bindT t d (wipeE own env))).bind fun e => (evIfs ifs e).bind fun b => if b = true then (evE k e).bind fun x => (evE v e).bind fun y => .ok (some (x, y)) else .ok none) ds []).calm.bind fun r => .ok (.dict r)
  | .dict kvs, env => (evEs kvs env).bind fun ds => R.of (dictOf ds [])
  | .srtk a f, env => (evE a env).bind fun x => (R.of (keysIn x)).bind fun ds => (keysBy (fun d => C f [d]) ds).calm.bind fun kds => (R.of (sortK kds)).bind fun r => .ok (.list r)
  | .srtl a body, env => (evE a env).bind fun x => (R.of (keysIn x)).bind fun ds => (keysBy (fun d => evE body [some (.fz d)]) ds).calm.bind fun kds => (R.of (sortK kds)).bind fun r => .ok (.list r)
  | .rep es k, env => (evEs es env).bind fun ds => (evE k env).bind fun x => R.of (repD ds x)
def evEs : Es -> En -> R (List D)
  | .nil, _ => .ok []
  | .cons e es, env => (evE e env).bind fun d => (evEs es env).bind fun ds => .ok (d :: ds)
def evIfs : Es -> En -> R Bool
  | .nil, _ => .ok true
  | .cons e es, env => (evE e env).bind fun d => (R.of (boolD d)).bind fun b => if b = true then evIfs es env else .ok false
def evI : It -> En -> R (List D)
  | .e a, env => (evE a env).bind fun x => R.of (itemsOfD x)
  | .range es, env => (evEs es env).bind fun ds => R.of (rangeD ds)
  | .enum a, env => (evE a env).bind fun x => (R.of (seqOf x)).bind fun xs => .ok (enumL xs 0)
  | .zip es, env => (evEs es env).bind fun ds => match ds with
      | [a, b] => (R.of (seqOf a)).bind fun xs => (R.of (seqOf b)).bind fun ys => .ok (zip2L xs ys)
      | _ => .bad
  | .items a, env => (evE a env).bind fun x => match x with
      | .dict kvs => .ok (kvs.map fun kv => .tuple [kv.1, kv.2])
      | _ => .bad
  | .values a, env => (evE a env).bind fun x => match x with
      | .dict kvs => .ok (kvs.map fun kv => kv.2)
      | _ => .bad
end

/-! ### statements -/
def cellOw : Option (Option Cell) -> Option D
  | some (some (.ow d)) => some d
  | _ => none
def Fl.then (f : En -> R Fl) : Fl -> R Fl
  | .nx env => f env
  | .rt d => .ok (.rt d)
  | .ct env => .ok (.ct env)
def forThen (k : En -> R Fl) : Fl -> R Fl
  | .nx e => k e
  | .ct e => k e
  | .rt v => .ok (.rt v)
def forLoop (f : D -> En -> R Fl) : List D -> En -> R Fl
  | [], env => .ok (.nx env)
  | d :: ds, env => (f d env).bind (forThen fun e => forLoop f ds e)
def whileLoop (c : En -> R Bool) (f : En -> R Fl) : Nat -> En -> R Fl
  | 0, _ => .bad
  | n + 1, env => (c env).bind fun k => if k = true then (f env).bind (forThen fun e => whileLoop c f n e) else .ok (.nx env)
def putD : D -> D -> D -> Option D
  | .dict kvs, x, y => if keyFits x kvs && decide (kvs.length < lim) then some (.dict (dput kvs x y)) else none
  | .list xs, .int j, y => (ixN xs.length j).map fun n => .list (xs.set n y)
  | _, _, _ => none
def setAll : List Nat -> List Bool -> List D -> En -> Option En
  | [], [], [], env => some env
  | i :: is, o :: os, d :: ds, env => setAll is os ds (env.set i (some (if o = true then .ow d else .fz d)))
  | _, _, _, _ => none
def evEl : List E -> En -> R (List D)
  | [], _ => .ok []
  | e :: es, env => (evE C G e env).bind fun d => (evEl es env).bind fun ds => .ok (d :: ds)
mutual
def exS : S -> En -> R Fl
  | .set i e, env => (evE C G e env).bind fun d => .ok (.nx (env.set i (some (.fz d))))
  | .setO i e, env => (evE C G e env).bind fun d => .ok (.nx (env.set i (some (.ow d))))
  | .setT js e, env => (evE C G e env).bind fun d => (R.of (bindT (.tup js) d env)).bind fun e => .ok (.nx e)
  | .par js own es, env => (evEl C G es env).bind fun ds => (R.of (setAll js own ds env)).bind fun e => .ok (.nx e)
  | .app i e, env => (R.of (cellOw env[i]?)).bind fun o => (R.of (listOfD o)).bind fun xs => (evE C G e env).bind fun d => if xs.length < lim then .ok (.nx (env.set i (some (.ow (.list (xs ++ [d])))))) else .bad
  | .ext i e, env => (R.of (cellOw env[i]?)).bind fun o => (R.of (listOfD o)).bind fun xs => (evE C G e env).bind fun d => (R.of (listOfD d)).bind fun ys => if xs.length + ys.length < lim then .ok (.nx (env.set i (some (.ow (.list (xs ++ ys)))))) else .bad
  | .put i k v, env => (evE C G v env).bind fun y => (R.of (cellOw env[i]?)).bind fun o => (evE C G k env).bind fun x => (R.of (putD o x y)).bind fun o' => .ok (.nx (env.set i (some (.ow o'))))
  | .frz i, env => match cellAny env[i]? with
      | some d => .ok (.nx (env.set i (some (.fz d))))
      | none => .bad
  | .drop e, env => (evE C G e env).bind fun _ => .ok (.nx env)
  | .ret e, env => (evE C G e env).bind fun d => .ok (.rt d)
  | .raise c, _ => .exc c
  | .ifs c a b, env => (evE C G c env).bind fun x => (R.of (boolD x)).bind fun k => if k = true then exB a env else exB b env
  | .fors t it body, env => (evI C G it env).bind fun ds => forLoop (fun d e => (R.of (bindT t d e)).bind fun e1 => exB body e1) ds env
  | .whiles c body, env => whileLoop (fun e => (evE C G c e).bind fun x => R.of (boolD x)) (fun e => exB body e) 1000000 env
  | .cont, env => .ok (.ct env)
def exB : List S -> En -> R Fl
  | [], env => .ok (.nx env)
  | s :: ss, env => (exS s env).bind (Fl.then fun e => exB ss e)
end
end

/-! ### defs -/
structure Fn where
  np : Nat
  ns : Nat
  body : List S
def startE (f : Fn) (ds : List D) : En := ds.map (fun d => some (.fz d)) ++ List.replicate (f.ns - f.np) none
def callF (fs : List Fn) (G : List D) : Nat -> Nat -> List D -> R D
  | 0, _, _ => .bad
  | n + 1, i, ds => match fs[i]? with
    | some f => if ds.length = f.np then (exB (callF fs G n) G f.body (startE f ds)).bind fun r => match r with
        | .nx _ => .ok .none
        | .rt d => .ok d
        | .ct _ => .bad
      else .bad
    | none => .bad
end SH

set_option Elab.async false
set_option linter.all false
set_option maxRecDepth 100000
set_option maxHeartbeats 4000000
/-! _law_pick: a draw lies below its bound. -/
namespace SH
open PySem
def pickW : List S := [.par [5, 6] [false, false] [(.op .fdiv (.var 5) (.lit (.int 840))), (.op .sub (.var 6) (.lit (.int 1)))]]
def pickC : E := .and (.cmp .gt (.var 5) (.lit (.int 0))) (.cmp .gt (.var 6) (.lit (.int 0)))
def pickB : List S := [.set 3 (.ife (.cmp .ne (.var 0) (.lst .nil)) (.ix (.var 0) (.op .mod (.var 1) (.bi .len (.cons (.var 0) .nil)))) (.lit (.int 0))), .par [5, 6] [false, false] [(.op .fdiv (.var 3) (.op .pow (.lit (.int 10)) (.lit (.int 18)))), (.op .fdiv (.var 1) (.bi .max2 (.cons (.bi .len (.cons (.var 0) .nil)) (.cons (.lit (.int 1)) .nil))))], .whiles pickC pickW, .ifs (.cmp .gt (.var 5) (.lit (.int 0))) [.ret (.op .mod (.op .mod (.var 5) (.lit (.int 840))) (.var 2))] [], .set 4 (.op .mod (.op .mul (.op .add (.op .mul (.var 3) (.lit (.int 31))) (.op .mul (.lit (.int 6151)) (.op .add (.var 1) (.lit (.int 1))))) (.lit (.int 40692))) (.lit (.int 2147483399))), .ret (.op .mod (.op .mod (.op .add (.op .mul (.var 4) (.var 4)) (.op .fdiv (.var 4) (.lit (.int 31)))) (.lit (.int 2147483629))) (.var 2))]
def pickF : Fn := ⟨3, 7, pickB⟩
theorem canLay_ints : ∀ ns : List Int, PyData.canLayAll0 (ns.map PyData.int) = true
  | [] => rfl
  | n :: ns => by simp [PyData.canLayAll0, PyData.canLay0, canLay_ints ns]
theorem depth_ints : ∀ ns : List Int, PyData.depthAll (ns.map PyData.int) = 0
  | [] => rfl
  | n :: ns => by simp [PyData.depthAll, PyData.depth, depth_ints ns]
theorem okEq_ints (ns : List Int) : okEq (.list (ns.map PyData.int)) = true := by
  simp [okEq, SeqAt.shaped, PyData.canLay0, canLay_ints, PyData.depth, depth_ints]
theorem okEq_nil : okEq (.list []) = true := by decide +kernel
theorem okEq_int (i : Int) : okEq (.int i) = true := by simp [okEq, SeqAt.shaped, PyData.canLay0, PyData.depth]
theorem gt_int (a b : Int) : cmpD .gt (.int a) (.int b) = some (decide (b < a)) := by
  simp [cmpD, cltD, okLt, PySem.W.alike, okEq_int, ltD]
section
variable (C : Nat → List D → R D) (G : List D)
theorem pick_loop (s k m c f4 : Option Cell) : ∀ (n : Nat) (rest again : Int), again ≤ (n : Int) → ∃ rest' again' : Int, whileLoop (fun e => (evE C G pickC e).bind fun x => R.of (boolD x)) (fun e => exB C G pickW e) (n + 1) [s, k, m, c, f4, some (.fz (.int rest)), some (.fz (.int again))] = .ok (.nx [s, k, m, c, f4, some (.fz (.int rest')), some (.fz (.int again'))])
  | 0, rest, again, h => ⟨rest, again, by
    have h0 : decide (0 < again) = false := decide_eq_false (by simpa using h)
    by_cases hr : (0 : Int) < rest
    · simp [whileLoop, pickC, evE, cellFz, gt_int, h0, hr, boolD]
    · simp [whileLoop, pickC, evE, cellFz, gt_int, h0, hr, boolD]⟩
  | n + 1, rest, again, h => by
    by_cases hr : (0 : Int) < rest
    · by_cases ha : (0 : Int) < again
      · obtain ⟨r', a', e⟩ := pick_loop s k m c f4 n (rest / 840) (again - 1) (by omega)
        refine ⟨r', a', ?_⟩
        rw [whileLoop]
        have e1 : ((evE C G pickC [s, k, m, c, f4, some (.fz (.int rest)), some (.fz (.int again))]).bind fun x => R.of (boolD x)) = .ok true := by
          simp [pickC, evE, cellFz, gt_int, hr, ha, boolD]
        have e2 : exB C G pickW [s, k, m, c, f4, some (.fz (.int rest)), some (.fz (.int again))] = .ok (.nx [s, k, m, c, f4, some (.fz (.int (rest / 840))), some (.fz (.int (again - 1)))]) := by
          simp [pickW, exB, exS, evEl, evE, cellFz, opD, setAll, Fl.then]
        rw [e1, R.bind_ok, if_pos rfl, e2]
        exact e
      · exact ⟨rest, again, by simp [whileLoop, pickC, evE, cellFz, gt_int, hr, ha, boolD]⟩
    · exact ⟨rest, again, by simp [whileLoop, pickC, evE, cellFz, gt_int, hr, boolD]⟩
theorem pick_cell (ns : List Int) (k : Int) (hk : 0 ≤ k) (e : En) (e0 : e[0]? = some (some (.fz (.list (ns.map PyData.int))))) (e1 : e[1]? = some (some (.fz (.int k)))) :
    ∃ c : Int, evE C G (.ife (.cmp .ne (.var 0) (.lst .nil)) (.ix (.var 0) (.op .mod (.var 1) (.bi .len (.cons (.var 0) .nil)))) (.lit (.int 0))) e = .ok (.int c) := by
  cases ns with
  | nil => exact ⟨0, by simp [evE, evEs, e0, cellFz, cmpD, eqD, okEq_nil, PyData.eqv, PyData.eqvAll, boolD]⟩
  | cons n ns =>
    have hl : 0 < (((n :: ns).length : Nat) : Int) := by simp only [List.length_cons]; omega
    have hm : 0 ≤ k % (((n :: ns).length : Nat) : Int) := Int.emod_nonneg _ (by omega)
    have hm2 : k % (((n :: ns).length : Nat) : Int) < (((n :: ns).length : Nat) : Int) := Int.emod_lt_of_pos _ hl
    refine ⟨(n :: ns)[(k % (((n :: ns).length : Nat) : Int)).toNat]'(by omega), ?_⟩
    have t : evE C G (.cmp .ne (.var 0) (.lst .nil)) e = .ok (.bool true) := by
      simp only [evE, evEs, e0, cellFz, R.of_some, R.bind_ok, cmpD, eqD, okEq_ints, okEq_nil]
      simp [PyData.eqv, PyData.eqvAll]
    simp only [evE] at t ⊢
    rw [t]
    simp only [R.bind_ok, boolD, R.of_some, if_pos, evE, evEs, e0, e1, cellFz, biD, bi1, lenD, Option.map_some, opD, List.length_map]
    rw [if_pos (by simpa using hl)]
    simp only [R.of_some, R.bind_ok, ixD, ixN, List.length_map]
    rw [if_pos hm, if_pos hm2]
    simp only [Option.bind_some]
    rw [List.getElem?_map, List.getElem?_eq_getElem (by omega)]
    rfl
theorem exB_nx {m : S} {ms : List S} {e e1 : En} (h : exS C G m e = .ok (.nx e1)) : exB C G (m :: ms) e = exB C G ms e1 := by
  rw [exB, h]; rfl
theorem exB_rt {m : S} {ms : List S} {e : En} {d : D} (h : exS C G m e = .ok (.rt d)) : exB C G (m :: ms) e = .ok (.rt d) := by
  rw [exB, h]; rfl
theorem pick_ok (ns : List Int) (k many : Int) (hn : ns.length ≤ 63) (hk : 0 ≤ k) (hk2 : k < 900000) (hm : 0 < many) : ∃ r : Int, 0 ≤ r ∧ r < many ∧ exB C G pickB (startE pickF [.list (ns.map PyData.int), .int k, .int many]) = .ok (.rt (.int r)) := by
  have es : startE pickF [.list (ns.map PyData.int), .int k, .int many] = [some (.fz (.list (ns.map PyData.int))), some (.fz (.int k)), some (.fz (.int many)), none, none, none, none] := rfl
  obtain ⟨c, ec⟩ := pick_cell C G ns k hk (startE pickF [.list (ns.map PyData.int), .int k, .int many]) rfl rfl
  obtain ⟨M, hM, hM1, hM2⟩ : ∃ M : Int, (if (1 : Int) > ((ns.length : Nat) : Int) then 1 else ((ns.length : Nat) : Int)) = M ∧ 0 < M ∧ M < 18446744073709551616 := ⟨_, rfl, by split <;> omega, by split <;> omega⟩
  have q1 : exS C G (.set 3 (.ife (.cmp .ne (.var 0) (.lst .nil)) (.ix (.var 0) (.op .mod (.var 1) (.bi .len (.cons (.var 0) .nil)))) (.lit (.int 0)))) (startE pickF [.list (ns.map PyData.int), .int k, .int many]) = .ok (.nx [some (.fz (.list (ns.map PyData.int))), some (.fz (.int k)), some (.fz (.int many)), some (.fz (.int c)), none, none, none]) := by
    rw [exS, ec]; rfl
  have q2 : exS C G (.par [5, 6] [false, false] [(.op .fdiv (.var 3) (.op .pow (.lit (.int 10)) (.lit (.int 18)))), (.op .fdiv (.var 1) (.bi .max2 (.cons (.bi .len (.cons (.var 0) .nil)) (.cons (.lit (.int 1)) .nil))))]) [some (.fz (.list (ns.map PyData.int))), some (.fz (.int k)), some (.fz (.int many)), some (.fz (.int c)), none, none, none]
      = .ok (.nx [some (.fz (.list (ns.map PyData.int))), some (.fz (.int k)), some (.fz (.int many)), some (.fz (.int c)), none, some (.fz (.int (c / 1000000000000000000))), some (.fz (.int (k / M)))]) := by
    have p1 : opD .pow (.int 10) (.int 18) = some (.int 1000000000000000000) := by rfl
    have p2 : opD .fdiv (.int c) (.int 1000000000000000000) = some (.int (c / 1000000000000000000)) := by simp [opD]
    have p3 : opD .fdiv (.int k) (.int M) = some (.int (k / M)) := by simp [opD, hM1, hM2]
    simp only [exS, evEl, evE, evEs, List.getElem?_cons_succ, List.getElem?_cons_zero, cellFz, R.of_some, R.bind_ok, p1, p2, biD, bi1, bi2, lenD, Option.map_some, List.length_map, hM, p3, setAll]
    rfl
  have hb : k / M ≤ ((999999 : Nat) : Int) := by
    have : k / M ≤ k := Int.ediv_le_self _ hk
    omega
  obtain ⟨rest, again, q3⟩ := pick_loop C G (some (.fz (.list (ns.map PyData.int)))) (some (.fz (.int k))) (some (.fz (.int many))) (some (.fz (.int c))) none 999999 (c / 1000000000000000000) (k / M) hb
  have q3' : exS C G (.whiles pickC pickW) [some (.fz (.list (ns.map PyData.int))), some (.fz (.int k)), some (.fz (.int many)), some (.fz (.int c)), none, some (.fz (.int (c / 1000000000000000000))), some (.fz (.int (k / M)))] = .ok (.nx [some (.fz (.list (ns.map PyData.int))), some (.fz (.int k)), some (.fz (.int many)), some (.fz (.int c)), none, some (.fz (.int rest)), some (.fz (.int again))]) := by
    rw [exS]; exact q3
  unfold pickB
  rw [exB_nx C G q1, exB_nx C G q2, exB_nx C G q3']
  by_cases hr : (0 : Int) < rest
  · refine ⟨rest % 840 % many, Int.emod_nonneg _ (by omega), Int.emod_lt_of_pos _ hm, ?_⟩
    refine exB_rt C G ?_
    have p4 : opD .mod (.int (rest % 840)) (.int many) = some (.int (rest % 840 % many)) := by simp [opD, hm]
    have p5 : opD .mod (.int rest) (.int 840) = some (.int (rest % 840)) := by simp [opD]
    simp only [exS, exB, evE, List.getElem?_cons_succ, List.getElem?_cons_zero, cellFz, R.of_some, R.bind_ok, gt_int, boolD, hr, decide_true, if_true, p4, p5, Fl.then]
  · obtain ⟨x, hx⟩ : ∃ x : Int, x = (c * 31 + 6151 * (k + 1)) * 40692 % 2147483399 := ⟨_, rfl⟩
    have hx0 : 0 ≤ x := by rw [hx]; exact Int.emod_nonneg _ (by omega)
    have hx1 : x < 2147483399 := by rw [hx]; exact Int.emod_lt_of_pos _ (by omega)
    refine ⟨(x * x + x / 31) % 2147483629 % many, Int.emod_nonneg _ (by omega), Int.emod_lt_of_pos _ hm, ?_⟩
    have q4 : exS C G (.ifs (.cmp .gt (.var 5) (.lit (.int 0))) [.ret (.op .mod (.op .mod (.var 5) (.lit (.int 840))) (.var 2))] []) [some (.fz (.list (ns.map PyData.int))), some (.fz (.int k)), some (.fz (.int many)), some (.fz (.int c)), none, some (.fz (.int rest)), some (.fz (.int again))] = .ok (.nx [some (.fz (.list (ns.map PyData.int))), some (.fz (.int k)), some (.fz (.int many)), some (.fz (.int c)), none, some (.fz (.int rest)), some (.fz (.int again))]) := by
      simp [exS, exB, evE, cellFz, gt_int, boolD, hr]
    have q5 : exS C G (.set 4 (.op .mod (.op .mul (.op .add (.op .mul (.var 3) (.lit (.int 31))) (.op .mul (.lit (.int 6151)) (.op .add (.var 1) (.lit (.int 1))))) (.lit (.int 40692))) (.lit (.int 2147483399)))) [some (.fz (.list (ns.map PyData.int))), some (.fz (.int k)), some (.fz (.int many)), some (.fz (.int c)), none, some (.fz (.int rest)), some (.fz (.int again))]
        = .ok (.nx [some (.fz (.list (ns.map PyData.int))), some (.fz (.int k)), some (.fz (.int many)), some (.fz (.int c)), some (.fz (.int x)), some (.fz (.int rest)), some (.fz (.int again))]) := by
      have p1 : ∀ a b : Int, b.natAbs < 18446744073709551616 → opD .mul (.int a) (.int b) = some (.int (a * b)) := fun a b h => by simp [opD, h]
      have p2 : ∀ a b : Int, a.natAbs < 18446744073709551616 → opD .mul (.int a) (.int b) = some (.int (a * b)) := fun a b h => by simp [opD, h]
      have p3 : opD .mod (.int ((c * 31 + 6151 * (k + 1)) * 40692)) (.int 2147483399) = some (.int x) := by rw [hx]; simp [opD]
      have p4 : ∀ a b : Int, opD .add (.int a) (.int b) = some (.int (a + b)) := fun a b => rfl
      simp only [exS, evE, List.getElem?_cons_succ, List.getElem?_cons_zero, cellFz, R.of_some, R.bind_ok, p4, p1 c 31 (by omega), p2 6151 (k + 1) (by omega), p1 (c * 31 + 6151 * (k + 1)) 40692 (by omega), p3]
      rfl
    rw [exB_nx C G q4, exB_nx C G q5]
    refine exB_rt C G ?_
    have p1 : opD .mul (.int x) (.int x) = some (.int (x * x)) := by
      have : x.natAbs < 18446744073709551616 := by omega
      simp [opD, this]
    have p2 : opD .fdiv (.int x) (.int 31) = some (.int (x / 31)) := by simp [opD]
    have p3 : opD .mod (.int (x * x + x / 31)) (.int 2147483629) = some (.int ((x * x + x / 31) % 2147483629)) := by simp [opD]
    have p4 : opD .mod (.int ((x * x + x / 31) % 2147483629)) (.int many) = some (.int ((x * x + x / 31) % 2147483629 % many)) := by simp [opD, hm]
    have p5 : opD .add (.int (x * x)) (.int (x / 31)) = some (.int (x * x + x / 31)) := rfl
    simp only [exS, evE, List.getElem?_cons_succ, List.getElem?_cons_zero, cellFz, R.of_some, R.bind_ok, p1, p2, p3, p4, p5]
end
theorem callF_rt {fs : List Fn} {G : List D} {n i : Nat} {f : Fn} {ds : List D} {d : D} (hf : fs[i]? = some f) (hl : ds.length = f.np) (h : exB (callF fs G n) G f.body (startE f ds) = .ok (.rt d)) : callF fs G (n + 1) i ds = .ok d := by
  rw [callF, hf]
  show (if ds.length = f.np then (exB (callF fs G n) G f.body (startE f ds)).bind _ else _) = _
  rw [if_pos hl, h]
  rfl
end SH

set_option Elab.async false
set_option linter.all false
set_option maxRecDepth 100000
set_option maxHeartbeats 0
namespace SH.K42
open SH PySem
/-- is_whole (thing, least, most) -/
def f_is_whole : Fn := ⟨3, 3, [.ret (.and (.bi .isInt (.cons (.var 0) .nil)) (.and (.not (.bi .isBool (.cons (.var 0) .nil))) (.chain .le .le (.var 1) (.var 0) (.var 2))))]⟩
/-- is_name (thing, sign) -/
def f_is_name : Fn := ⟨1, 2, [.ret (.and (.bi .isStr (.cons (.var 0) .nil)) (.and (.chain .le .le (.lit (.int 1)) (.bi .len (.cons (.var 0) .nil)) (.gc 2)) (.bi .all (.cons (.lc [1] (.cmp .isin (.var 1) (.gc 0)) (.one 1) (.e (.var 0)) .nil) .nil))))]⟩
/-- is_rising (things, one, other) -/
def f_is_rising : Fn := ⟨1, 3, [.ret (.bi .all (.cons (.lc [1, 2] (.cmp .lt (.var 1) (.var 2)) (.tup [1, 2]) (.zip (.cons (.var 0) (.cons (.sl (.var 0) (.lit (.int 1)) (.lit .none)) .nil))) .nil) .nil))]⟩
/-- is_words (thing, word) -/
def f_is_words : Fn := ⟨1, 2, [.ifs (.or (.not (.bi .isTuple (.cons (.var 0) .nil))) (.or (.not (.chain .le .le (.lit (.int 1)) (.bi .len (.cons (.var 0) .nil)) (.gc 1))) (.not (.bi .all (.cons (.lc [1] (.call 1 (.cons (.var 1) .nil)) (.one 1) (.e (.var 0)) .nil) .nil))))) [.ret (.lit (.bool false))] [], .ret (.call 2 (.cons (.var 0) .nil))]⟩
/-- is_part (words, thing, word) -/
def f_is_part : Fn := ⟨2, 3, [.ifs (.or (.not (.bi .isTuple (.cons (.var 1) .nil))) (.or (.cmp .eq (.var 1) (.tup .nil)) (.not (.bi .all (.cons (.lc [2] (.and (.call 1 (.cons (.var 2) .nil)) (.cmp .isin (.var 2) (.var 0))) (.one 2) (.e (.var 1)) .nil) .nil))))) [.ret (.lit (.bool false))] [], .ret (.call 2 (.cons (.var 1) .nil))]⟩
/-- is_hearing_of (words, thing, part) -/
def f_is_hearing_of : Fn := ⟨2, 3, [.ret (.and (.bi .isTuple (.cons (.var 1) .nil)) (.and (.cmp .eq (.bi .len (.cons (.var 1) .nil)) (.bi .len (.cons (.var 0) .nil))) (.bi .all (.cons (.lc [2] (.call 4 (.cons (.var 0) (.cons (.var 2) .nil))) (.one 2) (.e (.var 1)) .nil) .nil))))]⟩
/-- plain_true (words, word) -/
def f_plain_true : Fn := ⟨1, 2, [.ret (.bi .tuple (.cons (.lc [1] (.tup (.cons (.var 1) .nil)) (.one 1) (.e (.var 0)) .nil) .nil))]⟩
/-- heard_as (words, hearing, word) -/
def f_heard_as : Fn := ⟨3, 3, [.ret (.ix (.var 1) (.me .index (.var 0) (.cons (.var 2) .nil)))]⟩
/-- rising_of (things, thing) -/
def f_rising_of : Fn := ⟨1, 2, [.ret (.bi .tuple (.cons (.bi .sorted (.cons (.dc [1] (.var 1) (.lit (.bool true)) (.one 1) (.e (.var 0)) .nil) .nil)) .nil))]⟩
/-- plain_chained (words, one, other, made, part, second, third) -/
def f_plain_chained : Fn := ⟨3, 7, [.setO 3 (.lst .nil), .fors (.one 4) (.e (.var 1)) [.app 3 (.call 8 (.cons (.lc2 [5, 6] [6] (.var 6) (.one 5) (.e (.var 4)) .nil (.one 6) (.e (.call 7 (.cons (.var 0) (.cons (.var 2) (.cons (.var 5) .nil))))) .nil) .nil))], .ret (.bi .tuple (.cons (.bor 3) .nil))]⟩
/-- is_person (words, thing) -/
def f_is_person : Fn := ⟨2, 2, [.ret (.and (.bi .isTuple (.cons (.var 1) .nil)) (.and (.cmp .eq (.bi .len (.cons (.var 1) .nil)) (.lit (.int 2))) (.and (.call 1 (.cons (.ix (.var 1) (.lit (.int 0))) .nil)) (.call 5 (.cons (.var 0) (.cons (.ix (.var 1) (.lit (.int 1))) .nil))))))]⟩
/-- is_whisper (names, thing, part) -/
def f_is_whisper : Fn := ⟨2, 3, [.ifs (.or (.not (.bi .isTuple (.cons (.var 1) .nil))) (.or (.cmp .ne (.bi .len (.cons (.var 1) .nil)) (.lit (.int 3))) (.not (.call 0 (.cons (.ix (.var 1) (.lit (.int 0))) (.cons (.lit (.int 0)) (.cons (.gc 5) .nil))))))) [.ret (.lit (.bool false))] [], .ret (.and (.bi .all (.cons (.lc [2] (.and (.call 1 (.cons (.var 2) .nil)) (.cmp .isin (.var 2) (.var 0))) (.one 2) (.e (.sl (.var 1) (.lit (.int 1)) (.lit .none))) .nil) .nil)) (.cmp .ne (.ix (.var 1) (.lit (.int 1))) (.ix (.var 1) (.lit (.int 2)))))]⟩
/-- is_crowd (thing, names, person, whisper) -/
def f_is_crowd : Fn := ⟨1, 4, [.ifs (.or (.not (.bi .isTuple (.cons (.var 0) .nil))) (.or (.cmp .ne (.bi .len (.cons (.var 0) .nil)) (.lit (.int 3))) (.or (.not (.call 3 (.cons (.ix (.var 0) (.lit (.int 0))) .nil))) (.not (.bi .isTuple (.cons (.ix (.var 0) (.lit (.int 1))) .nil)))))) [.ret (.lit (.bool false))] [], .ifs (.or (.not (.chain .le .le (.lit (.int 1)) (.bi .len (.cons (.ix (.var 0) (.lit (.int 1))) .nil)) (.gc 3))) (.not (.bi .all (.cons (.lc [2] (.call 10 (.cons (.ix (.var 0) (.lit (.int 0))) (.cons (.var 2) .nil))) (.one 2) (.e (.ix (.var 0) (.lit (.int 1)))) .nil) .nil)))) [.ret (.lit (.bool false))] [], .set 1 (.lc [2] (.ix (.var 2) (.lit (.int 0))) (.one 2) (.e (.ix (.var 0) (.lit (.int 1)))) .nil), .ifs (.or (.not (.call 2 (.cons (.var 1) .nil))) (.or (.not (.bi .isTuple (.cons (.ix (.var 0) (.lit (.int 2))) .nil))) (.cmp .gt (.bi .len (.cons (.ix (.var 0) (.lit (.int 2))) .nil)) (.gc 4)))) [.ret (.lit (.bool false))] [], .ret (.and (.bi .all (.cons (.lc [3] (.call 11 (.cons (.var 1) (.cons (.var 3) .nil))) (.one 3) (.e (.ix (.var 0) (.lit (.int 2)))) .nil) .nil)) (.call 2 (.cons (.ix (.var 0) (.lit (.int 2))) .nil)))]⟩
/-- look_crowd (thing) -/
def f_look_crowd : Fn := ⟨1, 1, [.ifs (.not (.call 12 (.cons (.var 0) .nil))) [.drop (.bi .min2 .nil)] []]⟩
/-- names_in (crowd, person) -/
def f_names_in : Fn := ⟨1, 2, [.ret (.lc [1] (.ix (.var 1) (.lit (.int 0))) (.one 1) (.e (.ix (.var 0) (.lit (.int 1)))) .nil)]⟩
/-- look_person (crowd, thing) -/
def f_look_person : Fn := ⟨2, 2, [.ifs (.or (.not (.call 1 (.cons (.var 1) .nil))) (.cmp .notin (.var 1) (.call 14 (.cons (.var 0) .nil)))) [.drop (.bi .min2 .nil)] []]⟩
/-- hearing_of (crowd, name) -/
def f_hearing_of : Fn := ⟨2, 2, [.ret (.ix (.ix (.ix (.var 0) (.lit (.int 1))) (.me .index (.call 14 (.cons (.var 0) .nil)) (.cons (.var 1) .nil))) (.lit (.int 1)))]⟩
/-- by_order (things, thing) -/
def f_by_order : Fn := ⟨1, 2, [.ret (.bi .tuple (.cons (.lc [1] (.ife (.cmp .isnone (.var 1) (.lit .none)) (.lit (.str "")) (.var 1)) (.one 1) (.e (.var 0)) .nil) .nil))]⟩
/-- with_heard (have, hearer, word, made) -/
def f_with_heard : Fn := ⟨3, 4, [.setO 3 (.bi .dict (.cons (.var 0) .nil)), .put 3 (.var 1) (.var 2), .frz 3, .ret (.var 3)]⟩
/-- plain_evenings (crowd, source, word, rows, beat, when, teller, hearer, hearing, made, heard, now, later, one, row) -/
def f_plain_evenings : Fn := ⟨3, 15, [.par [3, 4] [false, false] [(.lst (.cons (.tup (.cons (.lst .nil) (.cons (.dict (.cons (.var 1) (.cons (.var 2) .nil))) (.cons (.dict (.cons (.var 1) (.cons (.var 2) .nil))) .nil)))) .nil)), (.lit (.int 0))], .fors (.tup [5, 6, 7]) (.e (.ix (.var 0) (.lit (.int 2)))) [.par [8, 9] [false, true] [(.call 16 (.cons (.var 0) (.cons (.var 7) .nil))), (.lst .nil)], .fors (.tup [10, 11, 12]) (.e (.var 3)) [.set 11 (.ife (.cmp .ne (.var 5) (.var 4)) (.var 12) (.var 11)), .ifs (.cmp .notin (.var 6) (.var 11)) [.app 9 (.tup (.cons (.op .add (.var 10) (.lst (.cons (.lit .none) .nil))) (.cons (.var 11) (.cons (.var 12) .nil))))] [.fors (.one 13) (.e (.call 7 (.cons (.ix (.var 0) (.lit (.int 0))) (.cons (.var 8) (.cons (.ix (.var 11) (.var 6)) .nil))))) [.app 9 (.tup (.cons (.op .add (.var 10) (.lst (.cons (.var 13) .nil))) (.cons (.var 11) (.cons (.call 18 (.cons (.var 12) (.cons (.var 7) (.cons (.var 13) .nil)))) .nil))))]]], .frz 9, .par [3, 4] [false, false] [(.var 9), (.var 5)], .ifs (.cmp .gt (.bi .len (.cons (.var 3) .nil)) (.gc 6)) [.drop (.bi .min2 .nil)] []], .ret (.srtk (.lc [14] (.ix (.var 14) (.lit (.int 0))) (.one 14) (.e (.var 3)) .nil) 17)]⟩
/-- plain_note (crowd, evening, goal, whisper, heard) -/
def f_plain_note : Fn := ⟨3, 5, [.ret (.lc [3, 4] (.var 4) (.tup [3, 4]) (.zip (.cons (.ix (.var 0) (.lit (.int 2))) (.cons (.var 1) .nil))) (.cons (.cmp .eq (.ix (.var 3) (.lit (.int 2))) (.var 2)) .nil))]⟩
/-- no_twice (rows, row) -/
def f_no_twice : Fn := ⟨1, 2, [.ret (.lc [1] (.bi .list (.cons (.var 1) .nil)) (.one 1) (.e (.srtk (.dc [1] (.bi .tuple (.cons (.var 1) .nil)) (.lit (.bool true)) (.one 1) (.e (.var 0)) .nil) 17)) .nil)]⟩
/-- are_notes (crowd, goal, thing, heard, whisper) -/
def f_are_notes : Fn := ⟨3, 5, [.ifs (.or (.not (.bi .isList (.cons (.var 2) .nil))) (.cmp .ne (.bi .len (.cons (.var 2) .nil)) (.bi .len (.cons (.lc [4] (.lit (.int 1)) (.one 4) (.e (.ix (.var 0) (.lit (.int 2)))) (.cons (.cmp .eq (.ix (.var 4) (.lit (.int 2))) (.var 1)) .nil)) .nil)))) [.ret (.lit (.bool false))] [], .ret (.bi .all (.cons (.lc [3] (.or (.cmp .isnone (.var 3) (.lit .none)) (.and (.call 1 (.cons (.var 3) .nil)) (.cmp .isin (.var 3) (.ix (.var 0) (.lit (.int 0)))))) (.one 3) (.e (.var 2)) .nil) .nil))]⟩
/-- look_notes (crowd, goal, thing) -/
def f_look_notes : Fn := ⟨3, 3, [.ifs (.not (.call 22 (.cons (.var 0) (.cons (.var 1) (.cons (.var 2) .nil))))) [.drop (.bi .min2 .nil)] []]⟩
/-- look_ends (crowd, source, goal) -/
def f_look_ends : Fn := ⟨3, 3, [.drop (.call 13 (.cons (.var 0) .nil)), .drop (.call 15 (.cons (.var 0) (.cons (.var 1) .nil))), .drop (.call 15 (.cons (.var 0) (.cons (.var 2) .nil)))]⟩
/-- all_evenings (crowd, source, word) -/
def f_all_evenings : Fn := ⟨2, 3, [.ret (.dc [2] (.var 2) (.call 19 (.cons (.var 0) (.cons (.var 1) (.cons (.var 2) .nil)))) (.one 2) (.e (.ix (.var 0) (.lit (.int 0)))) .nil)]⟩
/-- can_be_said (crowd, source, goal, noted, made, word, one) -/
def f_can_be_said : Fn := ⟨4, 7, [.drop (.call 24 (.cons (.var 0) (.cons (.var 1) (.cons (.var 2) .nil)))), .set 4 (.call 25 (.cons (.var 0) (.cons (.var 1) .nil))), .drop (.call 23 (.cons (.var 0) (.cons (.var 2) (.cons (.var 3) .nil)))), .ret (.bi .tuple (.cons (.lc [5] (.var 5) (.one 5) (.e (.ix (.var 0) (.lit (.int 0)))) (.cons (.cmp .isin (.var 3) (.lc [6] (.call 20 (.cons (.var 0) (.cons (.var 6) (.cons (.var 2) .nil)))) (.one 6) (.e (.ix (.var 4) (.var 5))) .nil)) .nil)) .nil))]⟩
/-- notes_ahead (crowd, source, goal, beat, early, made, word, k, whisper, one) -/
def f_notes_ahead : Fn := ⟨4, 10, [.set 4 (.lc [7, 8] (.var 7) (.tup [7, 8]) (.enum (.ix (.var 0) (.lit (.int 2)))) (.cons (.and (.cmp .eq (.ix (.var 8) (.lit (.int 2))) (.var 2)) (.cmp .lt (.ix (.var 8) (.lit (.int 0))) (.var 3))) .nil)), .set 5 (.call 25 (.cons (.var 0) (.cons (.var 1) .nil))), .ret (.dc [6] (.var 6) (.dc [9] (.bi .tuple (.cons (.lc [7] (.ix (.var 9) (.var 7)) (.one 7) (.e (.var 4)) .nil) .nil)) (.lit (.bool true)) (.one 9) (.e (.ix (.var 5) (.var 6))) .nil) (.one 6) (.e (.var 5)) .nil)]⟩
/-- pairs_tied (words, seen, made, k, one, other, look) -/
def f_pairs_tied : Fn := ⟨2, 7, [.setO 2 (.lst .nil), .fors (.tup [3, 4]) (.enum (.var 0)) [.fors (.one 5) (.e (.sl (.var 0) (.op .add (.var 3) (.lit (.int 1))) (.lit .none))) [.ifs (.bi .any (.cons (.lc [6] (.cmp .isin (.var 6) (.ix (.var 1) (.var 5))) (.one 6) (.e (.ix (.var 1) (.var 4))) .nil) .nil)) [.app 2 (.tup (.cons (.var 4) (.cons (.var 5) .nil)))] []]], .frz 2, .ret (.var 2)]⟩
/-- plain_ties (crowd, source, goal) -/
def f_plain_ties : Fn := ⟨3, 3, [.ret (.call 28 (.cons (.ix (.var 0) (.lit (.int 0))) (.cons (.call 27 (.cons (.var 0) (.cons (.var 1) (.cons (.var 2) (.cons (.op .add (.gc 5) (.lit (.int 1))) .nil))))) .nil)))]⟩
/-- ties (crowd, source, goal) -/
def f_ties : Fn := ⟨3, 3, [.drop (.call 24 (.cons (.var 0) (.cons (.var 1) (.cons (.var 2) .nil)))), .ret (.call 29 (.cons (.var 0) (.cons (.var 1) (.cons (.var 2) .nil))))]⟩
/-- lots_in (words, many, made, k, word, more) -/
def f_lots_in : Fn := ⟨2, 6, [.ifs (.cmp .eq (.var 1) (.lit (.int 0))) [.ret (.lst (.cons (.tup .nil) .nil))] [], .setO 2 (.lst .nil), .fors (.tup [3, 4]) (.enum (.var 0)) [.ext 2 (.lc [5] (.op .add (.tup (.cons (.var 4) .nil)) (.var 5)) (.one 5) (.e (.call 31 (.cons (.sl (.var 0) (.op .add (.var 3) (.lit (.int 1))) (.lit .none)) (.cons (.op .sub (.var 1) (.lit (.int 1))) .nil)))) .nil)], .frz 2, .ret (.var 2)]⟩
/-- pairs_in (lot) -/
def f_pairs_in : Fn := ⟨1, 1, [.ret (.call 31 (.cons (.var 0) (.cons (.lit (.int 2)) .nil)))]⟩
/-- is_free (lot, tied, pair) -/
def f_is_free : Fn := ⟨2, 3, [.ret (.not (.bi .any (.cons (.lc [2] (.cmp .isin (.var 2) (.var 1)) (.one 2) (.e (.call 32 (.cons (.var 0) .nil))) .nil) .nil)))]⟩
/-- greatest_by (words, tied, many, lot) -/
def f_greatest_by : Fn := ⟨2, 4, [.fors (.one 2) (.range (.cons (.bi .len (.cons (.var 0) .nil)) (.cons (.lit (.int 0)) (.cons (.neg (.lit (.int 1))) .nil)))) [.fors (.one 3) (.e (.call 31 (.cons (.var 0) (.cons (.var 2) .nil)))) [.ifs (.call 33 (.cons (.var 3) (.cons (.var 1) .nil))) [.ret (.var 3)] []]], .ret (.tup .nil)]⟩
/-- greatest_lot (crowd, source, goal) -/
def f_greatest_lot : Fn := ⟨3, 3, [.drop (.call 24 (.cons (.var 0) (.cons (.var 1) (.cons (.var 2) .nil)))), .ret (.call 34 (.cons (.ix (.var 0) (.lit (.int 0))) (.cons (.call 29 (.cons (.var 0) (.cons (.var 1) (.cons (.var 2) .nil)))) .nil)))]⟩
/-- do_bar (words, pairs, many, lot) -/
def f_do_bar : Fn := ⟨3, 4, [.ret (.not (.bi .any (.cons (.lc [3] (.call 33 (.cons (.var 3) (.cons (.var 1) .nil))) (.one 3) (.e (.call 31 (.cons (.var 0) (.cons (.var 2) .nil)))) .nil) .nil)))]⟩
/-- is_pair (words, thing) -/
def f_is_pair : Fn := ⟨2, 2, [.ret (.and (.call 4 (.cons (.var 0) (.cons (.var 1) .nil))) (.cmp .eq (.bi .len (.cons (.var 1) .nil)) (.lit (.int 2))))]⟩
/-- is_bars (crowd, source, goal, many, thing, tied, pair) -/
def f_is_bars : Fn := ⟨5, 7, [.drop (.call 24 (.cons (.var 0) (.cons (.var 1) (.cons (.var 2) .nil)))), .set 5 (.call 29 (.cons (.var 0) (.cons (.var 1) (.cons (.var 2) .nil)))), .ifs (.not (.call 0 (.cons (.var 3) (.cons (.lit (.int 1)) (.cons (.lit (.int 7)) .nil))))) [.drop (.bi .min2 .nil)] [], .ifs (.or (.not (.bi .isList (.cons (.var 4) .nil))) (.not (.bi .all (.cons (.lc [6] (.and (.call 37 (.cons (.ix (.var 0) (.lit (.int 0))) (.cons (.var 6) .nil))) (.cmp .isin (.var 6) (.var 5))) (.one 6) (.e (.var 4)) .nil) .nil)))) [.ret (.lit (.bool false))] [], .ret (.and (.call 2 (.cons (.var 4) .nil)) (.call 36 (.cons (.ix (.var 0) (.lit (.int 0))) (.cons (.var 4) (.cons (.var 3) .nil)))))]⟩
/-- lists_of (things, many, made, k, thing, more) -/
def f_lists_of : Fn := ⟨2, 6, [.ifs (.cmp .eq (.var 1) (.lit (.int 0))) [.ret (.lst (.cons (.lst .nil) .nil))] [], .setO 2 (.lst .nil), .fors (.tup [3, 4]) (.enum (.var 0)) [.ext 2 (.lc [5] (.op .add (.lst (.cons (.var 4) .nil)) (.var 5)) (.one 5) (.e (.call 39 (.cons (.sl (.var 0) (.op .add (.var 3) (.lit (.int 1))) (.lit .none)) (.cons (.op .sub (.var 1) (.lit (.int 1))) .nil)))) .nil)], .frz 2, .ret (.var 2)]⟩
/-- bars (crowd, source, goal, tied, many, size, some) -/
def f_bars : Fn := ⟨3, 7, [.drop (.call 24 (.cons (.var 0) (.cons (.var 1) (.cons (.var 2) .nil)))), .set 3 (.call 29 (.cons (.var 0) (.cons (.var 1) (.cons (.var 2) .nil)))), .set 4 (.op .add (.bi .len (.cons (.call 34 (.cons (.ix (.var 0) (.lit (.int 0))) (.cons (.var 3) .nil))) .nil)) (.lit (.int 1))), .fors (.one 5) (.range (.cons (.op .add (.bi .len (.cons (.var 3) .nil)) (.lit (.int 1))) .nil)) [.fors (.one 6) (.e (.call 39 (.cons (.var 3) (.cons (.var 5) .nil)))) [.ifs (.call 36 (.cons (.ix (.var 0) (.lit (.int 0))) (.cons (.var 6) (.cons (.var 4) .nil)))) [.ret (.var 6)] []]], .ret (.lst .nil)]⟩
/-- all_tied (words, tied, made, many, lot, pair) -/
def f_all_tied : Fn := ⟨2, 6, [.setO 2 (.lst .nil), .fors (.one 3) (.range (.cons (.lit (.int 1)) (.cons (.op .add (.bi .len (.cons (.var 0) .nil)) (.lit (.int 1))) .nil))) [.ext 2 (.lc [4] (.var 4) (.one 4) (.e (.call 31 (.cons (.var 0) (.cons (.var 3) .nil)))) (.cons (.bi .all (.cons (.lc [5] (.cmp .isin (.var 5) (.var 1)) (.one 5) (.e (.call 32 (.cons (.var 4) .nil))) .nil) .nil)) .nil))], .ret (.bi .sorted (.cons (.bor 2) .nil))]⟩
/-- does_cover (words, lots, word, lot) -/
def f_does_cover : Fn := ⟨2, 4, [.ret (.bi .all (.cons (.lc [2] (.bi .any (.cons (.lc [3] (.cmp .isin (.var 2) (.var 3)) (.one 3) (.e (.var 1)) .nil) .nil)) (.one 2) (.e (.var 0)) .nil) .nil))]⟩
/-- least_cover (crowd, source, goal, every, size, some) -/
def f_least_cover : Fn := ⟨3, 6, [.drop (.call 24 (.cons (.var 0) (.cons (.var 1) (.cons (.var 2) .nil)))), .set 3 (.call 41 (.cons (.ix (.var 0) (.lit (.int 0))) (.cons (.call 29 (.cons (.var 0) (.cons (.var 1) (.cons (.var 2) .nil)))) .nil))), .fors (.one 4) (.range (.cons (.lit (.int 1)) (.cons (.op .add (.bi .len (.cons (.ix (.var 0) (.lit (.int 0))) .nil)) (.lit (.int 1))) .nil))) [.fors (.one 5) (.e (.call 39 (.cons (.var 3) (.cons (.var 4) .nil)))) [.ifs (.call 42 (.cons (.ix (.var 0) (.lit (.int 0))) (.cons (.var 5) .nil))) [.ret (.var 5)] []]], .ret (.lst .nil)]⟩
/-- is_cover (crowd, source, goal, thing, tied, lot, pair) -/
def f_is_cover : Fn := ⟨4, 7, [.drop (.call 24 (.cons (.var 0) (.cons (.var 1) (.cons (.var 2) .nil)))), .set 4 (.call 29 (.cons (.var 0) (.cons (.var 1) (.cons (.var 2) .nil)))), .ifs (.or (.not (.bi .isList (.cons (.var 3) .nil))) (.or (.not (.bi .all (.cons (.lc [5] (.call 4 (.cons (.ix (.var 0) (.lit (.int 0))) (.cons (.var 5) .nil))) (.one 5) (.e (.var 3)) .nil) .nil))) (.not (.call 2 (.cons (.var 3) .nil))))) [.ret (.lit (.bool false))] [], .ifs (.not (.bi .all (.cons (.lc2 [5, 6] [6] (.cmp .isin (.var 6) (.var 4)) (.one 5) (.e (.var 3)) .nil (.one 6) (.e (.call 32 (.cons (.var 5) .nil))) .nil) .nil))) [.ret (.lit (.bool false))] [], .ret (.call 42 (.cons (.ix (.var 0) (.lit (.int 0))) (.cons (.var 3) .nil)))]⟩
/-- look_lot (crowd, lot) -/
def f_look_lot : Fn := ⟨2, 2, [.ifs (.not (.call 4 (.cons (.ix (.var 0) (.lit (.int 0))) (.cons (.var 1) .nil)))) [.drop (.bi .min2 .nil)] []]⟩
/-- all_notes_of (crowd, source, goal, made, word, one) -/
def f_all_notes_of : Fn := ⟨3, 6, [.setO 3 (.dict .nil), .fors (.one 4) (.e (.ix (.var 0) (.lit (.int 0)))) [.put 3 (.var 4) (.call 21 (.cons (.lc [5] (.call 20 (.cons (.var 0) (.cons (.var 5) (.cons (.var 2) .nil)))) (.one 5) (.e (.call 19 (.cons (.var 0) (.cons (.var 1) (.cons (.var 4) .nil))))) .nil) .nil))], .frz 3, .ret (.var 3)]⟩
/-- table (crowd, source, goal, lot, made, rows, word, noted, one, other) -/
def f_table : Fn := ⟨4, 10, [.drop (.call 24 (.cons (.var 0) (.cons (.var 1) (.cons (.var 2) .nil)))), .set 4 (.call 46 (.cons (.var 0) (.cons (.var 1) (.cons (.var 2) .nil)))), .drop (.call 45 (.cons (.var 0) (.cons (.var 3) .nil))), .set 5 (.srtl (.lc2 [6, 7] [7] (.tup (.cons (.var 7) (.cons (.var 6) .nil))) (.one 6) (.e (.var 3)) .nil (.one 7) (.e (.ix (.var 4) (.var 6))) .nil) (.call 17 (.cons (.ix (.var 0) (.lit (.int 0))) .nil))), .ifs (.bi .any (.cons (.lc [8, 9] (.cmp .eq (.ix (.var 8) (.lit (.int 0))) (.ix (.var 9) (.lit (.int 0)))) (.tup [8, 9]) (.zip (.cons (.var 5) (.cons (.sl (.var 5) (.lit (.int 1)) (.lit .none)) .nil))) .nil) .nil)) [.ret (.lit .none)] [], .ret (.var 5)]⟩
/-- is_row (crowd, thing, names, name) -/
def f_is_row : Fn := ⟨2, 4, [.set 2 (.call 14 (.cons (.var 0) .nil)), .ret (.and (.bi .isList (.cons (.var 1) .nil)) (.bi .all (.cons (.lc [3] (.and (.call 1 (.cons (.var 3) .nil)) (.cmp .isin (.var 3) (.var 2))) (.one 3) (.e (.var 1)) .nil) .nil)))]⟩
/-- look_row (crowd, row) -/
def f_look_row : Fn := ⟨2, 2, [.ifs (.not (.call 48 (.cons (.var 0) (.cons (.var 1) .nil)))) [.drop (.bi .min2 .nil)] []]⟩
/-- plain_along (crowd, row, made, name) -/
def f_plain_along : Fn := ⟨2, 4, [.set 2 (.call 6 (.cons (.ix (.var 0) (.lit (.int 0))) .nil)), .fors (.one 3) (.e (.var 1)) [.set 2 (.call 9 (.cons (.ix (.var 0) (.lit (.int 0))) (.cons (.var 2) (.cons (.call 16 (.cons (.var 0) (.cons (.var 3) .nil))) .nil))))], .ret (.var 2)]⟩
/-- tied_by (words, hearing, word, part) -/
def f_tied_by : Fn := ⟨2, 4, [.ret (.call 28 (.cons (.var 0) (.cons (.dc [2, 3] (.var 2) (.var 3) (.tup [2, 3]) (.zip (.cons (.var 0) (.cons (.var 1) .nil))) .nil) .nil)))]⟩
/-- does_forget (words, hearing, tied, pair) -/
def f_does_forget : Fn := ⟨2, 4, [.set 2 (.call 51 (.cons (.var 0) (.cons (.var 1) .nil))), .ret (.bi .all (.cons (.lc [3] (.cmp .isin (.var 3) (.var 2)) (.one 3) (.e (.call 32 (.cons (.var 0) .nil))) .nil) .nil))]⟩
/-- lot_along (crowd, row) -/
def f_lot_along : Fn := ⟨2, 2, [.drop (.call 13 (.cons (.var 0) .nil)), .drop (.call 49 (.cons (.var 0) (.cons (.var 1) .nil))), .ret (.call 34 (.cons (.ix (.var 0) (.lit (.int 0))) (.cons (.call 51 (.cons (.ix (.var 0) (.lit (.int 0))) (.cons (.call 50 (.cons (.var 0) (.cons (.var 1) .nil))) .nil))) .nil)))]⟩
/-- rows_made (crowd, words, start, found, line, at, name, here, there) -/
def f_rows_made : Fn := ⟨1, 9, [.par [1, 2] [false, false] [(.ix (.var 0) (.lit (.int 0))), (.call 6 (.cons (.ix (.var 0) (.lit (.int 0))) .nil))], .par [3, 4, 5] [true, true, false] [(.dict (.cons (.var 2) (.cons (.lst .nil) .nil))), (.lst (.cons (.var 2) .nil)), (.lit (.int 0))], .whiles (.cmp .lt (.var 5) (.bi .len (.cons (.bor 4) .nil))) [.par [7, 5] [false, false] [(.ix (.bor 4) (.var 5)), (.op .add (.var 5) (.lit (.int 1)))], .fors (.one 6) (.e (.call 14 (.cons (.var 0) .nil))) [.set 8 (.call 9 (.cons (.var 1) (.cons (.var 7) (.cons (.call 16 (.cons (.var 0) (.cons (.var 6) .nil))) .nil)))), .ifs (.cmp .notin (.var 8) (.bor 3)) [.put 3 (.var 8) (.op .add (.ix (.bor 3) (.var 7)) (.lst (.cons (.var 6) .nil))), .app 4 (.var 8), .ifs (.cmp .gt (.bi .len (.cons (.bor 4) .nil)) (.gc 7)) [.drop (.bi .min2 .nil)] []] []]], .frz 3, .ret (.var 3)]⟩
/-- forgetting (crowd, hearing, row) -/
def f_forgetting : Fn := ⟨1, 3, [.drop (.call 13 (.cons (.var 0) .nil)), .fors (.tup [1, 2]) (.items (.call 54 (.cons (.var 0) .nil))) [.ifs (.call 52 (.cons (.ix (.var 0) (.lit (.int 0))) (.cons (.var 1) .nil))) [.ret (.var 2)] []], .ret (.lit .none)]⟩
/-- lasting (crowd, tied, hearing, pair) -/
def f_lasting : Fn := ⟨1, 4, [.drop (.call 13 (.cons (.var 0) .nil)), .set 1 (.lc2 [2, 3] [3] (.var 3) (.one 2) (.e (.call 54 (.cons (.var 0) .nil))) .nil (.one 3) (.e (.call 51 (.cons (.ix (.var 0) (.lit (.int 0))) (.cons (.var 2) .nil)))) .nil), .ret (.call 34 (.cons (.ix (.var 0) (.lit (.int 0))) (.cons (.var 1) .nil)))]⟩
/-- ties_ahead (crowd, source, goal, beat) -/
def f_ties_ahead : Fn := ⟨4, 4, [.ret (.call 28 (.cons (.ix (.var 0) (.lit (.int 0))) (.cons (.call 27 (.cons (.var 0) (.cons (.var 1) (.cons (.var 2) (.cons (.var 3) .nil))))) .nil)))]⟩
/-- read_from (crowd, source, goal, lot, made, some, beat, tied) -/
def f_read_from : Fn := ⟨4, 8, [.drop (.call 24 (.cons (.var 0) (.cons (.var 1) (.cons (.var 2) .nil)))), .set 4 (.lc [6] (.call 57 (.cons (.var 0) (.cons (.var 1) (.cons (.var 2) (.cons (.var 6) .nil))))) (.one 6) (.range (.cons (.op .add (.gc 5) (.lit (.int 2))) .nil)) .nil), .drop (.call 45 (.cons (.var 0) (.cons (.var 3) .nil))), .set 5 (.lc [6, 7] (.var 6) (.tup [6, 7]) (.enum (.var 4)) (.cons (.call 33 (.cons (.var 3) (.cons (.var 7) .nil))) .nil)), .ret (.ife (.cmp .ne (.var 5) (.lst .nil)) (.ix (.var 5) (.lit (.int 0))) (.lit .none))]⟩
/-- best_goal (crowd, source, many, rows, name, beat) -/
def f_best_goal : Fn := ⟨3, 6, [.drop (.call 13 (.cons (.var 0) .nil)), .drop (.call 15 (.cons (.var 0) (.cons (.var 1) .nil))), .ifs (.not (.call 0 (.cons (.var 2) (.cons (.lit (.int 1)) (.cons (.lit (.int 6)) .nil))))) [.drop (.bi .min2 .nil)] [], .drop (.call 25 (.cons (.var 0) (.cons (.var 1) .nil))), .setO 3 (.lst .nil), .fors (.one 4) (.e (.call 14 (.cons (.var 0) .nil))) [.ifs (.cmp .ne (.var 4) (.var 1)) [.fors (.one 5) (.range (.cons (.op .add (.gc 5) (.lit (.int 2))) .nil)) [.ifs (.cmp .ge (.bi .len (.cons (.call 34 (.cons (.ix (.var 0) (.lit (.int 0))) (.cons (.call 57 (.cons (.var 0) (.cons (.var 1) (.cons (.var 4) (.cons (.var 5) .nil))))) .nil))) .nil)) (.var 2)) [.app 3 (.tup (.cons (.var 5) (.cons (.var 4) .nil)))] []]] []], .ret (.ife (.cmp .ne (.bor 3) (.lst .nil)) (.stp (.bi .min1 (.cons (.bor 3) .nil)) (-1)) (.lit .none))]⟩
/-- _law_pick (script, k, many, cell, drawn, rest, again) -/
def f_law_pick : Fn := ⟨3, 7, [.set 3 (.ife (.cmp .ne (.var 0) (.lst .nil)) (.ix (.var 0) (.op .mod (.var 1) (.bi .len (.cons (.var 0) .nil)))) (.lit (.int 0))), .par [5, 6] [false, false] [(.op .fdiv (.var 3) (.op .pow (.lit (.int 10)) (.lit (.int 18)))), (.op .fdiv (.var 1) (.bi .max2 (.cons (.bi .len (.cons (.var 0) .nil)) (.cons (.lit (.int 1)) .nil))))], .whiles (.and (.cmp .gt (.var 5) (.lit (.int 0))) (.cmp .gt (.var 6) (.lit (.int 0)))) [.par [5, 6] [false, false] [(.op .fdiv (.var 5) (.lit (.int 840))), (.op .sub (.var 6) (.lit (.int 1)))]], .ifs (.cmp .gt (.var 5) (.lit (.int 0))) [.ret (.op .mod (.op .mod (.var 5) (.lit (.int 840))) (.var 2))] [], .set 4 (.op .mod (.op .mul (.op .add (.op .mul (.var 3) (.lit (.int 31))) (.op .mul (.lit (.int 6151)) (.op .add (.var 1) (.lit (.int 1))))) (.lit (.int 40692))) (.lit (.int 2147483399))), .ret (.op .mod (.op .mod (.op .add (.op .mul (.var 4) (.var 4)) (.op .fdiv (.var 4) (.lit (.int 31)))) (.lit (.int 2147483629))) (.var 2))]⟩
/-- law (script, names, ring, people, crowd, due, told, twice, row, lot, rows, words, many, k, word, noted) -/
def f_law : Fn := ⟨1, 16, [.set 1 (.sl (.lst (.cons (.lit (.str "wa")) (.cons (.lit (.str "wb")) (.cons (.lit (.str "wc")) (.cons (.lit (.str "wd")) (.cons (.lit (.str "we")) (.cons (.lit (.str "wf")) .nil))))))) (.lit .none) (.op .add (.lit (.int 5)) (.call 60 (.cons (.var 0) (.cons (.lit (.int 0)) (.cons (.lit (.int 2)) .nil)))))), .setT [11, 12] (.tup (.cons (.bi .tuple (.cons (.var 1) .nil)) (.cons (.bi .len (.cons (.var 1) .nil)) .nil))), .set 2 (.bi .tuple (.cons (.lc [13, 14] (.bi .tuple (.cons (.bi .sorted (.cons (.lst (.cons (.var 14) (.cons (.ix (.var 11) (.op .mod (.op .add (.var 13) (.lit (.int 1))) (.var 12))) .nil))) .nil)) .nil)) (.tup [13, 14]) (.enum (.var 11)) .nil) .nil)), .set 3 (.tup (.cons (.tup (.cons (.lit (.str "pa")) (.cons (.var 2) .nil))) (.cons (.tup (.cons (.lit (.str "pb")) (.cons (.var 2) .nil))) .nil))), .set 4 (.tup (.cons (.var 11) (.cons (.var 3) (.cons (.tup (.cons (.tup (.cons (.lit (.int 0)) (.cons (.lit (.str "pa")) (.cons (.lit (.str "pb")) .nil)))) .nil)) .nil)))), .set 5 (.bi .sorted (.cons (.lc [13] (.bi .tuple (.cons (.bi .sorted (.cons (.lst (.cons (.ix (.var 11) (.var 13)) (.cons (.ix (.var 11) (.op .mod (.op .add (.var 13) (.lit (.int 1))) (.var 12))) .nil))) .nil)) .nil)) (.one 13) (.range (.cons (.var 12) .nil)) .nil) .nil)), .ifs (.or (.cmp .ne (.call 30 (.cons (.var 4) (.cons (.lit (.str "pa")) (.cons (.lit (.str "pb")) .nil)))) (.var 5)) (.cmp .ne (.call 35 (.cons (.var 4) (.cons (.lit (.str "pa")) (.cons (.lit (.str "pb")) .nil)))) (.sl (.stp (.var 11) 2) (.lit .none) (.op .fdiv (.var 12) (.lit (.int 2)))))) [.ret (.lit (.bool false))] [], .set 6 (.call 40 (.cons (.var 4) (.cons (.lit (.str "pa")) (.cons (.lit (.str "pb")) .nil)))), .ifs (.or (.not (.call 38 (.cons (.var 4) (.cons (.lit (.str "pa")) (.cons (.lit (.str "pb")) (.cons (.op .add (.op .fdiv (.var 12) (.lit (.int 2))) (.lit (.int 1))) (.cons (.var 6) .nil))))))) (.cmp .ne (.bi .len (.cons (.var 6) .nil)) (.ife (.cmp .eq (.var 12) (.lit (.int 5))) (.lit (.int 5)) (.lit (.int 3))))) [.ret (.lit (.bool false))] [], .ifs (.or (.cmp .ne (.bi .len (.cons (.call 43 (.cons (.var 4) (.cons (.lit (.str "pa")) (.cons (.lit (.str "pb")) .nil)))) .nil)) (.lit (.int 3))) (.not (.call 44 (.cons (.var 4) (.cons (.lit (.str "pa")) (.cons (.lit (.str "pb")) (.cons (.call 43 (.cons (.var 4) (.cons (.lit (.str "pa")) (.cons (.lit (.str "pb")) .nil)))) .nil))))))) [.ret (.lit (.bool false))] [], .set 7 (.tup (.cons (.var 11) (.cons (.var 3) (.cons (.tup (.cons (.tup (.cons (.lit (.int 0)) (.cons (.lit (.str "pa")) (.cons (.lit (.str "pb")) .nil)))) (.cons (.tup (.cons (.lit (.int 1)) (.cons (.lit (.str "pa")) (.cons (.lit (.str "pb")) .nil)))) .nil))) .nil)))), .ifs (.cmp .ne (.call 30 (.cons (.var 7) (.cons (.lit (.str "pa")) (.cons (.lit (.str "pb")) .nil)))) (.var 5)) [.ret (.lit (.bool false))] [], .ifs (.cmp .ne (.call 53 (.cons (.var 4) (.cons (.lst (.cons (.lit (.str "pa")) (.cons (.lit (.str "pb")) .nil))) .nil))) (.ife (.cmp .eq (.var 12) (.lit (.int 6))) (.stp (.var 11) 3) (.sl (.var 11) (.lit .none) (.lit (.int 1))))) [.ret (.lit (.bool false))] [], .set 8 (.call 55 (.cons (.var 4) .nil)), .ifs (.or (.cmp .ne (.var 8) (.rep (.cons (.lit (.str "pa")) .nil) (.ife (.cmp .eq (.var 12) (.lit (.int 5))) (.lit (.int 2)) (.lit (.int 3))))) (.cmp .ne (.call 56 (.cons (.var 4) .nil)) (.sl (.var 11) (.lit .none) (.lit (.int 1))))) [.ret (.lit (.bool false))] [], .set 9 (.call 35 (.cons (.var 4) (.cons (.lit (.str "pa")) (.cons (.lit (.str "pb")) .nil)))), .set 10 (.call 47 (.cons (.var 4) (.cons (.lit (.str "pa")) (.cons (.lit (.str "pb")) (.cons (.var 9) .nil))))), .ifs (.or (.cmp .ne (.lc [15, 14] (.var 14) (.tup [15, 14]) (.e (.var 10)) (.cons (.cmp .eq (.var 15) (.lst (.cons (.ix (.var 11) (.lit (.int 1))) .nil))) .nil)) (.lst (.cons (.ix (.var 11) (.lit (.int 0))) .nil))) (.cmp .ne (.call 58 (.cons (.var 4) (.cons (.lit (.str "pa")) (.cons (.lit (.str "pb")) (.cons (.var 9) .nil))))) (.lit (.int 1)))) [.ret (.lit (.bool false))] [], .ifs (.cmp .ne (.call 59 (.cons (.var 4) (.cons (.lit (.str "pa")) (.cons (.lit (.int 2)) .nil)))) (.tup (.cons (.lit (.str "pb")) (.cons (.lit (.int 1)) .nil)))) [.ret (.lit (.bool false))] [], .ret (.cmp .eq (.call 26 (.cons (.var 4) (.cons (.lit (.str "pa")) (.cons (.lit (.str "pb")) (.cons (.lst (.cons (.ix (.var 11) (.lit (.int 0))) .nil)) .nil))))) (.tup (.cons (.ix (.var 11) (.lit (.int 0))) (.cons (.ix (.var 11) (.neg (.lit (.int 1)))) .nil))))]⟩
def fns : List Fn := [f_is_whole, f_is_name, f_is_rising, f_is_words, f_is_part, f_is_hearing_of, f_plain_true, f_heard_as, f_rising_of, f_plain_chained, f_is_person, f_is_whisper, f_is_crowd, f_look_crowd, f_names_in, f_look_person, f_hearing_of, f_by_order, f_with_heard, f_plain_evenings, f_plain_note, f_no_twice, f_are_notes, f_look_notes, f_look_ends, f_all_evenings, f_can_be_said, f_notes_ahead, f_pairs_tied, f_plain_ties, f_ties, f_lots_in, f_pairs_in, f_is_free, f_greatest_by, f_greatest_lot, f_do_bar, f_is_pair, f_is_bars, f_lists_of, f_bars, f_all_tied, f_does_cover, f_least_cover, f_is_cover, f_look_lot, f_all_notes_of, f_table, f_is_row, f_look_row, f_plain_along, f_tied_by, f_does_forget, f_lot_along, f_rows_made, f_forgetting, f_lasting, f_ties_ahead, f_read_from, f_best_goal, f_law_pick, f_law]
def glo : List D := [(.str "abcdefghijklmnopqrstuvwxyz"), (.int 6), (.int 6), (.int 6), (.int 10), (.int 9), (.int 2000), (.int 300)]
end SH.K42

set_option Elab.async false
set_option linter.all false
set_option maxRecDepth 100000
set_option maxHeartbeats 0
namespace SH.K42
open SH PySem
def lawRest : List S := f_law.body.tail
def lawE : E := .sl (.lst (.cons (.lit (.str "wa")) (.cons (.lit (.str "wb")) (.cons (.lit (.str "wc")) (.cons (.lit (.str "wd")) (.cons (.lit (.str "we")) (.cons (.lit (.str "wf")) .nil))))))) (.lit .none) (.op .add (.lit (.int 5)) (.call 60 (.cons (.var 0) (.cons (.lit (.int 0)) (.cons (.lit (.int 2)) .nil)))))
theorem law_body : f_law.body = .set 1 lawE :: lawRest := rfl
def six : List D := [.str "wa", .str "wb", .str "wc", .str "wd", .str "we", .str "wf"]
theorem rest0 (s : D) : exB (callF fns glo 11) glo lawRest ((startE f_law [s]).set 1 (some (.fz (.list (six.take 5))))) = .ok (.rt (.bool true)) := by kernel_rfl
theorem rest1 (s : D) : exB (callF fns glo 11) glo lawRest ((startE f_law [s]).set 1 (some (.fz (.list six)))) = .ok (.rt (.bool true)) := by kernel_rfl
theorem plain (ns : List Int) (hn : ns.length ≤ 63) (_ : ∀ z ∈ ns, Builtin.Int.intBits z ≤ 1048576) : callF fns glo 12 61 [.list (ns.map PyData.int)] = .ok (.bool true) := by
  obtain ⟨r, h0, h1, hp⟩ := pick_ok (callF fns glo 10) glo ns 0 2 hn (by omega) (by omega) (by omega)
  have hc : callF fns glo 11 60 [.list (ns.map PyData.int), .int 0, .int 2] = .ok (.int r) := callF_rt (f := pickF) rfl rfl hp
  have he : evE (callF fns glo 11) glo lawE (startE f_law [.list (ns.map PyData.int)]) = R.of (slD none (some (5 + r)) (.list six)) := by
    have e0 : (startE f_law [.list (ns.map PyData.int)])[0]? = some (some (.fz (.list (ns.map PyData.int)))) := rfl
    simp only [lawE, evE, evEs, e0, cellFz, R.of_some, R.bind_ok, hc, opD, partO]
    rfl
  refine callF_rt (f := f_law) rfl rfl ?_
  rw [law_body]
  have hr : r = 0 ∨ r = 1 := by omega
  rcases hr with rfl | rfl
  · rw [exB_nx (e1 := (startE f_law [.list (ns.map PyData.int)]).set 1 (some (.fz (.list (six.take 5))))) _ _ (by rw [exS, he]; rfl), rest0]
  · rw [exB_nx (e1 := (startE f_law [.list (ns.map PyData.int)]).set 1 (some (.fz (.list six)))) _ _ (by rw [exS, he]; rfl), rest1]
end SH.K42

set_option Elab.async false
set_option linter.all false
set_option maxRecDepth 100000
set_option maxHeartbeats 4000000
/-! What data stand for in the abstract heap; the frozen part of it. -/
namespace SH
open PySem PySem.Spec PyProof.Rows L2

def Sub (F H : Hp) : Prop := ∀ a o, F a = some o → H a = some o
theorem Sub.refl {H : Hp} : Sub H H := fun _ _ h => h
theorem Sub.trans {F G H : Hp} (a : Sub F G) (b : Sub G H) : Sub F H := fun x o h => b x o (a x o h)
theorem Sub.no {F H : Hp} {a : Addr} (s : Sub F H) (h : H a = none) : F a = none := by
  cases e : F a with
  | none => rfl
  | some o => rw [s a o e] at h; cases h
theorem Sub.upd {F H : Hp} {a : Addr} {o : HO} (s : Sub F H) (h : F a = none) : Sub F (upd H a o) := fun b u e => by
  by_cases hb : b = a
  · subst hb; rw [h] at e; cases e
  · rw [upd_ne hb]; exact s b u e
theorem Sub.upd2 {F H : Hp} {a : Addr} {o : HO} (s : Sub F H) : Sub (L2.upd F a o) (L2.upd H a o) := fun b u e => by
  by_cases hb : b = a
  · subst hb; rw [upd_same] at e ⊢; exact e
  · rw [upd_ne hb] at e ⊢; exact s b u e
theorem Sub.self {H : Hp} {a : Addr} {o : HO} (h : H a = none) : Sub H (L2.upd H a o) := Sub.refl.upd h

/-- the tables of code objects that a text's lambdas are told in -/
class Tb where
  T : List (Addr × Str)
section
variable [Tb]
/-- all that stood stands; a table of code objects may have grown -/
structure Grows (H H' : Hp) : Prop where
  g : ∀ a o, H a = some o → H' a = some o ∨ ∃ ps ps', o = .tbl ps ∧ H' a = some (.tbl ps')
  t : LamX.Tabs Tb.T H → LamX.Tabs Tb.T H'
theorem Grows.of {H H' : Hp} (s : Sub H H') : Grows H H' := ⟨fun a o e => .inl (s a o e), fun h => h.ext s⟩
theorem Grows.refl {H : Hp} : Grows H H := .of Sub.refl
theorem Grows.trans {H H1 H2 : Hp} (a : Grows H H1) (b : Grows H1 H2) : Grows H H2 := ⟨fun x o e => by
  rcases a.g x o e with q | ⟨ps, ps', rfl, q⟩
  · exact b.g x o q
  · rcases b.g x _ q with z | ⟨p1, p2, _, z⟩
    · exact .inr ⟨ps, ps', rfl, z⟩
    · exact .inr ⟨ps, p2, rfl, z⟩, fun h => b.t (a.t h)⟩
theorem Grows.no {H H' : Hp} {a : Addr} (s : Grows H H') (h : H' a = none) : H a = none := by
  cases e : H a with
  | none => rfl
  | some o =>
    rcases s.g a o e with q | ⟨_, _, _, q⟩ <;> rw [q] at h <;> cases h
theorem Grows.get {H H' : Hp} {a : Addr} {o : HO} (s : Grows H H') (h : H a = some o) (n : ∀ ps, o ≠ .tbl ps) : H' a = some o := by
  rcases s.g a o h with q | ⟨ps, _, rfl, _⟩
  · exact q
  · exact absurd rfl (n ps)
/-- no table, no code object -/
def NotCode (a : Addr) (u : HO) : Prop := (∀ ps, u ≠ .tbl ps) ∧ ∀ q, u ≠ LamX.CodeO a q
theorem notCode_lst {a : Addr} {xs : List V} : NotCode a (.lst xs) := ⟨(fun _ h => nomatch h), fun _ h => by unfold LamX.CodeO at h; cases h⟩
theorem notCode_frz {a : Addr} {o : Obj} {u : HO} : NotCode a (.frz o u) := ⟨(fun _ h => nomatch h), fun _ h => by unfold LamX.CodeO at h; cases h⟩
/-- a thing that is no code object is changed -/
theorem Grows.upd {H1 H : Hp} {a : Addr} {o u : HO} (x : Grows H1 H) (h1 : H1 a = none) (h : H a = some u) (n : NotCode a u) : Grows H1 (upd H a o) := ⟨fun b v e => by
  by_cases z : b = a
  · subst z; rw [h1] at e; cases e
  · rw [upd_ne z]; exact x.g b v e, fun ht p hp => by
  obtain ⟨ps, e1, e2, e3⟩ := x.t ht p hp
  have ne : ∀ b w, H b = some w → (w = u → b = a → False) → b ≠ a := fun b w e q z => by
    have : w = u := by rw [z, h] at e; exact (Option.some.inj e).symm
    exact q this z
  refine ⟨ps, by rw [upd_ne (ne _ _ e1 fun q _ => n.1 ps q.symm)]; exact e1, e2, fun pos cv hc => ?_⟩
  obtain ⟨c, ec, hcc⟩ := e3 pos cv hc
  refine ⟨c, ec, by rw [upd_ne (ne _ _ hcc fun q z => n.2 p.2 (by subst z; exact q.symm))]; exact hcc⟩⟩
/-- the heap grew from H to H', its frozen part from F to F' -/
structure Ext (H F H' F' : Hp) : Prop where
  h : Grows H H'
  f : Sub F F'
  s : Sub F' H'
  n : ∀ a, F' a ≠ none → F a ≠ none ∨ H a = none
theorem Ext.refl {H F : Hp} (s : Sub F H) : Ext H F H F := ⟨Grows.refl, Sub.refl, s, fun _ h => .inl h⟩
theorem Ext.trans {H F H1 F1 H2 F2 : Hp} (a : Ext H F H1 F1) (b : Ext H1 F1 H2 F2) : Ext H F H2 F2 :=
  ⟨a.h.trans b.h, a.f.trans b.f, b.s, fun x h => by
    rcases b.n x h with q | q
    · exact a.n x q
    · exact .inr (a.h.no q)⟩
/-- a new frozen thing -/
theorem Ext.new {H F : Hp} {p : Addr} {o : HO} (s : Sub F H) (h : H p = none) : Ext H F (upd H p o) (upd F p o) :=
  ⟨.of (Sub.self h), Sub.self (s.no h), s.upd2, fun a q => by
    by_cases e : a = p
    · subst e; exact .inr h
    · rw [upd_ne e] at q; exact .inl q⟩
/-- a new thing that is not frozen -/
theorem Ext.newO {H F : Hp} {p : Addr} {o : HO} (s : Sub F H) (h : H p = none) : Ext H F (upd H p o) F :=
  ⟨.of (Sub.self h), Sub.refl, s.upd (s.no h), fun a q => .inl q⟩
/-- a thing that was made since is frozen -/
theorem Ext.fz {H F H' F' : Hp} {p : Addr} {o : HO} (x : Ext H F H' F') (h : H p = none) (e : H' p = some o) : Ext H F H' (upd F' p o) :=
  ⟨x.h, fun a u q => by
    by_cases z : a = p
    · subst z; rw [x.s.trans Sub.refl a u (x.f a u q)] at e; rw [upd_same]; exact e.symm
    · rw [upd_ne z]; exact x.f a u q,
   fun a u q => by
    by_cases z : a = p
    · subst z; rw [upd_same] at q; rw [e]; exact q
    · rw [upd_ne z] at q; exact x.s a u q,
   fun a q => by
    by_cases z : a = p
    · subst z; exact .inr h
    · rw [upd_ne z] at q; exact x.n a q⟩

/-- the tables stand, none of them frozen -/
def TabF (F H : Hp) : Prop := LamX.Tabs Tb.T H ∧ ∀ p ∈ Tb.T, F p.1 = none
theorem TabF.ext {F H F' H' : Hp} (t : TabF F H) (x : Ext H F H' F') : TabF F' H' := ⟨x.h.t t.1, fun p hp => by
  obtain ⟨ps, e, _⟩ := t.1 p hp
  cases q : F' p.1 with
  | none => rfl
  | some u =>
    rcases x.n p.1 (by rw [q]; exact Option.some_ne_none u) with z | z
    · exact absurd (t.2 p hp) z
    · rw [e] at z; cases z⟩
end
/-! ### dicts: the object as it lies -/
def RawO (a : Addr) (o : Obj) : HO := .ext fun h => h.get? a = some o
def keyD : Key → D
  | .inl i => .int i
  | .inr x => .str x
structure DK1 (P : Program) (w : World) (o : Obj) (kvs : List (Key × V)) : Prop where
  ex : o.ExactDict
  run : ∃ es ep vs, o.data = .dict es ep ∧ KeysOf (mixKind P w) es ∧ Pairs (mixKind P w) es.toList vs ∧ (vs.map (·.1)).Nodup ∧ KV kvs vs
  big : kvs.length ≤ sizeLine
abbrev KT2 : List (NestedKey × Addr × V) → List (NestedKey × Addr × Value) → Prop := Paired fun x q => x.1 = q.1 ∧ x.2.1 = q.2.1 ∧ RelV x.2.2 q.2.2
structure DK2 (P : Program) (w : World) (o : Obj) (xs : List (NestedKey × Addr × V)) : Prop where
  ex : o.ExactDict
  run : ∃ es ep vs, o.data = .dict es ep ∧ es.toList = vs.map (entryOfKey (nestedKind P w)) ∧ (vs.map (·.1)).Nodup ∧ KT2 xs vs
  big : xs.length ≤ sizeLine

/-- a thing without a dict of its own -/
def Pn (K : PySem.W.Frag) (F : Hp) (a : Addr) : Prop := (∃ o u, F a = some (.frz o u) ∧ o.dict = none) ∨ ∃ o, K.lookup a = some o ∧ o.dict = none
def SqP (K : PySem.W.Frag) (F : Hp) (a : Addr) (xs : List V) : Prop := SqT K F a xs ∧ Pn K F a
/-- a tuple, known to the object -/
def TupO (its : List Value) (xs : List V) : HO := .frz { cls := .type "tuple", data := .seq its.toArray } (.tup xs)
theorem SqP.new {K : PySem.W.Frag} {F : Hp} {a : Addr} {its : List Value} {xs : List V} (h : F a = some (TupO its xs)) : SqP K F a xs := ⟨.inl (.inr ⟨_, h⟩), .inl ⟨_, _, h, rfl⟩⟩
theorem _root_.L2.Inv.tnew {X : Cx} {pins : List (Addr × Obj)} {σ : L2.St} {H : Hp} {s : Shared} {h' : Heap} {t' : Nat} {xs : List V} {its : List Value} (I : Inv X pins σ H s) (k : ∀ b u, s.heap.get? b = some u → h'.get? b = some u) (z : xs.length ≤ sizeLine) (r : Vals xs its) :
    ∃ p, H p = none ∧ p = h'.objs.size ∧ Inv X pins σ (upd H p (TupO its xs)) { s with heap := h'.push { cls := .type "tuple", data := .seq its.toArray }, toks := t' } := by
  have I1 : Inv X pins σ H { s with heap := h' } := I.kept (t' := s.toks) k
  refine ⟨h'.objs.size, I1.hok.fresh (Nat.le_refl _), rfl, ?_⟩
  exact I1.laid (t' := t') (o := TupO its xs) (fun b u e => Heap.get?_push_of_some _ e) (Nat.le_refl _) ⟨Heap.get?_push_size _ rfl, z, its, r, IsTup.new _ _⟩
mutual
/-- the value v stands for d by the frozen things F -/
inductive Dt (P : Program) (w : World) (K : PySem.W.Frag) (F : Hp) : V → D → Prop
  | non : Dt P w K F .non .none
  | bl (b : Bool) : Dt P w K F (.bl b) (.bool b)
  | int (i : Int) : Dt P w K F (.int i) (.int i)
  | str (x : Str) : Dt P w K F (.str x) (.str x)
  | lst {a : Addr} {xs : List V} {ds : List D} : SqL K F a xs → xs.length ≤ sizeLine → DtAll P w K F xs ds → Dt P w K F (.ref a) (.list ds)
  | tup {a : Addr} {xs : List V} {ds : List D} : SqP K F a xs → xs.length ≤ sizeLine → DtAll P w K F xs ds → Dt P w K F (.ref a) (.tuple ds)
  | dc1 {a : Addr} {o : Obj} {kvs : List (Key × V)} {ds : List (D × D)} : F a = some (RawO a o) → (a == sysModules) = false → DK1 P w o kvs → DtK1 P w K F kvs ds → Dt P w K F (.ref a) (.dict ds)
  | dc2 {a : Addr} {o : Obj} {x : NestedKey × Addr × V} {xs : List (NestedKey × Addr × V)} {ds : List (D × D)} : F a = some (RawO a o) → (a == sysModules) = false → DK2 P w o (x :: xs) → DtK2 P w K F (x :: xs) ds → Dt P w K F (.ref a) (.dict ds)
inductive DtAll (P : Program) (w : World) (K : PySem.W.Frag) (F : Hp) : List V → List D → Prop
  | nil : DtAll P w K F [] []
  | cons {v : V} {vs : List V} {d : D} {ds : List D} : Dt P w K F v d → DtAll P w K F vs ds → DtAll P w K F (v :: vs) (d :: ds)
inductive DtK1 (P : Program) (w : World) (K : PySem.W.Frag) (F : Hp) : List (Key × V) → List (D × D) → Prop
  | nil : DtK1 P w K F [] []
  | cons {k : Key} {v : V} {r : List (Key × V)} {d : D} {ds : List (D × D)} : Dt P w K F v d → DtK1 P w K F r ds → DtK1 P w K F ((k, v) :: r) ((keyD k, d) :: ds)
inductive DtK2 (P : Program) (w : World) (K : PySem.W.Frag) (F : Hp) : List (NestedKey × Addr × V) → List (D × D) → Prop
  | nil : DtK2 P w K F [] []
  | cons {k : NestedKey} {p : Addr} {v : V} {r : List (NestedKey × Addr × V)} {kd d : D} {ds : List (D × D)} : nk kd = some k → keyKind kd = 2 → Dt P w K F (.ref p) kd → Dt P w K F v d → DtK2 P w K F r ds →
      DtK2 P w K F ((k, p, v) :: r) ((kd, d) :: ds)
end
section
variable {P : Program} {w : World} {K : PySem.W.Frag} {F F' H : Hp}
theorem Rd.mono {a : Addr} {u : HO} (s : Sub F F') (h : Rd F a u) : Rd F' a u := by
  rcases h with h | ⟨o, h⟩
  · exact .inl (s _ _ h)
  · exact .inr ⟨o, s _ _ h⟩
theorem SqL.mono {a : Addr} {xs : List V} (s : Sub F F') (h : SqL K F a xs) : SqL K F' a xs := h.elim (fun z => .inl (Rd.mono s z)) .inr
theorem SqT.mono {a : Addr} {xs : List V} (s : Sub F F') (h : SqT K F a xs) : SqT K F' a xs := h.elim (fun z => .inl (Rd.mono s z)) .inr
theorem SqP.mono {a : Addr} {xs : List V} (s : Sub F F') (h : SqP K F a xs) : SqP K F' a xs :=
  ⟨SqT.mono s h.1, h.2.elim (fun ⟨o, u, e, d⟩ => .inl ⟨o, u, s _ _ e, d⟩) .inr⟩
mutual
theorem Dt.mono (s : Sub F F') {v : V} {d : D} : Dt P w K F v d → Dt P w K F' v d
  | .non => .non
  | .bl b => .bl b
  | .int i => .int i
  | .str x => .str x
  | .lst h z a => .lst (SqL.mono s h) z (DtAll.mono s a)
  | .tup h z a => .tup (SqP.mono s h) z (DtAll.mono s a)
  | .dc1 h z k a => .dc1 (s _ _ h) z k (DtK1.mono s a)
  | .dc2 h z k a => .dc2 (s _ _ h) z k (DtK2.mono s a)
theorem DtAll.mono (s : Sub F F') {vs : List V} {ds : List D} : DtAll P w K F vs ds → DtAll P w K F' vs ds
  | .nil => .nil
  | .cons h t => .cons (Dt.mono s h) (DtAll.mono s t)
theorem DtK1.mono (s : Sub F F') {vs : List (Key × V)} {ds : List (D × D)} : DtK1 P w K F vs ds → DtK1 P w K F' vs ds
  | .nil => .nil
  | .cons h t => .cons (Dt.mono s h) (DtK1.mono s t)
theorem DtK2.mono (s : Sub F F') {vs : List (NestedKey × Addr × V)} {ds : List (D × D)} : DtK2 P w K F vs ds → DtK2 P w K F' vs ds
  | .nil => .nil
  | .cons a b h h' t => .cons a b (Dt.mono s h) (Dt.mono s h') (DtK2.mono s t)
end
theorem DtAll.length {vs : List V} {ds : List D} : DtAll P w K F vs ds → vs.length = ds.length
  | .nil => rfl
  | .cons _ t => by simp [DtAll.length t]
theorem DtAll.append {vs us : List V} {ds es : List D} : DtAll P w K F vs ds → DtAll P w K F us es → DtAll P w K F (vs ++ us) (ds ++ es)
  | .nil, q => q
  | .cons h t, q => .cons h (DtAll.append t q)
theorem DtAll.get {vs : List V} {ds : List D} : DtAll P w K F vs ds → ∀ (i : Nat), (∃ v d, vs[i]? = some v ∧ ds[i]? = some d ∧ Dt P w K F v d) ∨ (vs[i]? = none ∧ ds[i]? = none)
  | .nil, i => .inr ⟨by simp, by simp⟩
  | .cons h t, 0 => .inl ⟨_, _, rfl, rfl, h⟩
  | .cons h t, i + 1 => by simpa using DtAll.get t i
theorem DtAll.at {vs : List V} {ds : List D} (h : DtAll P w K F vs ds) {i : Nat} {v : V} (e : vs[i]? = some v) : ∃ d, ds[i]? = some d ∧ Dt P w K F v d := by
  rcases h.get i with ⟨v', d, e1, e2, q⟩ | ⟨e1, _⟩
  · rw [e] at e1; cases e1; exact ⟨d, e2, q⟩
  · rw [e] at e1; cases e1
theorem DtAll.atD {vs : List V} {ds : List D} (h : DtAll P w K F vs ds) {i : Nat} {d : D} (e : ds[i]? = some d) : ∃ v, vs[i]? = some v ∧ Dt P w K F v d := by
  rcases h.get i with ⟨v', d', e1, e2, q⟩ | ⟨_, e2⟩
  · rw [e] at e2; cases e2; exact ⟨v', e1, q⟩
  · rw [e] at e2; cases e2
mutual
/-- no dict within: the layer's own reading -/
theorem Dt.dp (s : Sub F H) {v : V} : ∀ {d : D}, Dt P w K F v d → d.canLay0 = true → Dp K H v d
  | _, .non, _ => .non
  | _, .bl b, _ => .bl b
  | _, .int i, _ => .int i
  | _, .str x, _ => .str x
  | _, .lst h z a, c => .lst (SqL.mono s h) (DtAll.dp s a (by simpa [PyData.canLay0] using c))
  | _, .tup h z a, c => .tup (SqT.mono s h.1) (DtAll.dp s a (by simpa [PyData.canLay0] using c))
  | _, .dc1 h z k a, c => by simp [PyData.canLay0] at c
  | _, .dc2 h z k a, c => by simp [PyData.canLay0] at c
theorem DtAll.dp (s : Sub F H) {vs : List V} : ∀ {ds : List D}, DtAll P w K F vs ds → PyData.canLayAll0 ds = true → DpAll K H vs ds
  | _, .nil, _ => .nil
  | _, .cons h t, c => by
    simp only [PyData.canLayAll0, Bool.and_eq_true] at c
    exact .cons (Dt.dp s h c.1) (DtAll.dp s t c.2)
end
end
end SH
namespace SH
open PySem PySem.Spec PyProof.Rows L2
section
variable (P : Program) (w : World) (K : PySem.W.Frag)
/-- what stands at a, unshared -/
def Own (F H : Hp) (a : Addr) : D → Prop
  | .list ds => ∃ xs, H a = some (.lst xs) ∧ xs.length ≤ sizeLine ∧ DtAll P w K F xs ds
  | .dict kvs => ∃ o, H a = some (RawO a o) ∧ (a == sysModules) = false ∧
      ((∃ ks, DK1 P w o ks ∧ DtK1 P w K F ks kvs) ∨ ∃ x xs, DK2 P w o (x :: xs) ∧ DtK2 P w K F (x :: xs) kvs)
  | _ => False
/-- a value read: frozen, or unshared at its top -/
def Vw (F H : Hp) (v : V) (d : D) : Prop := Dt P w K F v d ∨ ∃ a, v = .ref a ∧ F a = none ∧ Own P w K F H a d
def CellOk (F H : Hp) : Cell → V → Prop
  | .fz d, v => Dt P w K F v d
  | .ow d, v => ∃ a, v = .ref a ∧ F a = none ∧ Own P w K F H a d
/-- names' values, for an expression -/
structure RelE [Tb] (env : En) (σ : L2.St) (H F : Hp) : Prop where
  s : Sub F H
  len : env.length = σ.length
  cell : ∀ (i : Nat) (c : Cell), env[i]? = some (some c) → ∃ v, σ[i]? = some (some v) ∧ CellOk P w K F H c v
  t : TabF F H
/-- .. for a statement: since the entry H0, F0 -/
structure Rel [Tb] (H0 F0 : Hp) (env : En) (σ : L2.St) (H F : Hp) : Prop where
  e : RelE P w K env σ H F
  x : Ext H0 F0 H F
  own : ∀ (i : Nat) (d : D) (a : Addr), env[i]? = some (some (.ow d)) → σ[i]? = some (some (.ref a)) → H0 a = none
  dis : ∀ (i j : Nat) (d d' : D) (a : Addr), i ≠ j → env[i]? = some (some (.ow d)) → env[j]? = some (some (.ow d')) → σ[i]? = some (some (.ref a)) → σ[j]? = some (some (.ref a)) → False
end
section
variable [Tb]
variable {P : Program} {w : World} {K : PySem.W.Frag} {F F' H H' H0 F0 : Hp} {env : En} {σ : L2.St}
theorem Own.ext {a : Addr} {d : D} (x : Ext H F H' F') (h : Own P w K F H a d) : Own P w K F' H' a d := by
  cases d with
  | list ds => obtain ⟨xs, e, z, q⟩ := h; exact ⟨xs, x.h.get e (fun _ h => nomatch h), z, q.mono x.f⟩
  | dict kvs =>
    obtain ⟨o, e, z, q⟩ := h
    refine ⟨o, x.h.get e (fun _ h => by unfold RawO at h; cases h), z, ?_⟩
    rcases q with ⟨ks, q1, q2⟩ | ⟨y, xs, q1, q2⟩
    · exact .inl ⟨ks, q1, q2.mono x.f⟩
    · exact .inr ⟨y, xs, q1, q2.mono x.f⟩
  | _ => exact h.elim
theorem Own.some {a : Addr} {d : D} (h : Own P w K F H a d) : ∃ o, H a = some o := by
  cases d with
  | list ds => obtain ⟨xs, e, _⟩ := h; exact ⟨_, e⟩
  | dict kvs => obtain ⟨o, e, _⟩ := h; exact ⟨_, e⟩
  | _ => exact h.elim
theorem Own.free {a : Addr} {d : D} (x : Ext H F H' F') (h : Own P w K F H a d) (n : F a = none) : F' a = none := by
  cases e : F' a with
  | none => rfl
  | some o =>
    rcases x.n a (by rw [e]; exact Option.some_ne_none o) with q | q
    · exact absurd n q
    · obtain ⟨u, z⟩ := h.some
      rw [z] at q; cases q
theorem CellOk.ext {c : Cell} {v : V} (x : Ext H F H' F') (h : CellOk P w K F H c v) : CellOk P w K F' H' c v := by
  cases c with
  | fz d => exact Dt.mono x.f h
  | ow d => obtain ⟨a, e, n, q⟩ := h; exact ⟨a, e, q.free x n, q.ext x⟩
theorem Vw.ext {v : V} {d : D} (x : Ext H F H' F') (h : Vw P w K F H v d) : Vw P w K F' H' v d := by
  rcases h with h | ⟨a, e, n, q⟩
  · exact .inl (h.mono x.f)
  · exact .inr ⟨a, e, q.free x n, q.ext x⟩
theorem RelE.ext (r : RelE P w K env σ H F) (x : Ext H F H' F') : RelE P w K env σ H' F' :=
  ⟨x.s, r.len, fun i c e => let ⟨v, e1, q⟩ := r.cell i c e; ⟨v, e1, q.ext x⟩, r.t.ext x⟩
theorem Rel.ext (r : Rel P w K H0 F0 env σ H F) (x : Ext H F H' F') : Rel P w K H0 F0 env σ H' F' := ⟨r.e.ext x, r.x.trans x, r.own, r.dis⟩
/-- a thing of one's own, frozen -/
theorem Own.dt {a : Addr} {d : D} {o : HO} (h : Own P w K F H a d) (s : Sub F F') (e : F' a = H a) : Dt P w K F' (.ref a) d := by
  cases d with
  | list ds => obtain ⟨xs, q, z, t⟩ := h; exact .lst (.inl (.inl (e.trans q))) z (t.mono s)
  | dict kvs =>
    obtain ⟨o, q, z, t⟩ := h
    rcases t with ⟨ks, t1, t2⟩ | ⟨y, xs, t1, t2⟩
    · exact .dc1 (e.trans q) z t1 (t2.mono s)
    · exact .dc2 (e.trans q) z t1 (t2.mono s)
  | _ => exact h.elim
theorem Vw.list {v : V} {ds : List D} (s : Sub F H) (h : Vw P w K F H v (.list ds)) : ∃ a xs, v = .ref a ∧ SqL K H a xs ∧ xs.length ≤ sizeLine ∧ DtAll P w K F xs ds := by
  rcases h with h | ⟨a, e, n, xs, q, z, t⟩
  · cases h with
    | lst h z a => exact ⟨_, _, rfl, SqL.mono s h, z, a⟩
  · exact ⟨a, xs, e, SqL.of q, z, t⟩
theorem Vw.tup {v : V} {ds : List D} (s : Sub F H) (h : Vw P w K F H v (.tuple ds)) : ∃ a xs, v = .ref a ∧ SqT K H a xs ∧ xs.length ≤ sizeLine ∧ DtAll P w K F xs ds := by
  rcases h with h | ⟨a, e, n, q⟩
  · cases h with
    | tup h z a => exact ⟨_, _, rfl, SqT.mono s h.1, z, a⟩
  · exact q.elim
theorem Vw.pn {v : V} {ds : List D} (h : Vw P w K F H v (.tuple ds)) : ∃ a, v = .ref a ∧ Pn K F a := by
  rcases h with h | ⟨a, e, n, q⟩
  · cases h with
    | tup h z a => exact ⟨_, rfl, h.2⟩
  · exact q.elim
theorem Vw.dict {v : V} {kvs : List (D × D)} (s : Sub F H) (h : Vw P w K F H v (.dict kvs)) : ∃ a o, v = .ref a ∧ H a = some (RawO a o) ∧ (a == sysModules) = false ∧
    ((∃ ks, DK1 P w o ks ∧ DtK1 P w K F ks kvs) ∨ ∃ x xs, DK2 P w o (x :: xs) ∧ DtK2 P w K F (x :: xs) kvs) := by
  rcases h with h | ⟨a, e, n, o, q, z, t⟩
  · cases h with
    | dc1 h z k a => exact ⟨_, _, rfl, s _ _ h, z, .inl ⟨_, k, a⟩⟩
    | dc2 h z k a => exact ⟨_, _, rfl, s _ _ h, z, .inr ⟨_, _, k, a⟩⟩
  · exact ⟨a, o, e, q, z, t⟩
theorem Vw.flat {v : V} {d : D} (h : Vw P w K F H v d) (f : isFlat d = true) : Dt P w K F v d := by
  rcases h with h | ⟨a, e, n, q⟩
  · exact h
  · cases d <;> first | exact q.elim | exact absurd (show false = true from f) (by decide)
theorem Vw.dp {v : V} {d : D} (s : Sub F H) (h : Vw P w K F H v d) (c : d.canLay0 = true) : Dp K H v d := by
  rcases h with h | ⟨a, e, n, q⟩
  · exact h.dp s c
  · cases d with
    | list ds =>
      obtain ⟨xs, q, z, t⟩ := q
      subst e
      exact .lst (SqL.of q) (t.dp s (by simpa [PyData.canLay0] using c))
    | dict kvs => simp [PyData.canLay0] at c
    | _ => exact q.elim
end
variable [Tb]
/-! ### what is wanted of a run's end -/
def Wants {A : Type} (r : R A) (W : WX) (cl : Nat → Value) (σ : L2.St) (H : Hp) (k : A → Prop) : Prop :=
  match r with
  | .ok a => k a
  | .exc c => ∀ H', Grows H H' → W (cl c) none σ H'
  | .bad => False
section
variable {A B : Type} {W : WX} {cl : Nat → Value} {σ : L2.St} {H H' : Hp}
theorem Wants.bind {r : R A} {f : A → R B} {k : B → Prop} (h : Wants (r.bind f) W cl σ H k) : Wants r W cl σ H fun a => Wants (f a) W cl σ H k := by
  cases r <;> exact h
theorem Wants.imp {r : R A} {k k' : A → Prop} (h : Wants r W cl σ H k) (q : ∀ a, r = .ok a → k a → k' a) : Wants r W cl σ H k' := by
  cases r with
  | ok a => exact q a rfl h
  | exc c => exact h
  | bad => exact h
theorem Wants.sub {r : R A} {k : A → Prop} (h : Wants r W cl σ H k) (s : Grows H H') : Wants r W cl σ H' k := by
  cases r with
  | ok a => exact h
  | exc c => exact fun H2 s2 => h H2 (s.trans s2)
  | bad => exact h
theorem Wants.of {o : Option A} {k : A → Prop} (h : Wants (R.of o) W cl σ H k) : ∃ a, o = some a ∧ k a := by
  cases o with
  | none => exact h.elim
  | some a => exact ⟨a, rfl, h⟩
theorem Wants.calm {r : R A} {k : A → Prop} (h : Wants r.calm W cl σ H k) : ∃ a, r = .ok a ∧ k a := by
  cases r with
  | ok a => exact ⟨a, rfl, h⟩
  | exc c => exact h.elim
  | bad => exact h.elim
end
/-- what an evaluator's run hangs on -/
structure Cn where
  P : Program
  w : World
  K : PySem.W.Frag
  C : Nat → List D → R D
  G : List D
  cl : Nat → Value
section
variable (c : Cn) (W : WX)
abbrev Cn.Dt (c : Cn) := SH.Dt c.P c.w c.K
abbrev Cn.DtAll (c : Cn) := SH.DtAll c.P c.w c.K
abbrev Cn.Own (c : Cn) := SH.Own c.P c.w c.K
abbrev Cn.Vw (c : Cn) := SH.Vw c.P c.w c.K
abbrev Cn.RelE (c : Cn) := SH.RelE c.P c.w c.K
abbrev Cn.Rel (c : Cn) := SH.Rel c.P c.w c.K
/-- what comes: H, F', H', the value, the data -/
abbrev Res := Hp → Hp → Hp → V → D → Prop
def rE : Res := fun _ F' _ v d => c.Dt F' v d
def rV : Res := fun _ F' H' v d => c.Vw F' H' v d
def rO : Res := fun H F' H' v d => ∃ a, v = .ref a ∧ H a = none ∧ F' a = none ∧ c.Own F' H' a d
def tX (res : Res) (m : E) : TE := fun σ H Q => ∃ env F, c.RelE env σ H F ∧ Wants (evE c.C c.G m env) W c.cl σ H fun d => ∀ v H' F', Ext H F H' F' → res H F' H' v d → Q v H'
abbrev tE (m : E) : TE := tX c W (rE c) m
abbrev tV (m : E) : TE := tX c W (rV c) m
abbrev tO (m : E) : TE := tX c W (rO c) m
/-- a test -/
def tT (m : E) : TT := fun σ H Q => ∃ env F, c.RelE env σ H F ∧ Wants ((evE c.C c.G m env).bind fun d => R.of (boolD d)) W c.cl σ H fun b => ∀ H' F', Ext H F H' F' → Q b H'
def tAs (es : Es) : TA := fun σ H Q => ∃ env F, c.RelE env σ H F ∧ Wants (evEs c.C c.G es env) W c.cl σ H fun ds => ∀ vs H' F', Ext H F H' F' → c.DtAll F' vs ds → Q vs H'
/-- views of arguments -/
def VwAll (F H : Hp) : List V → List D → Prop
  | [], [] => True
  | v :: vs, d :: ds => c.Vw F H v d ∧ VwAll F H vs ds
  | _, _ => False
def tVs (es : Es) : TA := fun σ H Q => ∃ env F, c.RelE env σ H F ∧ Wants (evEs c.C c.G es env) W c.cl σ H fun ds => ∀ vs H' F', Ext H F H' F' → VwAll c F' H' vs ds → Q vs H'
end
theorem _root_.L2.PE.mono {X : Cx} {e : Expr} {t t' : TE} (h : PE X e t) (q : ∀ σ H Q, t' σ H Q → t σ H Q) : PE X e t' := ⟨fun pins s σ H Q I hw => h.run pins s σ H Q I (q σ H Q hw)⟩
theorem _root_.L2.PT.mono {X : Cx} {e : Expr} {t t' : TT} (h : PT X e t) (q : ∀ σ H Q, t' σ H Q → t σ H Q) : PT X e t' := ⟨fun pins s σ H Q I hw => h.run pins s σ H Q I (q σ H Q hw)⟩
theorem _root_.L2.PA.mono {X : Cx} {e : List Expr} {t t' : TA} (h : PA X e t) (q : ∀ σ H Q, t' σ H Q → t σ H Q) : PA X e t' := ⟨fun pos pins s σ H Q I hw => h.run pos pins s σ H Q I (q σ H Q hw)⟩
theorem _root_.L2.PS.mono {X : Cx} {e : Stmt} {t t' : TS} (h : PS X e t) (q : ∀ D σ H, t' D σ H → t D σ H) : PS X e t' := ⟨fun pins s σ H D I hw => h.run pins s σ H D I (q D σ H hw)⟩
theorem _root_.L2.PSs.mono {X : Cx} {e : List Stmt} {t t' : TS} (h : PSs X e t) (q : ∀ D σ H, t' D σ H → t D σ H) : PSs X e t' := ⟨fun pins s σ H D I hw => h.run pins s σ H D I (q D σ H hw)⟩
section
variable {c : Cn} {W : WX} {X : Cx} {e : Expr} {m : E}
theorem rE_V {H F' H' : Hp} {v : V} {d : D} (h : rE c H F' H' v d) : rV c H F' H' v d := .inl h
/-- a frozen one is one that may be read -/
theorem _root_.L2.PE.toV (h : PE X e (tE c W m)) : PE X e (tV c W m) := h.mono fun σ H Q ⟨env, F, r, q⟩ => ⟨env, F, r, q.imp fun d _ k v H' F' x y => k v H' F' x (rE_V y)⟩
/-- one's own may be frozen -/
theorem _root_.L2.PE.ofO (h : PE X e (tO c W m)) : PE X e (tE c W m) := h.mono fun σ H Q ⟨env, F, r, q⟩ => ⟨env, F, r, q.imp fun d _ k v H' F' x y => by
  obtain ⟨a, e1, n, f, o⟩ := y
  obtain ⟨u, hu⟩ := Own.some o
  refine k v H' _ (x.fz n hu) ?_
  subst e1
  exact Own.dt (o := u) o (Sub.self f) (by rw [upd_same, hu])⟩
/-- a run with a part ahead -/
theorem tX.go {res : Res} {res' : Res} {m m' : E} {σ : L2.St} {H : Hp} {Q : VK} {env : En} {F : Hp} (r : c.RelE env σ H F) {f : D → R D} {k : D → Prop}
    (h : Wants ((evE c.C c.G m env).bind f) W c.cl σ H k) (q : ∀ d v H' F', Ext H F H' F' → res H F' H' v d → c.RelE env σ H' F' → Wants (f d) W c.cl σ H' k → Q v H') : tX c W res m σ H Q :=
  ⟨env, F, r, h.bind.imp fun d _ z v H' F' x y => q d v H' F' x y (r.ext x) (z.sub x.h)⟩
end
end SH

set_option Elab.async false
set_option linter.all false
set_option maxRecDepth 100000
set_option maxHeartbeats 4000000
/-! Expressions, one construct at a time: the evaluator's word is kept by the layer's reading. -/
namespace SH
open PySem PySem.Spec PyProof.Rows L2
variable [Tb]
section
variable {c : Cn} {W : WX} {X : Cx} {pos : Pos}

/-! ### constants, names -/
theorem sx_int {i : Int} {j : Nat} : PE X (.Constant (.int i) j pos) (tE c W (.lit (.int i))) :=
  pe_int.mono fun σ H Q ⟨env, F, r, h⟩ => h _ _ _ (Ext.refl r.s) (.int i)
theorem sx_bl {b : Bool} {j : Nat} : PE X (.Constant (.bool b) j pos) (tE c W (.lit (.bool b))) :=
  pe_bl.mono fun σ H Q ⟨env, F, r, h⟩ => h _ _ _ (Ext.refl r.s) (.bl b)
theorem sx_non {j : Nat} : PE X (.Constant .none j pos) (tE c W (.lit .none)) :=
  pe_non.mono fun σ H Q ⟨env, F, r, h⟩ => h _ _ _ (Ext.refl r.s) .non
theorem sx_str {x : Str} {j : Nat} : PE X (.Constant (.str x) j pos) (tE c W (.lit (.str x))) :=
  pe_str.mono fun σ H Q ⟨env, F, r, h⟩ => h _ _ _ (Ext.refl r.s) (.str x)
/-- a module's constant -/
theorem sx_gc {i : Nat} {x : Str} {d : D} {v : V} {u : Value} (hG : c.G[i]? = some d) (hv : ∀ F, c.Dt F v d) (hg : Gl X x) (hm : X.mg x = some u) (r : RelV v u) (hd : (x == ("__debug__" : Str)) = false) :
    PE X (.Name x pos) (tE c W (.gc i)) :=
  (pe_glob hg hm r hd).mono fun σ H Q ⟨env, F, r, h⟩ => by
    simp only [evE, hG, R.of_some] at h
    exact h _ _ _ (Ext.refl r.s) (hv _)
theorem cellFz_some {o : Option (Option Cell)} {d : D} (h : cellFz o = some d) : o = some (some (.fz d)) := by
  match o, h with
  | some (some (.fz _)), rfl => rfl
theorem cellOw_some {o : Option (Option Cell)} {d : D} (h : cellOw o = some d) : o = some (some (.ow d)) := by
  match o, h with
  | some (some (.ow _)), rfl => rfl
theorem cellAny_some {o : Option (Option Cell)} {d : D} (h : cellAny o = some d) : o = some (some (.fz d)) ∨ o = some (some (.ow d)) := by
  match o, h with
  | some (some (.fz _)), rfl => exact .inl rfl
  | some (some (.ow _)), rfl => exact .inr rfl
theorem sx_var {i : Nat} {x : Str} (hN : X.N[i]? = some x) (hv : Vis X.env.scope x) (hd : (x == ("__debug__" : Str)) = false) (hcd : (x == ("__classdict__" : Str)) = false) : PE X (.Name x pos) (tE c W (.var i)) :=
  (pe_var hN hv hd hcd).mono fun σ H Q ⟨env, F, r, h⟩ => by
    obtain ⟨d, e, k⟩ := h.of
    obtain ⟨v, e1, q⟩ := r.cell i _ (cellFz_some e)
    exact ⟨v, e1, k _ _ _ (Ext.refl r.s) q⟩
theorem sx_bor {i : Nat} {x : Str} (hN : X.N[i]? = some x) (hv : Vis X.env.scope x) (hd : (x == ("__debug__" : Str)) = false) (hcd : (x == ("__classdict__" : Str)) = false) : PE X (.Name x pos) (tV c W (.bor i)) :=
  (pe_var hN hv hd hcd).mono fun σ H Q ⟨env, F, r, h⟩ => by
    obtain ⟨d, e, k⟩ := h.of
    rcases cellAny_some e with e | e
    · obtain ⟨v, e1, q⟩ := r.cell i _ e
      exact ⟨v, e1, k _ _ _ (Ext.refl r.s) (.inl q)⟩
    · obtain ⟨v, e1, q⟩ := r.cell i _ e
      exact ⟨v, e1, k _ _ _ (Ext.refl r.s) (.inr q)⟩

/-! ### lists of expressions -/
theorem sa_nil : PA X [] (tAs c W .nil) := pa_nil.mono fun σ H Q ⟨env, F, r, h⟩ => h [] H F (Ext.refl r.s) .nil
theorem sa_cons {e : Expr} {es : List Expr} {m : E} {ms : Es} (he : PE X e (tE c W m)) (hes : PA X es (tAs c W ms)) (hs : starEach (e :: es) X.env = (false, eval e X.env) :: starEach es X.env) : PA X (e :: es) (tAs c W (.cons m ms)) :=
  (pa_cons he hes hs).mono fun σ H Q ⟨env, F, r, h⟩ => by
    refine ⟨env, F, r, h.bind.imp fun d _ h1 v H1 F1 x1 y1 => ⟨env, F1, r.ext x1, (h1.sub x1.h).bind.imp fun ds _ h2 vs H2 F2 x2 y2 => ?_⟩⟩
    exact h2 _ H2 F2 (x1.trans x2) (.cons (Dt.mono x2.f y1) y2)
theorem sv_nil : PA X [] (tVs c W .nil) := pa_nil.mono fun σ H Q ⟨env, F, r, h⟩ => h [] H F (Ext.refl r.s) trivial
theorem sv_cons {e : Expr} {es : List Expr} {m : E} {ms : Es} (he : PE X e (tV c W m)) (hes : PA X es (tVs c W ms)) (hs : starEach (e :: es) X.env = (false, eval e X.env) :: starEach es X.env) : PA X (e :: es) (tVs c W (.cons m ms)) :=
  (pa_cons he hes hs).mono fun σ H Q ⟨env, F, r, h⟩ => by
    refine ⟨env, F, r, h.bind.imp fun d _ h1 v H1 F1 x1 y1 => ⟨env, F1, r.ext x1, (h1.sub x1.h).bind.imp fun ds _ h2 vs H2 F2 x2 y2 => ?_⟩⟩
    exact h2 _ H2 F2 (x1.trans x2) ⟨Vw.ext x2 y1, y2⟩
def Es.length : Es → Nat
  | .nil => 0
  | .cons _ r => r.length + 1
theorem evEs_length {C : Nat → List D → R D} {G : List D} {env : En} : ∀ {es : Es} {ds : List D}, evEs C G es env = .ok ds → ds.length = es.length
  | .nil, ds, h => by simp only [evEs, R.ok.injEq] at h; subst h; rfl
  | .cons e r, ds, h => by
    simp only [evEs] at h
    cases q : evE C G e env with
    | ok d =>
      cases q2 : evEs C G r env with
      | ok ds' =>
        rw [q, q2] at h
        simp only [R.bind_ok, R.ok.injEq] at h
        subst h
        simp [Es.length, evEs_length q2]
      | exc k => rw [q, q2] at h; cases h
      | bad => rw [q, q2] at h; cases h
    | exc k => rw [q] at h; cases h
    | bad => rw [q] at h; cases h
theorem sx_tup {es : List Expr} {ms : Es} {x1 : Nat} (h : PA X es (tAs c W ms)) (hl : ms.length ≤ 10000) : PE X (.Tuple es x1 pos) (tE c W (.tup ms)) := by
  refine ⟨fun pins s σ H Q I hq => ?_⟩
  obtain ⟨env, F, r, q⟩ := hq
  refine wpAny_Tuple_spliced (thn (h.run pos pins s σ H (fun vs H' => vs.length ≤ sizeLine ∧ ∀ p its, H' p = none → Q (.ref p) (upd H' p (TupO its vs))) I ⟨env, F, r, q.bind.imp fun ds e k vs H' F' x y => ?_⟩) fun us s1 ⟨xs, H1, I1, r, z, q⟩ => ⟨by rw [← r.length]; exact z, ?_⟩)
  · have hz : vs.length ≤ sizeLine := by rw [sizeLine_eq, y.length, evEs_length e]; omega
    exact ⟨hz, fun p its hp => k _ _ _ (x.trans (Ext.new x.s hp)) (.tup (SqP.new upd_same) hz (y.mono (Sub.self (x.s.no hp))))⟩
  · obtain ⟨p, hp, rfl, I2⟩ := I1.tnew (h' := s1.heap) (t' := s1.toks) (fun _ _ e => e) z r
    exact ⟨.ref _, _, I2, rfl, q _ _ hp⟩
theorem sx_lst {es : List Expr} {ms : Es} (h : PA X es (tAs c W ms)) (hl : ms.length ≤ 10000) : PE X (.List es pos) (tO c W (.lst ms)) :=
  (pe_lst h).mono fun σ H Q ⟨env, F, r, q⟩ => by
    refine ⟨env, F, r, q.bind.imp fun ds e k vs H' F' x y => ?_⟩
    have hz : vs.length ≤ sizeLine := by rw [sizeLine_eq, y.length, evEs_length e]; omega
    refine ⟨hz, fun p hp => k _ _ _ (x.trans (Ext.newO x.s hp)) ⟨p, rfl, x.h.no hp, x.s.no hp, vs, upd_same, hz, y⟩⟩

/-! ### operators -/
/-- two values in, a frozen one out -/
def r2 (c : Cn) (g : D → D → Option D) : R2 := fun x y H Q => ∃ F d e r, Sub F H ∧ c.Vw F H x d ∧ c.Vw F H y e ∧ g d e = some r ∧ ∀ v H' F', Ext H F H' F' → c.Dt F' v r → Q v H'
/-- two values in, a truth out -/
def r2b (c : Cn) (g : D → D → Option Bool) : R2 := fun x y H Q => ∃ F d e b, Sub F H ∧ c.Vw F H x d ∧ c.Vw F H y e ∧ g d e = some b ∧ Q (.bl b) H
theorem two {g : D → D → Option D} {a b : E} {σ : L2.St} {H : Hp} {Q : VK} {env : En} {F : Hp} (r : c.RelE env σ H F)
    (h : Wants ((evE c.C c.G a env).bind fun x => (evE c.C c.G b env).bind fun y => R.of (g x y)) W c.cl σ H fun d => ∀ v H' F', Ext H F H' F' → rE c H F' H' v d → Q v H') :
    tOp (r2 c g) (tV c W a) (tV c W b) σ H Q := by
  refine ⟨env, F, r, h.bind.imp fun d _ h1 v H1 F1 x1 y1 => ⟨env, F1, r.ext x1, (h1.sub x1.h).bind.imp fun e _ h2 u H2 F2 x2 y2 => ?_⟩⟩
  obtain ⟨z, ez, k⟩ := (h2.sub x2.h).of
  exact ⟨F2, d, e, z, x2.s, Vw.ext x2 y1, y2, ez, fun v H' F' x y => k v H' F' ((x1.trans x2).trans x) y⟩
theorem twoB {g : D → D → Option Bool} {a b : E} {σ : L2.St} {H : Hp} {Q : VK} {env : En} {F : Hp} (r : c.RelE env σ H F)
    (h : Wants ((evE c.C c.G a env).bind fun x => (evE c.C c.G b env).bind fun y => R.of (g x y)) W c.cl σ H fun b => ∀ H' F', Ext H F H' F' → Q (.bl b) H') :
    tOp (r2b c g) (tV c W a) (tV c W b) σ H Q := by
  refine ⟨env, F, r, h.bind.imp fun d _ h1 v H1 F1 x1 y1 => ⟨env, F1, r.ext x1, (h1.sub x1.h).bind.imp fun e _ h2 u H2 F2 x2 y2 => ?_⟩⟩
  obtain ⟨z, ez, k⟩ := (h2.sub x2.h).of
  exact ⟨F2, d, e, z, x2.s, Vw.ext x2 y1, y2, ez, k _ _ (x1.trans x2)⟩
theorem sx_op {o : Op2} {p : Operator} {l r : Expr} {a b : E} (ho : OpR X (binaryOp p) (r2 c (opD o))) (ha : PE X l (tV c W a)) (hb : PE X r (tV c W b)) : PE X (.BinOp l p r pos) (tE c W (.op o a b)) :=
  (pe_op ho ha hb).mono fun σ H Q ⟨env, F, r, q⟩ => two r q
theorem Wants.assoc {A B C' : Type} {r : R A} {f : A → R B} {g : B → R C'} : (r.bind f).bind g = r.bind fun a => (f a).bind g := by cases r <;> rfl
theorem sx_cmp {o : Cmp} {p : CmpOp} {l r : Expr} {a b : E} (ho : OpR X (compareOp p) (r2b c (cmpD o))) (ha : PE X l (tV c W a)) (hb : PE X r (tV c W b)) (hm : behindInMarks p r = false) : PE X (.Compare l [p] [r] pos) (tE c W (.cmp o a b)) :=
  (pe_cmpR ho ha hb hm).mono fun σ H Q ⟨env, F, r, q⟩ => twoB r (by
    have e : (evE c.C c.G (.cmp o a b) env) = ((evE c.C c.G a env).bind fun x => (evE c.C c.G b env).bind fun y => R.of (cmpD o x y)).bind fun b => .ok (.bool b) := by
      rw [Wants.assoc]; simp only [Wants.assoc, evE]
    rw [e] at q
    exact q.bind.imp fun b _ k H' F' x => k _ _ _ x (.bl b))
theorem st_cmp {o : Cmp} {p : CmpOp} {l r : Expr} {a b : E} (ho : OpR X (compareOp p) (r2b c (cmpD o))) (ha : PE X l (tV c W a)) (hb : PE X r (tV c W b)) (hm : behindInMarks p r = false) : PT X (.Compare l [p] [r] pos) (tT c W (.cmp o a b)) :=
  (pt_cmpR ho ha hb hm).mono fun σ H Q ⟨env, F, r, q⟩ => twoB r (by
    have e : ((evE c.C c.G (.cmp o a b) env).bind fun d => R.of (boolD d)) = ((evE c.C c.G a env).bind fun x => (evE c.C c.G b env).bind fun y => R.of (cmpD o x y)).bind fun b => .ok b := by
      rw [Wants.assoc]; simp only [Wants.assoc, evE, R.bind_ok, boolD, R.of_some]
    rw [e] at q
    exact q.bind.imp fun b _ k H' F' x => ⟨b, rfl, k H' F' x⟩)

theorem sx_chain {o o' : Cmp} {p p' : CmpOp} {l r q : Expr} {a b d : E} (ho : OpR X (compareOp p) (r2b c (cmpD o))) (ho' : OpR X (compareOp p') (r2b c (cmpD o'))) (ha : PE X l (tV c W a)) (hb : PE X r (tV c W b)) (hd : PE X q (tV c W d))
    (hm : lastMarks [p, p'] [r, q] = false) : PE X (.Compare l [p, p'] [r, q] pos) (tE c W (.chain o o' a b d)) :=
  (pe_chain ho ho' ha hb hd hm).mono fun σ H Q ⟨env, F, r, h⟩ => by
    refine ⟨env, F, r, h.bind.imp fun x _ h1 v H1 F1 x1 y1 => ⟨env, F1, r.ext x1, (h1.sub x1.h).bind.imp fun y _ h2 u H2 F2 x2 y2 => ?_⟩⟩
    obtain ⟨k, ek, h3⟩ := (h2.sub x2.h).bind.of
    refine ⟨F2, x, y, k, x2.s, Vw.ext x2 y1, y2, ek, k, rfl, ?_⟩
    cases k with
    | false => exact h3 _ _ _ (x1.trans x2) (.bl false)
    | true =>
      rw [if_pos rfl] at h3 ⊢
      refine ⟨env, F2, (r.ext x1).ext x2, h3.bind.imp fun z _ h4 v3 H3 F3 x3 y3 => ?_⟩
      obtain ⟨b, eb, h5⟩ := (h4.sub x3.h).bind.of
      exact ⟨F3, y, z, b, x3.s, Vw.ext x3 y2, y3, eb, h5 _ _ _ ((x1.trans x2).trans x3) (.bl b)⟩
theorem st_chain {o o' : Cmp} {p p' : CmpOp} {l r q : Expr} {a b d : E} (ho : OpR X (compareOp p) (r2b c (cmpD o))) (ho' : OpR X (compareOp p') (r2b c (cmpD o'))) (ha : PE X l (tV c W a)) (hb : PE X r (tV c W b)) (hd : PE X q (tV c W d))
    (hm : lastMarks [p, p'] [r, q] = false) : PT X (.Compare l [p, p'] [r, q] pos) (tT c W (.chain o o' a b d)) :=
  (pt_chain ho ho' ha hb hd hm).mono fun σ H Q ⟨env, F, r, h⟩ => by
    simp only [evE, Wants.assoc] at h
    refine ⟨env, F, r, h.bind.imp fun x _ h1 v H1 F1 x1 y1 => ⟨env, F1, r.ext x1, (h1.sub x1.h).bind.imp fun y _ h2 u H2 F2 x2 y2 => ?_⟩⟩
    obtain ⟨k, ek, h3⟩ := (h2.sub x2.h).bind.of
    refine ⟨F2, x, y, k, x2.s, Vw.ext x2 y1, y2, ek, k, rfl, ?_⟩
    cases k with
    | false => exact ⟨false, rfl, h3 _ _ (x1.trans x2)⟩
    | true =>
      rw [if_pos rfl, Wants.assoc] at h3
      rw [if_pos rfl]
      refine ⟨env, F2, (r.ext x1).ext x2, h3.bind.imp fun z _ h4 v3 H3 F3 x3 y3 => ?_⟩
      rw [Wants.assoc] at h4
      obtain ⟨b, eb, h5⟩ := (h4.sub x3.h).bind.of
      exact ⟨F3, y, z, b, x3.s, Vw.ext x3 y2, y3, eb, b, rfl, h5 _ _ ((x1.trans x2).trans x3)⟩
theorem Dt.int_inv {P : Program} {w : World} {K : PySem.W.Frag} {F : Hp} {v : V} {i : Int} (h : Dt P w K F v (.int i)) : v = .int i := by cases h; rfl
theorem Dt.bl_inv {P : Program} {w : World} {K : PySem.W.Frag} {F : Hp} {v : V} {i : Bool} (h : Dt P w K F v (.bool i)) : v = .bl i := by cases h; rfl
theorem Dt.str_inv {P : Program} {w : World} {K : PySem.W.Frag} {F : Hp} {v : V} {i : Str} (h : Dt P w K F v (.str i)) : v = .str i := by cases h; rfl
theorem Dt.non_inv {P : Program} {w : World} {K : PySem.W.Frag} {F : Hp} {v : V} (h : Dt P w K F v .none) : v = .non := by cases h; rfl
theorem boolD_some {d : D} {b : Bool} (h : boolD d = some b) : d = .bool b := by
  cases d <;> simp [boolD] at h
  subst h; rfl
theorem sx_neg {l : Expr} {a : E} (ha : PE X l (tE c W a)) : PE X (.UnaryOp .USub l pos) (tE c W (.neg a)) :=
  (pe_un un_neg ha).mono fun σ H Q ⟨env, F, r, h⟩ => by
    refine ⟨env, F, r, h.bind.imp fun x _ h1 v H1 F1 x1 y1 => ?_⟩
    cases x with
    | int i => exact ⟨i, Dt.int_inv y1, h1 _ _ _ x1 (.int _)⟩
    | _ => exact h1.elim
theorem sx_not {l : Expr} {a : E} (ha : PE X l (tE c W a)) : PE X (.UnaryOp .Not l pos) (tE c W (.not a)) :=
  (pe_not ha).mono fun σ H Q ⟨env, F, r, h⟩ => by
    refine ⟨env, F, r, h.bind.imp fun x _ h1 v H1 F1 x1 y1 => ?_⟩
    obtain ⟨b, eb, h2⟩ := h1.bind.of
    cases boolD_some eb
    exact ⟨b, Dt.bl_inv y1, h2 _ _ _ x1 (.bl _)⟩
theorem st_not {l : Expr} {a : E} (ha : PT X l (tT c W a)) : PT X (.UnaryOp .Not l pos) (tT c W (.not a)) :=
  (pt_not ha).mono fun σ H Q ⟨env, F, r, h⟩ => by
    refine ⟨env, F, r, ?_⟩
    have e : ((evE c.C c.G (.not a) env).bind fun d => R.of (boolD d)) = ((evE c.C c.G a env).bind fun d => R.of (boolD d)).bind fun b => .ok (!b) := by
      simp only [evE, Wants.assoc, R.bind_ok, boolD, R.of_some]
    rw [e] at h
    exact h.bind.imp fun b _ k H' F' x => k H' F' x
/-- an expression that gives a truth, as a test -/
theorem st_val {l : Expr} {a : E} (ha : PE X l (tE c W a)) (he : ∀ whole, isTrue l X.env whole = (do let v ← whole; standAt l.pos; holding [v] (truthy v))) : PT X l (tT c W a) :=
  (pt_val ha he).mono fun σ H Q ⟨env, F, r, h⟩ => by
    refine ⟨env, F, r, h.bind.imp fun x _ h1 v H1 F1 x1 y1 => ?_⟩
    obtain ⟨b, eb, h2⟩ := h1.of
    cases boolD_some eb
    exact ⟨b, Dt.bl_inv y1, h2 _ _ x1⟩
theorem sx_and {l b : Expr} {rest : List Expr} {a m : E} (ha : PE X l (tE c W a)) (hb : PE X (.BoolOp .And (b :: rest) pos) (tE c W m)) : PE X (.BoolOp .And (l :: b :: rest) pos) (tE c W (.and a m)) :=
  (pe_and ha hb).mono fun σ H Q ⟨env, F, r, h⟩ => by
    refine ⟨env, F, r, h.bind.imp fun x _ h1 v H1 F1 x1 y1 => ?_⟩
    obtain ⟨k, eb, h2⟩ := h1.bind.of
    cases boolD_some eb
    refine ⟨k, Dt.bl_inv y1, ?_⟩
    cases k with
    | false => exact h2 _ _ _ x1 (.bl _)
    | true => exact ⟨env, F1, r.ext x1, (h2.sub x1.h).imp fun d _ k v H' F' x y => k v H' F' (x1.trans x) y⟩
theorem sx_or {l b : Expr} {rest : List Expr} {a m : E} (ha : PE X l (tE c W a)) (hb : PE X (.BoolOp .Or (b :: rest) pos) (tE c W m)) : PE X (.BoolOp .Or (l :: b :: rest) pos) (tE c W (.or a m)) :=
  (pe_or ha hb).mono fun σ H Q ⟨env, F, r, h⟩ => by
    refine ⟨env, F, r, h.bind.imp fun x _ h1 v H1 F1 x1 y1 => ?_⟩
    obtain ⟨k, eb, h2⟩ := h1.bind.of
    cases boolD_some eb
    refine ⟨k, Dt.bl_inv y1, ?_⟩
    cases k with
    | true => exact h2 _ _ _ x1 (.bl _)
    | false => exact ⟨env, F1, r.ext x1, (h2.sub x1.h).imp fun d _ k v H' F' x y => k v H' F' (x1.trans x) y⟩
theorem sw_and {l b : Expr} {rest : List Expr} {a m : E} (ha : PT X l (tT c W a)) (hb : PW X (.BoolOp .And (b :: rest) pos) (tT c W m)) : PW X (.BoolOp .And (l :: b :: rest) pos) (tT c W (.and a m)) := by
  refine ⟨fun wh pins s σ H Q I hw => (pw_and ha hb).run wh pins s σ H Q I ?_⟩
  obtain ⟨env, F, r, h⟩ := hw
  refine ⟨env, F, r, ?_⟩
  have e : ((evE c.C c.G (.and a m) env).bind fun d => R.of (boolD d)) = ((evE c.C c.G a env).bind fun d => R.of (boolD d)).bind fun k => (if k = true then evE c.C c.G m env else .ok (.bool false)).bind fun d => R.of (boolD d) := by
    simp only [evE, Wants.assoc]
  rw [e] at h
  refine h.bind.imp fun k _ h2 H1 F1 x1 => ?_
  cases k with
  | false => exact h2 _ _ x1
  | true => exact ⟨env, F1, r.ext x1, (h2.sub x1.h).imp fun d _ k H' F' x => k H' F' (x1.trans x)⟩
theorem sw_or {l b : Expr} {rest : List Expr} {a m : E} (ha : PT X l (tT c W a)) (hb : PW X (.BoolOp .Or (b :: rest) pos) (tT c W m)) : PW X (.BoolOp .Or (l :: b :: rest) pos) (tT c W (.or a m)) := by
  refine ⟨fun wh pins s σ H Q I hw => (pw_or ha hb).run wh pins s σ H Q I ?_⟩
  obtain ⟨env, F, r, h⟩ := hw
  refine ⟨env, F, r, ?_⟩
  have e : ((evE c.C c.G (.or a m) env).bind fun d => R.of (boolD d)) = ((evE c.C c.G a env).bind fun d => R.of (boolD d)).bind fun k => (if k = true then .ok (.bool true) else evE c.C c.G m env).bind fun d => R.of (boolD d) := by
    simp only [evE, Wants.assoc]
  rw [e] at h
  refine h.bind.imp fun k _ h2 H1 F1 x1 => ?_
  cases k with
  | true => exact h2 _ _ x1
  | false => exact ⟨env, F1, r.ext x1, (h2.sub x1.h).imp fun d _ k H' F' x => k H' F' (x1.trans x)⟩
theorem sx_ife {t l q : Expr} {k a b : E} (hk : PT X t (tT c W k)) (ha : PE X l (tE c W a)) (hb : PE X q (tE c W b)) : PE X (.IfExp t l q pos) (tE c W (.ife k a b)) :=
  (pe_ifExp hk ha hb).mono fun σ H Q ⟨env, F, r, h⟩ => by
    refine ⟨env, F, r, ?_⟩
    have e : evE c.C c.G (.ife k a b) env = ((evE c.C c.G k env).bind fun d => R.of (boolD d)).bind fun k => if k = true then evE c.C c.G a env else evE c.C c.G b env := by
      simp only [evE, Wants.assoc]
    rw [e] at h
    refine h.bind.imp fun k _ h2 H1 F1 x1 => ?_
    cases k with
    | true => exact ⟨env, F1, r.ext x1, (h2.sub x1.h).imp fun d _ k v H' F' x y => k v H' F' (x1.trans x) y⟩
    | false => exact ⟨env, F1, r.ext x1, (h2.sub x1.h).imp fun d _ k v H' F' x y => k v H' F' (x1.trans x) y⟩

/-! ### calls of the text's own defs -/
/-- a def's promise, by the evaluator -/
def spF (c : Cn) (i np : Nat) : Sp := fun vs H Q E => ∃ F ds, TabF F H ∧ Sub F H ∧ c.DtAll F vs ds ∧ ds.length = np ∧
  match c.C i ds with
  | .ok d => ∀ v H' F', Ext H F H' F' → c.Dt F' v d → Q v H'
  | .exc k => ∀ H', Grows H H' → E (c.cl k) none H'
  | .bad => False
theorem sx_call {x : Str} {p : Pos} {e : Expr} {es : List Expr} {ms : Es} {i np k : Nat} {f : Addr} {fd : FuncData} {ps : List Str} (F : FnOk X.prog X.w X.K X.mg X.base (L2.CX X.prog X.w) k f fd ps (spF c i np)) (hr : Room k X.A) (hg : Gl X x)
    (hm : X.mg x = some (.ref f)) (hk : PySem.W.keepIn X.K (.ref f) = true) (hb : Binds X.K fd ps []) (tk : Takes X W) (ha : PA X (e :: es) (tAs c W ms)) (hn : ms.length = np)
    (hdb : (x == ("__debug__" : Str)) = false) (he : starEach (e :: es) X.env = (false, eval e X.env) :: starEach es X.env) (hpl : (backTo pos (starEach es X.env)).any (·.1) = false) :
    PE X (.Call (.Name x p) (e :: es) [] pos) (tE c W (.call i ms)) :=
  (pe_callS (E := WE W) F hr hg hm hk hb (fun σ => passAt tk σ) ha hdb he hpl).mono fun σ H Q ⟨env, F, r, h⟩ => by
    refine ⟨env, F, r, h.bind.imp fun ds e h1 vs H1 F1 x1 y1 => ⟨F1, ds, r.t.ext x1, x1.s, y1, by rw [evEs_length e]; exact hn, ?_⟩⟩
    have h2 := h1.sub x1.h
    cases q : c.C i ds with
    | ok d => rw [q] at h2; exact fun v H' F' x y => h2 v H' F' (x1.trans x) y
    | exc k => rw [q] at h2; exact h2
    | bad => rw [q] at h2; exact h2
/-- a call of a built-in: views in, a frozen value out -/
def rB (c : Cn) (g : List D → Option D) : List V → Hp → VK → Prop := fun vs H Q => ∃ F ds r, Sub F H ∧ VwAll c F H vs ds ∧ g ds = some r ∧ ∀ v H' F', Ext H F H' F' → c.Dt F' v r → Q v H'
def rBO (c : Cn) (g : List D → Option D) : List V → Hp → VK → Prop := fun vs H Q => ∃ F ds r, Sub F H ∧ VwAll c F H vs ds ∧ g ds = some r ∧ ∀ v H' F', Ext H F H' F' → rO c H F' H' v r → Q v H'
theorem sx_bi {x : Str} {p : Pos} {id : String} {e : Expr} {es : List Expr} {ms : Es} {f : Bi} (hc : CallR X (.builtin id) (rB c (biD f))) (hg : Gl X x) (hm : X.mg x = none) (hv : bootBuiltins x = some (.builtin id)) (ha : PA X (e :: es) (tVs c W ms))
    (hn : x ≠ "__name__") (hdb : (x == ("__debug__" : Str)) = false) (he : starEach (e :: es) X.env = (false, eval e X.env) :: starEach es X.env) (hpl : (backTo pos (starEach es X.env)).any (·.1) = false) :
    PE X (.Call (.Name x p) (e :: es) [] pos) (tE c W (.bi f ms)) :=
  (pe_callB hc hg hm hv ha hn hdb he hpl).mono fun σ H Q ⟨env, F, r, h⟩ => by
    refine ⟨env, F, r, h.bind.imp fun ds e h1 vs H1 F1 x1 y1 => ?_⟩
    obtain ⟨z, ez, k⟩ := h1.of
    exact ⟨F1, ds, z, x1.s, y1, ez, fun v H' F' x y => k v H' F' (x1.trans x) y⟩
theorem sx_biT {x : Str} {p : Pos} {T : String} {e : Expr} {es : List Expr} {ms : Es} {f : Bi} (hc : CallR X (.type T) (rB c (biD f))) (hg : Gl X x) (hm : X.mg x = none) (hv : bootBuiltins x = some (.type T)) (ha : PA X (e :: es) (tVs c W ms))
    (hn : x ≠ "__name__") (hdb : (x == ("__debug__" : Str)) = false) (he : starEach (e :: es) X.env = (false, eval e X.env) :: starEach es X.env) (hpl : (backTo pos (starEach es X.env)).any (·.1) = false) :
    PE X (.Call (.Name x p) (e :: es) [] pos) (tE c W (.bi f ms)) :=
  (pe_callTy hc hg hm hv ha hn hdb he hpl).mono fun σ H Q ⟨env, F, r, h⟩ => by
    refine ⟨env, F, r, h.bind.imp fun ds e h1 vs H1 F1 x1 y1 => ?_⟩
    obtain ⟨z, ez, k⟩ := h1.of
    exact ⟨F1, ds, z, x1.s, y1, ez, fun v H' F' x y => k v H' F' (x1.trans x) y⟩
theorem rO.back {H H1 F' H' : Hp} {v : V} {d : D} (s : Grows H H1) (h : rO c H1 F' H' v d) : rO c H F' H' v d := by
  obtain ⟨a, e, n, f, o⟩ := h
  exact ⟨a, e, s.no n, f, o⟩
theorem sx_biO {x : Str} {p : Pos} {id : String} {e : Expr} {es : List Expr} {ms : Es} {f : Bi} (hc : CallR X (.builtin id) (rBO c (biD f))) (hg : Gl X x) (hm : X.mg x = none) (hv : bootBuiltins x = some (.builtin id)) (ha : PA X (e :: es) (tVs c W ms))
    (hn : x ≠ "__name__") (hdb : (x == ("__debug__" : Str)) = false) (he : starEach (e :: es) X.env = (false, eval e X.env) :: starEach es X.env) (hpl : (backTo pos (starEach es X.env)).any (·.1) = false) :
    PE X (.Call (.Name x p) (e :: es) [] pos) (tO c W (.bi f ms)) :=
  (pe_callB hc hg hm hv ha hn hdb he hpl).mono fun σ H Q ⟨env, F, r, h⟩ => by
    refine ⟨env, F, r, h.bind.imp fun ds e h1 vs H1 F1 x1 y1 => ?_⟩
    obtain ⟨z, ez, k⟩ := h1.of
    exact ⟨F1, ds, z, x1.s, y1, ez, fun v H' F' x y => k v H' F' (x1.trans x) (rO.back x1.h y)⟩
theorem sx_biTO {x : Str} {p : Pos} {T : String} {e : Expr} {es : List Expr} {ms : Es} {f : Bi} (hc : CallR X (.type T) (rBO c (biD f))) (hg : Gl X x) (hm : X.mg x = none) (hv : bootBuiltins x = some (.type T)) (ha : PA X (e :: es) (tVs c W ms))
    (hn : x ≠ "__name__") (hdb : (x == ("__debug__" : Str)) = false) (he : starEach (e :: es) X.env = (false, eval e X.env) :: starEach es X.env) (hpl : (backTo pos (starEach es X.env)).any (·.1) = false) :
    PE X (.Call (.Name x p) (e :: es) [] pos) (tO c W (.bi f ms)) :=
  (pe_callTy hc hg hm hv ha hn hdb he hpl).mono fun σ H Q ⟨env, F, r, h⟩ => by
    refine ⟨env, F, r, h.bind.imp fun ds e h1 vs H1 F1 x1 y1 => ?_⟩
    obtain ⟨z, ez, k⟩ := h1.of
    exact ⟨F1, ds, z, x1.s, y1, ez, fun v H' F' x y => k v H' F' (x1.trans x) (rO.back x1.h y)⟩
end
end SH

set_option Elab.async false
set_option linter.all false
set_option maxRecDepth 100000
set_option maxHeartbeats 4000000
/-! Operators by values: the evaluator's functions are what the model does. -/
namespace SH
open PySem PySem.Spec PyProof.Rows L2
variable [Tb]
structure Fits (c : Cn) (X : Cx) : Prop where
  p : c.P = X.prog
  w : c.w = X.w
  k : c.K = X.K
section
variable {c : Cn} {X : Cx}
theorem add_listsG {prog : Program} {w : World} {A : Around} {E : Value → Shared → Prop} {s : Shared} {l b : Addr} {vs ws : List Value} {Q : Value → Shared → Prop} (hl : s.heap.IsList l vs.toArray) (hb : s.heap.IsList b ws.toArray)
    (h : Q (.ref s.heap.objs.size) { s with heap := s.heap.push { cls := .type "list", data := .seq (vs ++ ws).toArray } }) (hsz : vs.length + ws.length ≤ sizeLine) : wpAny (model prog w) A (binaryOp .Add (.ref l) (.ref b)) Q E s := by
  obtain ⟨⟨c1, d1, data1, sl1⟩, ho, hc, n, hd⟩ := id hl
  obtain ⟨⟨c2, d2, data2, sl2⟩, ho2, hc2, n2, hd2⟩ := id hb
  simp only at hc hd hc2 hd2
  subst hc hd hc2 hd2
  have e : vs.toArray ++ ws.toArray = (vs ++ ws).toArray := by simp
  refine concat_meets ⟨_, ho, rfl⟩ ⟨_, ho2, rfl⟩ noFill_list_add seq_list_add PySem.F.slot_list_add PySem.F.entry_list_add (PySem.F.args_list_add_2 _ _)
    (list_addW l b vs.toArray ws.toArray n n2 d1 d2 sl1 sl2 (by simpa using hsz)) ⟨ho, ho2, ?_⟩
  rw [e]
  exact h
theorem lim_eq : lim = sizeLine := by rw [sizeLine_eq]; rfl
theorem ite_some {A : Type} {p : Bool} {x y : A} (h : (if p = true then some x else none) = some y) : p = true ∧ x = y := by
  cases p with
  | true => exact ⟨rfl, by simpa using h⟩
  | false => simp at h
theorem op_addR (f : Fits c X) : OpR X (binaryOp .Add) (r2 c (opD .add)) := by
  intro pins s σ H x y v u Q I rx ry h
  obtain ⟨F, d, e, z, sb, hx, hy, hz, q⟩ := h
  cases d with
  | int i =>
    cases e with
    | int j =>
      cases hz
      exact op_add pins s σ H x y v u Q I rx ry ⟨i, j, Dt.int_inv (hx.flat rfl), Dt.int_inv (hy.flat rfl), q _ _ _ (Ext.refl sb) (.int _)⟩
    | _ => simp [opD] at hz
  | str i =>
    cases e with
    | str j =>
      obtain ⟨h1, h2⟩ : i.length + j.length ≤ lim ∧ PyData.str (i ++ j) = z := by simpa [opD] using hz
      subst h2
      exact op_add_str pins s σ H x y v u Q I rx ry ⟨i, j, Dt.str_inv (hx.flat rfl), Dt.str_inv (hy.flat rfl), by rw [← lim_eq]; exact h1, q _ _ _ (Ext.refl sb) (.str _)⟩
    | _ => simp [opD] at hz
  | list i =>
    cases e with
    | list j =>
      obtain ⟨h1, h2⟩ : i.length + j.length ≤ lim ∧ PyData.list (i ++ j) = z := by simpa [opD] using hz
      subst h2
      obtain ⟨a, xs, rfl, sq, zz, da⟩ := hx.list sb
      obtain ⟨b, ys, rfl, sq2, zz2, db⟩ := hy.list sb
      cases rx
      cases ry
      obtain ⟨its, r1, p1, _⟩ := I.list (f.k ▸ sq)
      obtain ⟨its2, r2, p2, _⟩ := I.list (f.k ▸ sq2)
      have hl : (xs ++ ys).length ≤ sizeLine := by rw [List.length_append, da.length, db.length, ← lim_eq]; exact h1
      refine add_listsG p1.isList p2.isList ?_ (by rw [← r1.length, ← r2.length, ← List.length_append]; exact hl)
      exact ⟨.ref _, _, I.lnew (t' := s.toks) (r1.append r2) hl, rfl, q _ _ _ (Ext.new sb I.fresh) (.lst (.inl (.inl upd_same)) hl ((da.append db).mono (Sub.self (sb.no I.fresh))))⟩
    | _ => simp [opD] at hz
  | tuple i =>
    cases e with
    | tuple j =>
      obtain ⟨h1, h2⟩ : i.length + j.length ≤ lim ∧ PyData.tuple (i ++ j) = z := by simpa [opD] using hz
      subst h2
      obtain ⟨a, xs, rfl, sq, zz, da⟩ := hx.tup sb
      obtain ⟨b, ys, rfl, sq2, zz2, db⟩ := hy.tup sb
      have hl : xs.length + ys.length ≤ sizeLine := by rw [da.length, db.length, ← lim_eq]; exact h1
      cases rx
      cases ry
      obtain ⟨its, r1, p1, _⟩ := I.tuple (f.k ▸ sq)
      obtain ⟨its2, r2, p2, _⟩ := I.tuple (f.k ▸ sq2)
      by_cases hx0 : xs = []
      · subst hx0
        cases da
        cases r1
        exact cat_tup0 p1 p2 ⟨.ref b, H, I, rfl, q _ _ _ (Ext.refl sb) (hy.elim id fun ⟨_, _, _, o⟩ => o.elim)⟩
      · refine HT.cat_tup p1 p2 (fun z => hx0 (r1.nil_iff.mp z)) (fun z => ⟨.ref a, H, I, rfl, ?_⟩) (fun z => ?_) (by rw [← r1.length, ← r2.length]; exact hl)
        · cases r2.nil_iff.mp z
          cases db
          rw [List.append_nil] at q
          exact q _ _ _ (Ext.refl sb) (hx.elim id fun ⟨_, _, _, o⟩ => o.elim)
        · have hl2 : (xs ++ ys).length ≤ sizeLine := by rw [List.length_append]; exact hl
          obtain ⟨p, hp, rfl, I2⟩ := I.tnew (h' := s.heap) (t' := s.toks) (fun _ _ e => e) hl2 (r1.append r2)
          exact ⟨.ref _, _, I2, rfl, q _ _ _ (Ext.new sb hp) (.tup (SqP.new upd_same) hl2 ((da.append db).mono (Sub.self (sb.no hp))))⟩
    | _ => simp [opD] at hz
  | _ => cases e <;> simp [opD] at hz
theorem op_subR (f : Fits c X) : OpR X (binaryOp .Sub) (r2 c (opD .sub)) := by
  intro pins s σ H x y v u Q I rx ry h
  obtain ⟨F, d, e, z, sb, hx, hy, hz, q⟩ := h
  cases d with
  | int i =>
    cases e with
    | int j =>
      cases hz
      exact op_sub pins s σ H x y v u Q I rx ry ⟨i, j, Dt.int_inv (hx.flat rfl), Dt.int_inv (hy.flat rfl), q _ _ _ (Ext.refl sb) (.int _)⟩
    | _ => simp [opD] at hz
  | _ => cases e <;> simp [opD] at hz
theorem op_fdivR (f : Fits c X) : OpR X (binaryOp .FloorDiv) (r2 c (opD .fdiv)) := by
  intro pins s σ H x y v u Q I rx ry h
  obtain ⟨F, d, e, z, sb, hx, hy, hz, q⟩ := h
  cases d with
  | int i =>
    cases e with
    | int j =>
      obtain ⟨⟨h1, h3⟩, h2⟩ : (0 < j ∧ j < 18446744073709551616) ∧ PyData.int (i / j) = z := by simpa [opD] using hz
      subst h2
      exact op_fdivW pins s σ H x y v u Q I rx ry ⟨i, j, Dt.int_inv (hx.flat rfl), Dt.int_inv (hy.flat rfl), wide_div (b := 64) h1 (by omega) (by decide) (by decide), q _ _ _ (Ext.refl sb) (.int _)⟩
    | _ => simp [opD] at hz
  | _ => cases e <;> simp [opD] at hz
theorem op_modR (f : Fits c X) : OpR X (binaryOp .Mod) (r2 c (opD .mod)) := by
  intro pins s σ H x y v u Q I rx ry h
  obtain ⟨F, d, e, z, sb, hx, hy, hz, q⟩ := h
  cases d with
  | int i =>
    cases e with
    | int j =>
      obtain ⟨h1, h2⟩ : 0 < j ∧ PyData.int (i % j) = z := by simpa [opD] using hz
      subst h2
      exact op_mod pins s σ H x y v u Q I rx ry ⟨i, j, Dt.int_inv (hx.flat rfl), Dt.int_inv (hy.flat rfl), h1, q _ _ _ (Ext.refl sb) (.int _)⟩
    | _ => simp [opD] at hz
  | _ => cases e <;> simp [opD] at hz
theorem op_powR (f : Fits c X) : OpR X (binaryOp .Pow) (r2 c (opD .pow)) := by
  intro pins s σ H x y v u Q I rx ry h
  obtain ⟨F, d, e, z, sb, hx, hy, hz, q⟩ := h
  cases d with
  | int i =>
    cases e with
    | int j =>
      obtain ⟨⟨⟨h1, h3⟩, h4⟩, h2⟩ : ((0 ≤ j ∧ j ≤ 1000000) ∧ i.natAbs < 18446744073709551616) ∧ PyData.int (i ^ j.toNat) = z := by simpa [opD] using hz
      subst h2
      exact op_pow pins s σ H x y v u Q I rx ry ⟨i, j, Dt.int_inv (hx.flat rfl), Dt.int_inv (hy.flat rfl), ⟨h1, h3, by omega⟩, q _ _ _ (Ext.refl sb) (.int _)⟩
    | _ => simp [opD] at hz
  | _ => cases e <;> simp [opD] at hz
theorem DtAll.rep {P : Program} {w : World} {K : PySem.W.Frag} {F : Hp} {xs : List V} {ds : List D} (h : DtAll P w K F xs ds) : ∀ n : Nat, DtAll P w K F (List.replicate n xs).flatten (List.replicate n ds).flatten
  | 0 => .nil
  | n + 1 => by simp only [List.replicate_succ, List.flatten_cons]; exact h.append (DtAll.rep h n)
theorem op_mulR (f : Fits c X) : OpR X (binaryOp .Mult) (r2 c (opD .mul)) := by
  intro pins s σ H x y v u Q I rx ry h
  obtain ⟨F, d, e, z, sb, hx, hy, hz, q⟩ := h
  cases d with
  | int i =>
    cases e with
    | int j =>
      obtain ⟨h1, h2⟩ : (i.natAbs < 18446744073709551616 ∨ j.natAbs < 18446744073709551616) ∧ PyData.int (i * j) = z := by simpa [opD] using hz
      subst h2
      exact op_mul pins s σ H x y v u Q I rx ry ⟨i, j, Dt.int_inv (hx.flat rfl), Dt.int_inv (hy.flat rfl), h1.elim (fun z => .inl ⟨by omega, by omega⟩) (fun z => .inr ⟨by omega, by omega⟩), q _ _ _ (Ext.refl sb) (.int _)⟩
    | _ => simp [opD] at hz
  | _ => cases e <;> simp [opD] at hz
end
end SH

set_option Elab.async false
set_option linter.all false
set_option maxRecDepth 100000
set_option maxHeartbeats 4000000
/-! Comparisons; a dict asked. -/
namespace SH
open PySem PySem.Spec PyProof.Rows L2
variable [Tb]
mutual
theorem ltD_eq : ∀ (a b : D), W.alike a b = true → ltD a b = W.dataLt a b
  | .none, b, h => by cases b <;> simp [W.alike] at h; rfl
  | .bool a, b, h => by
    cases b <;> simp [W.alike] at h
    rw [W.dataLt_bool]
    rename_i b
    cases a <;> cases b <;> rfl
  | .int a, b, h => by
    cases b <;> simp [W.alike] at h
    rw [W.dataLt_int]; rfl
  | .str a, b, h => by
    cases b <;> simp [W.alike] at h
    rw [W.dataLt_str]; rfl
  | .list a, b, h => by
    cases b <;> simp [W.alike] at h
    rw [W.dataLt_list]; simp only [ltD]; exact ltAll_eq a _ h
  | .tuple a, b, h => by
    cases b <;> simp [W.alike] at h
    rw [W.dataLt_tuple]; simp only [ltD]; exact ltAll_eq a _ h
  | .dict a, b, h => by cases b <;> simp [W.alike] at h
theorem ltAll_eq : ∀ (a b : List D), W.alikeAll a b = true → ltAll a b = PyProof.Rows.lexLt itemOrd (W.keyToksAll a) (W.keyToksAll b)
  | [], [], h => by simp [ltAll, W.keyToksAll]; rfl
  | [], y :: ys, h => by simp [ltAll, W.keyToksAll]; rfl
  | x :: xs, [], h => by simp [ltAll, W.keyToksAll]; rfl
  | x :: xs, y :: ys, h => by
    obtain ⟨h1, h2⟩ := W.alike_all_cons h
    simp only [ltAll]
    cases e : PyData.eqv x y with
    | true => rw [if_pos rfl, W.dataLt_all_yes h1 e, ltAll_eq xs ys h2]
    | false => rw [if_neg (by decide), W.dataLt_all_no h1 e, ltD_eq x y h1]
end
section
variable {c : Cn} {X : Cx}
theorem okEq_lay {d : D} (h : okEq d = true) : d.canLay0 = true := SeqAt.canLay_of_shaped h
theorem okEq_depth {d : D} (h : okEq d = true) : d.depth ≤ 64 := SeqAt.depth_of_shaped h
theorem eqD_some {a b : D} {k : Bool} (h : eqD a b = some k) : okEq a = true ∧ okEq b = true ∧ PyData.eqv a b = k := by
  unfold eqD at h
  obtain ⟨h1, h2⟩ := ite_some h
  rw [Bool.and_eq_true] at h1
  exact ⟨h1.1, h1.2, h2⟩
theorem cltD_some {a b : D} {k : Bool} (h : cltD a b = some k) : W.alike a b = true ∧ a ≠ .none ∧ okEq a = true ∧ okEq b = true ∧ W.dataLt a b = k := by
  unfold cltD at h
  obtain ⟨h1, h2⟩ := ite_some h
  unfold okLt at h1
  simp only [Bool.and_eq_true] at h1
  obtain ⟨⟨⟨h3, h4⟩, h5⟩, h6⟩ := h1
  refine ⟨h3, ?_, h5, h6, by rw [← ltD_eq _ _ h3]; exact h2⟩
  rintro rfl
  cases h4
/-- two data read off the heap -/
theorem two_reads (f : Fits c X) {pins : List (Addr × Obj)} {s : Shared} {σ : L2.St} {H F : Hp} {x y : V} {v u : Value} {d e : D} (I : Inv X pins σ H s) (rx : RelV x v) (ry : RelV y u) (sb : Sub F H) (hx : c.Vw F H x d) (hy : c.Vw F H y e)
    (h1 : okEq d = true) (h2 : okEq e = true) : (∃ as, Reads s.heap v d as) ∧ ∃ bs, Reads s.heap u e bs :=
  ⟨Dp.reads I d x v (f.k ▸ hx.dp sb (okEq_lay h1)) rx, Dp.reads I e y u (f.k ▸ hy.dp sb (okEq_lay h2)) ry⟩
variable (f : Fits c X) (hu : X.A.units + 70 < cLine)
include f hu
theorem op_eqR : OpR X (compareOp .Eq) (r2b c (cmpD .eq)) := by
  intro pins s σ H x y v u Q I rx ry h
  obtain ⟨F, d, e, b, sb, hx, hy, hz, q⟩ := h
  obtain ⟨h1, h2, h3⟩ := eqD_some hz
  exact op_eqD (by omega) pins s σ H x y v u Q I rx ry ⟨d, e, f.k ▸ hx.dp sb (okEq_lay h1), f.k ▸ hy.dp sb (okEq_lay h2), h1, h2, by rw [h3]; exact q⟩
theorem op_neR : OpR X (compareOp .NotEq) (r2b c (cmpD .ne)) := by
  intro pins s σ H x y v u Q I rx ry h
  obtain ⟨F, d, e, b, sb, hx, hy, hz, q⟩ := h
  obtain ⟨k, hk, rfl⟩ := Option.map_eq_some_iff.mp hz
  obtain ⟨h1, h2, h3⟩ := eqD_some hk
  exact op_neD (by omega) pins s σ H x y v u Q I rx ry ⟨d, e, f.k ▸ hx.dp sb (okEq_lay h1), f.k ▸ hy.dp sb (okEq_lay h2), h1, h2, by rw [h3]; exact q⟩
theorem op_ltR : OpR X (compareOp .Lt) (r2b c (cmpD .lt)) := by
  intro pins s σ H x y v u Q I rx ry h
  obtain ⟨F, d, e, b, sb, hx, hy, hz, q⟩ := h
  obtain ⟨h0, hn, h1, h2, h3⟩ := cltD_some hz
  obtain ⟨⟨as, ra⟩, bs, rb⟩ := two_reads f I rx ry sb hx hy h1 h2
  have := okEq_depth h1
  exact W.lt_data ra rb h0 hn (by omega) ⟨.bl _, H, I, rfl, by rw [h3]; exact q⟩
theorem op_gtR : OpR X (compareOp .Gt) (r2b c (cmpD .gt)) := by
  intro pins s σ H x y v u Q I rx ry h
  obtain ⟨F, d, e, b, sb, hx, hy, hz, q⟩ := h
  obtain ⟨h0, hn, h1, h2, h3⟩ := cltD_some hz
  obtain ⟨⟨as, ra⟩, bs, rb⟩ := two_reads f I rx ry sb hx hy h2 h1
  have := okEq_depth h1
  exact W.gt_data ra rb (by rw [W.alike_comm]; exact h0) (W.ne_none_both h0 hn) (by omega) ⟨.bl _, H, I, rfl, by rw [h3]; exact q⟩
theorem op_leR : OpR X (compareOp .LtE) (r2b c (cmpD .le)) := by
  intro pins s σ H x y v u Q I rx ry h
  obtain ⟨F, d, e, b, sb, hx, hy, hz, q⟩ := h
  obtain ⟨k, hk, rfl⟩ := Option.map_eq_some_iff.mp hz
  obtain ⟨h0, hn, h1, h2, h3⟩ := cltD_some hk
  obtain ⟨⟨as, ra⟩, bs, rb⟩ := two_reads f I rx ry sb hx hy h2 h1
  have := okEq_depth h1
  exact W.le_data ra rb (by rw [W.alike_comm]; exact h0) (W.ne_none_both h0 hn) (by omega) ⟨.bl _, H, I, rfl, by rw [h3]; exact q⟩
theorem op_geR : OpR X (compareOp .GtE) (r2b c (cmpD .ge)) := by
  intro pins s σ H x y v u Q I rx ry h
  obtain ⟨F, d, e, b, sb, hx, hy, hz, q⟩ := h
  obtain ⟨k, hk, rfl⟩ := Option.map_eq_some_iff.mp hz
  obtain ⟨h0, hn, h1, h2, h3⟩ := cltD_some hk
  obtain ⟨⟨as, ra⟩, bs, rb⟩ := two_reads f I rx ry sb hx hy h1 h2
  have := okEq_depth h1
  exact W.ge_data ra rb h0 hn (by omega) ⟨.bl _, H, I, rfl, by rw [h3]; exact q⟩
omit hu in
theorem op_isNR : OpR X (compareOp .Is) (r2b c (cmpD .isnone)) := by
  intro pins s σ H x y v u Q I rx ry h
  obtain ⟨F, d, e, b, sb, hx, hy, hz, q⟩ := h
  cases e with
  | none =>
    have ey : y = .non := Dt.non_inv (hy.flat rfl)
    subst ey
    refine op_isN pins s σ H x _ v u Q I rx ry ⟨rfl, ?_⟩
    have e2 : decide (x = V.non) = b := by
      have hz' : some (isNoneD d) = some b := hz
      cases d with
      | none => cases Dt.non_inv (hx.flat rfl); simpa [isNoneD] using hz'
      | list ds => obtain ⟨a, xs, rfl, _⟩ := hx.list sb; simpa [isNoneD] using hz'
      | tuple ds => obtain ⟨a, xs, rfl, _⟩ := hx.tup sb; simpa [isNoneD] using hz'
      | dict ds => obtain ⟨a, xs, rfl, _⟩ := hx.dict sb; simpa [isNoneD] using hz'
      | int i => cases Dt.int_inv (hx.flat rfl); simpa [isNoneD] using hz'
      | str i => cases Dt.str_inv (hx.flat rfl); simpa [isNoneD] using hz'
      | bool i => cases Dt.bl_inv (hx.flat rfl); simpa [isNoneD] using hz'
    rw [e2]; exact q
  | _ => cases hz
omit hu in
theorem op_notNR : OpR X (compareOp .IsNot) (r2b c (cmpD .notnone)) := by
  intro pins s σ H x y v u Q I rx ry h
  obtain ⟨F, d, e, b, sb, hx, hy, hz, q⟩ := h
  cases e with
  | none =>
    have ey : y = .non := Dt.non_inv (hy.flat rfl)
    subst ey
    refine op_notN pins s σ H x _ v u Q I rx ry ⟨rfl, ?_⟩
    have e2 : (!decide (x = V.non)) = b := by
      have hz' : some (!isNoneD d) = some b := hz
      cases d with
      | none => cases Dt.non_inv (hx.flat rfl); simpa [isNoneD] using hz'
      | list ds => obtain ⟨a, xs, rfl, _⟩ := hx.list sb; simpa [isNoneD] using hz'
      | tuple ds => obtain ⟨a, xs, rfl, _⟩ := hx.tup sb; simpa [isNoneD] using hz'
      | dict ds => obtain ⟨a, xs, rfl, _⟩ := hx.dict sb; simpa [isNoneD] using hz'
      | int i => cases Dt.int_inv (hx.flat rfl); simpa [isNoneD] using hz'
      | str i => cases Dt.str_inv (hx.flat rfl); simpa [isNoneD] using hz'
      | bool i => cases Dt.bl_inv (hx.flat rfl); simpa [isNoneD] using hz'
    rw [e2]; exact q
  | _ => cases hz
omit hu in
theorem op_isBR : OpR X (compareOp .Is) (r2b c (cmpD .isbool)) := by
  intro pins s σ H x y v u Q I rx ry h
  obtain ⟨F, d, e, b, sb, hx, hy, hz, q⟩ := h
  cases d with
  | bool i =>
    cases e with
    | bool j =>
      cases hz
      exact op_is_bl pins s σ H x y v u Q I rx ry ⟨i, j, Dt.bl_inv (hx.flat rfl), Dt.bl_inv (hy.flat rfl), q⟩
    | _ => cases hz
  | _ => cases e <;> cases hz
omit hu in
theorem op_notBR : OpR X (compareOp .IsNot) (r2b c (cmpD .notbool)) := by
  intro pins s σ H x y v u Q I rx ry h
  obtain ⟨F, d, e, b, sb, hx, hy, hz, q⟩ := h
  cases d with
  | bool i =>
    cases e with
    | bool j =>
      cases hz
      exact op_isnot_bl pins s σ H x y v u Q I rx ry ⟨i, j, Dt.bl_inv (hx.flat rfl), Dt.bl_inv (hy.flat rfl), q⟩
    | _ => cases hz
  | _ => cases e <;> cases hz
end
end SH

set_option Elab.async false
set_option linter.all false
set_option maxRecDepth 100000
set_option maxHeartbeats 4000000
/-! Dicts: asked, stored into. -/
namespace SH
open PySem PySem.Spec PyProof.Rows L2
variable [Tb]
theorem eqv_keyD (a b : Key) : PyData.eqv (keyD a) (keyD b) = decide (a = b) := by
  cases a with
  | inl i =>
    cases b with
    | inl j => simp only [keyD, PyData.eqv]; rw [key_ll]
    | inr j => simp only [keyD, PyData.eqv]; rw [key_lr]
  | inr i =>
    cases b with
    | inl j => simp only [keyD, PyData.eqv]; rw [key_rl]
    | inr j => simp only [keyD, PyData.eqv]; rw [key_rr, Bool.beq_eq_decide_eq]
theorem beq_dec {A : Type} [BEq A] [LawfulBEq A] [DecidableEq A] (a b : A) : (a == b) = decide (a = b) := by
  by_cases h : a = b
  · subst h; simp
  · rw [decide_eq_false h]; exact beq_eq_false_iff_ne.mpr h
mutual
theorem nk_eqv : ∀ (a b : D) (x y : NestedKey), nk a = some x → nk b = some y → PyData.eqv a b = NestedKey.beq x y
  | .none, b, x, y, ha, hb => by
    simp only [nk, Option.some.injEq] at ha; subst ha
    cases b <;> simp only [nk, Option.some.injEq, Option.map_eq_some_iff, reduceCtorEq] at hb
    all_goals (first | (subst hb; simp only [PyData.eqv, NestedKey.beq]) | (obtain ⟨_, _, hb⟩ := hb; subst hb; simp only [PyData.eqv, NestedKey.beq]))
  | .bool i, b, x, y, ha, hb => by
    simp only [nk, Option.some.injEq] at ha; subst ha
    cases b <;> simp only [nk, Option.some.injEq, Option.map_eq_some_iff, reduceCtorEq] at hb
    all_goals (first | (subst hb; simp only [PyData.eqv, NestedKey.beq]) | (obtain ⟨_, _, hb⟩ := hb; subst hb; simp only [PyData.eqv, NestedKey.beq]))
    · rename_i j; cases i <;> cases j <;> decide
    · exact beq_dec _ _
  | .int i, b, x, y, ha, hb => by
    simp only [nk, Option.some.injEq] at ha; subst ha
    cases b <;> simp only [nk, Option.some.injEq, Option.map_eq_some_iff, reduceCtorEq] at hb
    all_goals (first | (subst hb; simp only [PyData.eqv, NestedKey.beq]) | (obtain ⟨_, _, hb⟩ := hb; subst hb; simp only [PyData.eqv, NestedKey.beq]))
    · exact beq_dec _ _
    · exact beq_dec _ _
  | .str i, b, x, y, ha, hb => by
    simp only [nk, Option.some.injEq] at ha; subst ha
    cases b <;> simp only [nk, Option.some.injEq, Option.map_eq_some_iff, reduceCtorEq] at hb
    all_goals (first | (subst hb; simp only [PyData.eqv, NestedKey.beq]) | (obtain ⟨_, _, hb⟩ := hb; subst hb; simp only [PyData.eqv, NestedKey.beq]))
    exact beq_dec _ _
  | .tuple i, b, x, y, ha, hb => by
    simp only [nk, Option.map_eq_some_iff] at ha
    obtain ⟨ks, h1, rfl⟩ := ha
    cases b <;> simp only [nk, Option.some.injEq, Option.map_eq_some_iff, reduceCtorEq] at hb
    all_goals (first | (subst hb; simp only [PyData.eqv, NestedKey.beq]) | skip)
    obtain ⟨ls, h2, rfl⟩ := hb
    simp only [PyData.eqv, NestedKey.beq]
    exact nk_eqvAll _ _ _ _ h1 h2
  | .list i, b, x, y, ha, hb => by simp [nk] at ha
  | .dict i, b, x, y, ha, hb => by simp [nk] at ha
theorem nk_eqvAll : ∀ (a b : List D) (x y : List NestedKey), nkAll a = some x → nkAll b = some y → PyData.eqvAll a b = NestedKey.beqAll x y
  | [], [], x, y, ha, hb => by
    simp only [nkAll, Option.some.injEq] at ha hb; subst ha; subst hb; rfl
  | [], d :: b, x, y, ha, hb => by
    simp only [nkAll, Option.some.injEq, Option.bind_eq_some_iff, Option.map_eq_some_iff] at ha hb
    obtain ⟨k, h1, ks, h2, rfl⟩ := hb
    subst ha; simp only [PyData.eqvAll, NestedKey.beqAll]
  | d :: a, [], x, y, ha, hb => by
    simp only [nkAll, Option.some.injEq, Option.bind_eq_some_iff, Option.map_eq_some_iff] at ha hb
    obtain ⟨k, h1, ks, h2, rfl⟩ := ha
    subst hb; simp only [PyData.eqvAll, NestedKey.beqAll]
  | d :: a, e :: b, x, y, ha, hb => by
    simp only [nkAll, Option.bind_eq_some_iff, Option.map_eq_some_iff] at ha hb
    obtain ⟨k, h1, ks, h2, rfl⟩ := ha
    obtain ⟨l, h3, ls, h4, rfl⟩ := hb
    simp only [PyData.eqvAll, NestedKey.beqAll]
    rw [nk_eqv _ _ _ _ h1 h3, nk_eqvAll _ _ _ _ h2 h4]
end
theorem nk_dec {a b : D} {x y : NestedKey} (ha : nk a = some x) (hb : nk b = some y) : PyData.eqv a b = decide (x = y) := by
  rw [nk_eqv a b x y ha hb, NestedKey.decide_eq]
section
variable {P : Program} {w : World} {K : PySem.W.Frag} {F H : Hp}
theorem DtK1.any {k : Key} {ks : List (Key × V)} {kvs : List (D × D)} (h : DtK1 P w K F ks kvs) : (ks.any fun kv => decide (kv.1 = k)) = kvs.any fun kv => PyData.eqv kv.1 (keyD k) := by
  match h with
  | .nil => rfl
  | .cons _ t => simp only [List.any_cons]; rw [eqv_keyD, DtK1.any t]
theorem DtK1.repl {k : Key} {v : V} {d : D} (q : Dt P w K F v d) {ks : List (Key × V)} {kvs : List (D × D)} (h : DtK1 P w K F ks kvs) :
    DtK1 P w K F (ks.map fun kv => if kv.1 = k then (kv.1, v) else kv) (kvs.map fun kv => if PyData.eqv kv.1 (keyD k) = true then (kv.1, d) else kv) := by
  match h with
  | .nil => exact .nil
  | .cons (k := k') hd t =>
    simp only [List.map_cons]
    rw [eqv_keyD]
    by_cases e : k' = k
    · rw [if_pos e, if_pos (decide_eq_true e)]; exact .cons q (DtK1.repl q t)
    · rw [if_neg e, if_neg (by rw [decide_eq_false e]; decide)]; exact .cons hd (DtK1.repl q t)
theorem DtK1.append {ks ks' : List (Key × V)} {kvs kvs' : List (D × D)} (h : DtK1 P w K F ks kvs) (h' : DtK1 P w K F ks' kvs') : DtK1 P w K F (ks ++ ks') (kvs ++ kvs') := by
  match h with
  | .nil => exact h'
  | .cons hd t => exact .cons hd (DtK1.append t h')
theorem DtK1.put {k : Key} {v : V} {d : D} (q : Dt P w K F v d) {ks : List (Key × V)} {kvs : List (D × D)} (h : DtK1 P w K F ks kvs) : DtK1 P w K F (putK ks k v) (dput kvs (keyD k) d) := by
  unfold putK dput
  rw [h.any]
  split
  · exact h.repl q
  · exact h.append (.cons q .nil)
theorem DtK1.val {k : Key} {ks : List (Key × V)} {kvs : List (D × D)} (h : DtK1 P w K F ks kvs) : (∃ v d, valV ks k = some v ∧ dget kvs (keyD k) = some d ∧ Dt P w K F v d) ∨ (valV ks k = none ∧ dget kvs (keyD k) = none) := by
  match h with
  | .nil => exact .inr ⟨rfl, rfl⟩
  | .cons (k := k') (v := v) (d := d) (r := r) (ds := ds) hd t =>
    simp only [dget, eqv_keyD]
    by_cases e : k' = k
    · rw [if_pos (decide_eq_true e)]
      exact .inl ⟨v, d, by simp [valV, e], rfl, hd⟩
    · rw [if_neg (by rw [decide_eq_false e]; decide)]
      have e2 : valV ((k', v) :: r) k = valV r k := by simp [valV, e]
      rw [e2]
      exact DtK1.val t
theorem DtK1.length {ks : List (Key × V)} {kvs : List (D × D)} (h : DtK1 P w K F ks kvs) : ks.length = kvs.length := by
  match h with
  | .nil => rfl
  | .cons _ t => simp [DtK1.length t]
/-- tuple keys -/
def valT (xs : List (NestedKey × Addr × V)) (k : NestedKey) : Option V := (xs.find? fun x => decide (x.1 = k)).map (·.2.2)
def putT (xs : List (NestedKey × Addr × V)) (k : NestedKey) (p : Addr) (v : V) : List (NestedKey × Addr × V) :=
  if (xs.any fun x => decide (x.1 = k)) = true then xs.map fun x => if x.1 = k then (x.1, x.2.1, v) else x else xs ++ [(k, p, v)]
theorem DtK2.any {kd : D} {k : NestedKey} (hk : nk kd = some k) {xs : List (NestedKey × Addr × V)} {kvs : List (D × D)} (h : DtK2 P w K F xs kvs) : (xs.any fun x => decide (x.1 = k)) = kvs.any fun kv => PyData.eqv kv.1 kd := by
  match h with
  | .nil => rfl
  | .cons a _ _ _ t => simp only [List.any_cons]; rw [nk_dec a hk, DtK2.any hk t]
theorem DtK2.repl {kd : D} {k : NestedKey} (hk : nk kd = some k) {v : V} {d : D} (q : Dt P w K F v d) {xs : List (NestedKey × Addr × V)} {kvs : List (D × D)} (h : DtK2 P w K F xs kvs) :
    DtK2 P w K F (xs.map fun x => if x.1 = k then (x.1, x.2.1, v) else x) (kvs.map fun kv => if PyData.eqv kv.1 kd = true then (kv.1, d) else kv) := by
  match h with
  | .nil => exact .nil
  | .cons (k := k') a b c hd t =>
    simp only [List.map_cons]
    rw [nk_dec a hk]
    by_cases e : k' = k
    · rw [if_pos e, if_pos (decide_eq_true e)]; exact .cons a b c q (DtK2.repl hk q t)
    · rw [if_neg e, if_neg (by rw [decide_eq_false e]; decide)]; exact .cons a b c hd (DtK2.repl hk q t)
theorem DtK2.append {ks ks' : List (NestedKey × Addr × V)} {kvs kvs' : List (D × D)} (h : DtK2 P w K F ks kvs) (h' : DtK2 P w K F ks' kvs') : DtK2 P w K F (ks ++ ks') (kvs ++ kvs') := by
  match h with
  | .nil => exact h'
  | .cons a b c hd t => exact .cons a b c hd (DtK2.append t h')
theorem DtK2.put {kd : D} {k : NestedKey} {p : Addr} (hk : nk kd = some k) (h2 : keyKind kd = 2) (hp : Dt P w K F (.ref p) kd) {v : V} {d : D} (q : Dt P w K F v d) {xs : List (NestedKey × Addr × V)} {kvs : List (D × D)} (h : DtK2 P w K F xs kvs) :
    DtK2 P w K F (putT xs k p v) (dput kvs kd d) := by
  unfold putT dput
  rw [h.any hk]
  split
  · exact h.repl hk q
  · exact h.append (.cons hk h2 hp q .nil)
theorem DtK2.val {kd : D} {k : NestedKey} (hk : nk kd = some k) {xs : List (NestedKey × Addr × V)} {kvs : List (D × D)} (h : DtK2 P w K F xs kvs) : (∃ v d, valT xs k = some v ∧ dget kvs kd = some d ∧ Dt P w K F v d) ∨ (valT xs k = none ∧ dget kvs kd = none) := by
  match h with
  | .nil => exact .inr ⟨rfl, rfl⟩
  | .cons (k := k') (p := p) (v := v) (d := d) (r := r) (ds := ds) a _ _ hd t =>
    simp only [dget, nk_dec a hk]
    by_cases e : k' = k
    · rw [if_pos (decide_eq_true e)]
      exact .inl ⟨v, d, by simp [valT, e], rfl, hd⟩
    · rw [if_neg (by rw [decide_eq_false e]; decide)]
      have e2 : valT ((k', p, v) :: r) k = valT r k := by simp [valT, e]
      rw [e2]
      exact DtK2.val hk t
theorem DtK2.length {ks : List (NestedKey × Addr × V)} {kvs : List (D × D)} (h : DtK2 P w K F ks kvs) : ks.length = kvs.length := by
  match h with
  | .nil => rfl
  | .cons _ _ _ _ t => simp [DtK2.length t]
end
theorem KT2.any {k : NestedKey} {xs : List (NestedKey × Addr × V)} {vs : List (NestedKey × Addr × Value)} (h : KT2 xs vs) : (xs.any fun x => decide (x.1 = k)) = (atKey vs k).isSome := by
  unfold KT2 at h
  induction h with
  | nil => rfl
  | @cons p q ps qs hd t ih =>
    unfold atKey at ih ⊢
    rw [Option.isSome_map] at ih ⊢
    simp only [List.any_cons, List.find?_cons, hd.1]
    by_cases e : q.1 = k
    · simp [e]
    · simp only [e, decide_false, Bool.false_or]; exact ih
theorem KT2.val {k : NestedKey} {xs : List (NestedKey × Addr × V)} {vs : List (NestedKey × Addr × Value)} (h : KT2 xs vs) : (∃ v q, valT xs k = some v ∧ atKey vs k = some q ∧ RelV v q.2) ∨ (valT xs k = none ∧ atKey vs k = none) := by
  unfold KT2 at h
  induction h with
  | nil => exact .inr ⟨rfl, rfl⟩
  | @cons p q ps qs hd t ih =>
    by_cases e : q.1 = k
    · exact .inl ⟨p.2.2, q.2, by simp [valT, hd.1, e], by simp [atKey, e], hd.2.2⟩
    · have e1 : valT (p :: ps) k = valT ps k := by simp [valT, hd.1, e]
      have e2 : atKey (q :: qs) k = atKey qs k := by simp [atKey, e]
      rw [e1, e2]
      exact ih
theorem KT2.repl {k : NestedKey} {v : V} {u : Value} (r : RelV v u) : ∀ {xs : List (NestedKey × Addr × V)} {vs : List (NestedKey × Addr × Value)}, KT2 xs vs → KT2 (xs.map fun x => if x.1 = k then (x.1, x.2.1, v) else x) (vs.map (putAt k u))
  | _, _, .nil => .nil
  | p :: ps, q :: qs, .cons hd t => by
    refine .cons ?_ (KT2.repl r t)
    unfold putAt
    show (if p.1 = k then (p.1, p.2.1, v) else p).1 = _ ∧ (if p.1 = k then (p.1, p.2.1, v) else p).2.1 = _ ∧ RelV (if p.1 = k then (p.1, p.2.1, v) else p).2.2 _
    rw [hd.1]
    by_cases e : q.1 = k
    · rw [if_pos e, if_pos e]; exact ⟨rfl, hd.2.1, r⟩
    · rw [if_neg e, if_neg e]; exact ⟨hd.1, hd.2.1, hd.2.2⟩
theorem KT2.append : ∀ {xs ys : List (NestedKey × Addr × V)} {vs us : List (NestedKey × Addr × Value)}, KT2 xs vs → KT2 ys us → KT2 (xs ++ ys) (vs ++ us)
  | _, _, _, _, .nil, q => q
  | _, _, _, _, .cons hd t, q => .cons hd (KT2.append t q)
theorem KT2.put {k : NestedKey} {p : Addr} {v : V} {u : Value} (r : RelV v u) {xs : List (NestedKey × Addr × V)} {vs : List (NestedKey × Addr × Value)} (h : KT2 xs vs) : KT2 (putT xs k p v) (storedH vs k p u) := by
  unfold putT storedH
  rw [h.any]
  split
  · exact h.repl r
  · exact h.append (.cons ⟨rfl, rfl, r⟩ .nil)
theorem putT_length (xs : List (NestedKey × Addr × V)) (k : NestedKey) (p : Addr) (v : V) : (putT xs k p v).length ≤ xs.length + 1 := by
  unfold putT; split <;> simp
theorem putT_ne (xs : List (NestedKey × Addr × V)) (k : NestedKey) (p : Addr) (v : V) : ∃ y ys, putT xs k p v = y :: ys := by
  unfold putT
  split
  · cases xs with
    | nil => rename_i h; simp at h
    | cons x xs => exact ⟨_, _, rfl⟩
  · cases xs with
    | nil => exact ⟨_, _, rfl⟩
    | cons x xs => exact ⟨_, _, rfl⟩

/-! ### in the heap -/
section
variable {X : Cx} {pins : List (Addr × Obj)} {σ : L2.St} {H F : Hp} {s : Shared} {a : Addr} {o : Obj}
theorem Inv.raw (I : Inv X pins σ H s) (e : H a = some (RawO a o)) : s.heap.get? a = some o := (I.hok a _ e).1
theorem DK1.of {P : Program} {w : World} {h : Heap} {ks : List (Key × V)} (x : DK1 P w o ks) (e : h.get? a = some o) : ∃ vs, KV ks vs ∧ h.DictOf (mixKind P w) a vs := by
  obtain ⟨ex, ⟨es, ep, vs, h1, h2, h3, h4, h5⟩, _⟩ := x
  exact ⟨vs, h5, o, es, ep, e, ex, h1, h2, h3, h4⟩
theorem DK1.back {P : Program} {w : World} {h : Heap} {ks : List (Key × V)} {vs : List (Key × Value)} (r : KV ks vs) (z : ks.length ≤ sizeLine) (x : h.DictOf (mixKind P w) a vs) : ∃ o, h.get? a = some o ∧ DK1 P w o ks := by
  obtain ⟨o, es, ep, e, ex, h1, h2, h3, h4⟩ := x
  exact ⟨o, e, ex, ⟨es, ep, vs, h1, h2, h3, h4, r⟩, z⟩
theorem DK1.two {P : Program} {w : World} (x : DK1 P w o []) : DK2 P w o [] := by
  obtain ⟨ex, ⟨es, ep, vs, h1, h2, h3, h4, h5⟩, z⟩ := x
  have e : vs = [] := by cases h5; rfl
  subst e
  have e2 : es.toList = [] := by cases q : es.toList with
    | nil => rfl
    | cons a b => rw [q] at h3; cases h3
  exact ⟨ex, ⟨es, ep, [], h1, e2, List.nodup_nil, .nil⟩, Nat.zero_le _⟩
mutual
/-- the value is the key k -/
theorem Dt.nested (I : Inv X pins σ H s) {P : Program} {w : World} (sb : Sub F H) : ∀ {kd : D} {v : V} {u : Value} {k : NestedKey}, Dt P w X.K F v kd → RelV v u → nk kd = some k → NestedIs s.heap k u
  | _, _, _, _, .non, r, e => by cases r; cases e; exact .none
  | _, _, _, _, .bl b, r, e => by
    cases r
    simp only [nk, Option.some.injEq] at e; subst e
    exact .bool rfl
  | _, _, _, _, .int i, r, e => by obtain ⟨t, rfl⟩ := r; cases e; exact .int _ _
  | _, _, _, _, .str x, r, e => by obtain ⟨t, rfl⟩ := r; cases e; exact .text _ _
  | _, _, _, _, .lst _ _ _, r, e => by simp [nk] at e
  | _, _, _, _, .tup sq z da, r, e => by
    simp only [nk, Option.map_eq_some_iff] at e
    obtain ⟨ks, e1, rfl⟩ := e
    cases r
    obtain ⟨its, rv, ⟨o, h1, h2, n, h3⟩, hz⟩ := I.tuple (SqT.mono sb sq.1)
    exact .tup h1 h2 h3 (by simpa using DtAll.nested I sb da rv e1)
  | _, _, _, _, .dc1 _ _ _ _, r, e => by simp [nk] at e
  | _, _, _, _, .dc2 _ _ _ _, r, e => by simp [nk] at e
theorem DtAll.nested (I : Inv X pins σ H s) {P : Program} {w : World} (sb : Sub F H) : ∀ {ds : List D} {vs : List V} {us : List Value} {ks : List NestedKey}, DtAll P w X.K F vs ds → Vals vs us → nkAll ds = some ks → NestedAll s.heap ks us
  | _, _, _, _, .nil, r, e => by cases r; cases e; exact .nil
  | _, _, _, _, .cons h1 h2, r, e => by
    simp only [nkAll, Option.bind_eq_some_iff, Option.map_eq_some_iff] at e
    obtain ⟨k, e1, l, e2, rfl⟩ := e
    cases r with
    | cons r1 r2 => exact .cons (Dt.nested I sb h1 r1 e1) (DtAll.nested I sb h2 r2 e2)
end
theorem DtK2.is (I : Inv X pins σ H s) {P : Program} {w : World} (sb : Sub F H) : ∀ {xs : List (NestedKey × Addr × V)} {kvs : List (D × D)}, DtK2 P w X.K F xs kvs → ∀ x ∈ xs, NestedIs s.heap x.1 (.ref x.2.1) ∧ x.1.depth ≤ 8
  | _, _, .nil, x, hx => nomatch hx
  | _, _, .cons (kd := kd) a b h _ t, x, hx => by
    rcases List.mem_cons.mp hx with e | hx
    · subst e
      refine ⟨Dt.nested I sb h rfl a, ?_⟩
      cases kd with
      | tuple ds =>
        simp only [nk, Option.map_eq_some_iff] at a
        obtain ⟨ks, e1, e2⟩ := a
        simp only [keyKind, e1] at b
        rw [← e2]
        split at b
        · assumption
        · cases b
      | _ => simp [keyKind] at b
    · exact DtK2.is I sb t x hx
theorem KT2.mem {xs : List (NestedKey × Addr × V)} {vs : List (NestedKey × Addr × Value)} (h : KT2 xs vs) : ∀ q ∈ vs, ∃ x ∈ xs, x.1 = q.1 ∧ x.2.1 = q.2.1 := by
  unfold KT2 at h
  induction h with
  | nil => intro q hq; exact nomatch hq
  | @cons p q ps qs hd t ih =>
    intro z hz
    rcases List.mem_cons.mp hz with e | hz
    · subst e; exact ⟨p, List.mem_cons_self, hd.1, hd.2.1⟩
    · obtain ⟨x, hx, e⟩ := ih z hz
      exact ⟨x, List.mem_cons_of_mem _ hx, e⟩
theorem DK2.of (I : Inv X pins σ H s) {xs : List (NestedKey × Addr × V)} {kvs : List (D × D)} (sb : Sub F H) (x : DK2 X.prog X.w o xs) (t : DtK2 X.prog X.w X.K F xs kvs) (e : s.heap.get? a = some o) :
    ∃ vs, KT2 xs vs ∧ s.heap.DictOfH (nestedKind X.prog X.w) a vs := by
  obtain ⟨ex, ⟨es, ep, vs, h1, h2, h3, h4⟩, _⟩ := x
  refine ⟨vs, h4, o, es, ep, e, ex, h1, h2, fun q hq => ?_, h3⟩
  obtain ⟨x, hx, e1, e2⟩ := h4.mem q hq
  have := t.is I sb x hx
  rw [e1, e2] at this
  exact this
theorem DK2.back {P : Program} {w : World} {h : Heap} {xs : List (NestedKey × Addr × V)} {vs : List (NestedKey × Addr × Value)} (r : KT2 xs vs) (z : xs.length ≤ sizeLine) (x : h.DictOfH (nestedKind P w) a vs) : ∃ o, h.get? a = some o ∧ DK2 P w o xs := by
  obtain ⟨o, es, ep, e, ex, h1, h2, h3, h4⟩ := x
  exact ⟨o, e, ex, ⟨es, ep, vs, h1, h2, h4, r⟩, z⟩
/-- a dict's make -/
abbrev DAlt (P : Program) (w : World) (K : PySem.W.Frag) (F : Hp) (o : Obj) (kvs : List (D × D)) : Prop := (∃ ks, DK1 P w o ks ∧ DtK1 P w K F ks kvs) ∨ ∃ x xs, DK2 P w o (x :: xs) ∧ DtK2 P w K F (x :: xs) kvs
/-- a key asked: the two kinds -/
theorem ask_kinds {c : Cn} {kvs : List (D × D)} {kd : D} {y : V} (alt : DAlt c.P c.w c.K F o kvs) (hy : c.Vw F H y kd) (hf : keyFits kd kvs = true) :
    (∃ k ks, kd = keyD k ∧ y = kV k ∧ DK1 c.P c.w o ks ∧ DtK1 c.P c.w c.K F ks kvs) ∨
    (∃ k b xs, nk kd = some k ∧ keyKind kd = 2 ∧ k.depth ≤ 8 ∧ y = .ref b ∧ c.Dt F (.ref b) kd ∧ DK2 c.P c.w o xs ∧ DtK2 c.P c.w c.K F xs kvs) := by
  unfold keyFits at hf
  simp only [Bool.and_eq_true, bne_iff_ne, ne_eq, Bool.or_eq_true, beq_iff_eq] at hf
  obtain ⟨h0, h1⟩ := hf
  have tup : ∀ ds, kd = .tuple ds → keyKind kd = 2 ∧ ∃ k, nk kd = some k ∧ k.depth ≤ 8 ∧ ∃ b, y = .ref b ∧ c.Dt F (.ref b) kd := fun ds e => by
    subst e
    simp only [keyKind] at h0 ⊢
    cases q : nkAll ds with
    | none => rw [q] at h0; exact absurd rfl h0
    | some ks =>
      rw [q] at h0
      simp only at h0 ⊢
      split at h0
      · rename_i hz
        rw [if_pos hz]
        refine ⟨rfl, .tup ks, by simp [nk, q], hz, ?_⟩
        rcases hy with hy | ⟨b, _, _, o⟩
        · cases hy with
          | tup a b d => exact ⟨_, rfl, .tup a b d⟩
        · exact o.elim
      · exact absurd rfl h0
  rcases alt with ⟨ks, a1, a2⟩ | ⟨x, xs, a1, a2⟩
  · cases kd with
    | int i => exact .inl ⟨.inl i, ks, rfl, Dt.int_inv (hy.flat rfl), a1, a2⟩
    | str i => exact .inl ⟨.inr i, ks, rfl, Dt.str_inv (hy.flat rfl), a1, a2⟩
    | tuple ds =>
      obtain ⟨k2, k, e1, e2, b, e3, e4⟩ := tup ds rfl
      have hk : kvs = [] := by
        cases a2 with
        | nil => rfl
        | @cons k v r d ds' q t =>
          exfalso
          rcases h1 with h1 | h1
          · cases k <;> simp [dkind, keyD, keyKind] at h1
          · rw [k2] at h1
            cases k <;> simp [dkind, keyD, keyKind] at h1
      subst hk
      cases a2
      exact .inr ⟨k, b, [], e1, k2, e2, e3, e4, a1.two, .nil⟩
    | _ => simp [keyKind] at h0
  · have k2 : dkind kvs = 2 := by
      cases a2 with
      | cons a b _ _ _ => exact b
    rw [k2] at h1
    cases kd with
    | tuple ds =>
      obtain ⟨k2, k, e1, e2, b, e3, e4⟩ := tup ds rfl
      exact .inr ⟨k, b, x :: xs, e1, k2, e2, e3, e4, a1, a2⟩
    | _ => simp [keyKind] at h1 h0
end
section
variable {c : Cn} {X : Cx}
variable (f : Fits c X) (hu : X.A.units + 70 < cLine)
include f hu
theorem dict_in {pins : List (Addr × Obj)} {s : Shared} {σ : L2.St} {H F : Hp} {a : Addr} {o : Obj} {y : V} {u : Value} {kd : D} {kvs : List (D × D)} {Q : VK} (I : Inv X pins σ H s) (sb : Sub F H) (e : H a = some (RawO a o)) (hd : (a == sysModules) = false)
    (alt : DAlt c.P c.w c.K F o kvs) (ry : RelV y u) (hy : c.Vw F H y kd) (hf : keyFits kd kvs = true) (q : Q (.bl (dget kvs kd).isSome) H) :
    wpAny (model X.prog X.w) X.A (compareOp .In u (.ref a)) (EP X pins σ Q) X.xe s ∧ ∀ Q', Q' (.bl (!(dget kvs kd).isSome)) H → wpAny (model X.prog X.w) X.A (compareOp .NotIn u (.ref a)) (EP X pins σ Q') X.xe s := by
  have hr := Inv.raw I e
  obtain ⟨P, w, K, C, G, cl⟩ := c
  obtain ⟨hp, hw, hk⟩ := f
  simp only at hp hw hk
  subst hp hw hk
  rcases ask_kinds alt hy hf with ⟨k, ks, rfl, rfl, a1, a2⟩ | ⟨k, b, xs, e1, k2, e2, rfl, e4, a1, a2⟩
  · obtain ⟨vs, rv, dd⟩ := a1.of hr
    have hval : (valueAt vs k).isSome = (dget kvs (keyD k)).isSome := by
      rw [← (rv.val k).isSome_eq]
      rcases a2.val (k := k) with ⟨v, d, h1, h2, _⟩ | ⟨h1, h2⟩ <;> rw [h1, h2] <;> rfl
    refine ⟨wpAny_in_of (kV_is ry) hd dd.mapOf ?_, fun Q' q' => wpAny_notIn_of (kV_is ry) hd dd.mapOf ?_⟩
    · rw [hval]; exact ⟨.bl _, H, I.tok _, rfl, q⟩
    · rw [hval]; exact ⟨.bl _, H, I.tok _, rfl, q'⟩
  · obtain ⟨vs, rv, dd⟩ := a1.of I sb a2 hr
    cases ry
    have hval : (atKey vs k).isSome = (dget kvs kd).isSome := by
      rcases a2.val e1 with ⟨v, d, h1, h2, _⟩ | ⟨h1, h2⟩ <;> rcases rv.val (k := k) with ⟨v', q', h3, h4, _⟩ | ⟨h3, h4⟩
      · rw [h2, h4]; rfl
      · rw [h1] at h3; cases h3
      · rw [h1] at h3; cases h3
      · rw [h2, h4]; rfl
    have room : (nestedKind X.prog X.w).room X.A.in1 := by show X.A.units + 1 + 8 < cLine; omega
    have key : (nestedKind X.prog X.w).is s.heap k b := ⟨Dt.nested I sb e4 rfl e1, e2⟩
    refine ⟨wpAny_in_heap room key hd dd ?_, fun Q' q' => wpAny_notIn_heap room key hd dd ?_⟩
    · rw [hval]; exact ⟨.bl _, H, I.tok _, rfl, q⟩
    · rw [hval]; exact ⟨.bl _, H, I.tok _, rfl, q'⟩
theorem dict_ix {pins : List (Addr × Obj)} {s : Shared} {σ : L2.St} {H F : Hp} {a : Addr} {o : Obj} {y : V} {u : Value} {kd d : D} {kvs : List (D × D)} {Q : VK} (I : Inv X pins σ H s) (sb : Sub F H) (e : H a = some (RawO a o))
    (alt : DAlt c.P c.w c.K F o kvs) (ry : RelV y u) (hy : c.Vw F H y kd) (hf : keyFits kd kvs = true) (hg : dget kvs kd = some d) (q : ∀ v, c.Dt F v d → Q v H) :
    s.TypeIs (.ref a) "dict" ∧ wpAny (model X.prog X.w) X.A (getItem (.ref a) u) (EP X pins σ Q) X.xe s := by
  have hr := Inv.raw I e
  obtain ⟨P, w, K, C, G, cl⟩ := c
  obtain ⟨hp, hw, hk⟩ := f
  simp only at hp hw hk
  subst hp hw hk
  rcases ask_kinds alt hy hf with ⟨k, ks, rfl, rfl, a1, a2⟩ | ⟨k, b, xs, e1, k2, e2, rfl, e4, a1, a2⟩
  · obtain ⟨vs, rv, dd⟩ := a1.of hr
    rcases a2.val (k := k) with ⟨v, d', h1, h2, h3⟩ | ⟨h1, h2⟩
    · rw [hg] at h2; cases h2
      obtain ⟨w', hw, rw'⟩ := RelO.some_of (v := v) (o := valueAt vs k) (by rw [← h1]; exact rv.val k)
      exact ⟨dd.mapOf.typeIs, wpAny_getItem_of (kV_is ry) dd.mapOf hw ⟨v, H, I.tok _, rw', q v h3⟩⟩
    · rw [hg] at h2; cases h2
  · obtain ⟨vs, rv, dd⟩ := a1.of I sb a2 hr
    cases ry
    have room : (nestedKind X.prog X.w).room X.A.in1 := by show X.A.units + 1 + 8 < cLine; omega
    have key : (nestedKind X.prog X.w).is s.heap k b := ⟨Dt.nested I sb e4 rfl e1, e2⟩
    rcases a2.val e1 with ⟨v, d', h1, h2, h3⟩ | ⟨h1, h2⟩
    · rw [hg] at h2; cases h2
      rcases rv.val (k := k) with ⟨v', q', h4, h5, h6⟩ | ⟨h4, h5⟩
      · rw [h1] at h4; cases h4
        exact ⟨dd.typeIs, wpAny_getItem_heap room key dd h5 ⟨v, H, I.tok _, h6, q v h3⟩⟩
      · rw [h1] at h4; cases h4
    · rw [hg] at h2; cases h2
end
end SH

set_option Elab.async false
set_option linter.all false
set_option maxRecDepth 100000
set_option maxHeartbeats 4000000
/-! Built-ins by values. -/
namespace SH
open PySem PySem.Spec PyProof.Rows L2
variable [Tb]
section
variable {c : Cn} {X : Cx}
theorem vw1 {F H : Hp} {vs : List V} {d : D} (h : VwAll c F H vs [d]) : ∃ v, vs = [v] ∧ c.Vw F H v d := by
  match vs, h with
  | [v], ⟨h, _⟩ => exact ⟨v, rfl, h⟩
theorem vw2 {F H : Hp} {vs : List V} {d e : D} (h : VwAll c F H vs [d, e]) : ∃ v u, vs = [v, u] ∧ c.Vw F H v d ∧ c.Vw F H u e := by
  match vs, h with
  | [v, u], ⟨h, h2, _⟩ => exact ⟨v, u, rfl, h, h2⟩
/-- one argument -/
def rB1 (c : Cn) (g : D → Option D) : List V → Hp → VK → Prop := fun vs H Q => ∃ F d r v, Sub F H ∧ vs = [v] ∧ c.Vw F H v d ∧ g d = some r ∧ ∀ u H' F', Ext H F H' F' → c.Dt F' u r → Q u H'
def rB1O (c : Cn) (g : D → Option D) : List V → Hp → VK → Prop := fun vs H Q => ∃ F d r v, Sub F H ∧ vs = [v] ∧ c.Vw F H v d ∧ g d = some r ∧ ∀ u H' F', Ext H F H' F' → rO c H F' H' u r → Q u H'
theorem bi_one {b : Bi} {u : Value} (hb : ∀ a e, bi2 b a e = none) (h : CallR X u (rB1 c (bi1 b))) : CallR X u (rB c (biD b)) := by
  intro pins s σ H xs us Q I r q
  obtain ⟨F, ds, z, sb, hv, hz, q⟩ := q
  match ds, hv, hz with
  | [], _, hz => cases hz
  | [d], hv, hz =>
    obtain ⟨v, ev, hv2⟩ := vw1 hv
    exact h pins s σ H _ us Q I r ⟨F, d, z, v, sb, ev, hv2, hz, q⟩
  | [a, e], _, hz => rw [show biD b [a, e] = bi2 b a e from rfl, hb] at hz; cases hz
  | _ :: _ :: _ :: _, _, hz => cases hz
theorem bi_oneO {b : Bi} {u : Value} (hb : ∀ a e, bi2 b a e = none) (h : CallR X u (rB1O c (bi1 b))) : CallR X u (rBO c (biD b)) := by
  intro pins s σ H xs us Q I r q
  obtain ⟨F, ds, z, sb, hv, hz, q⟩ := q
  match ds, hv, hz with
  | [], _, hz => cases hz
  | [d], hv, hz =>
    obtain ⟨v, ev, hv2⟩ := vw1 hv
    exact h pins s σ H _ us Q I r ⟨F, d, z, v, sb, ev, hv2, hz, q⟩
  | [a, e], _, hz => rw [show biD b [a, e] = bi2 b a e from rfl, hb] at hz; cases hz
  | _ :: _ :: _ :: _, _, hz => cases hz
variable (f : Fits c X)
theorem bools_of {P : Program} {w : World} {K : PySem.W.Frag} {F : Hp} : ∀ {xs : List V} {ds : List D} {bs : List Bool}, DtAll P w K F xs ds → bools ds = some bs → xs = bs.map V.bl
  | _, _, _, .nil, h => by simp only [bools, Option.some.injEq] at h; subst h; rfl
  | _, _, _, .cons (d := d) h t, e => by
    cases d with
    | bool b =>
      simp only [bools, Option.map_eq_some_iff] at e
      obtain ⟨bs, e1, rfl⟩ := e
      rw [Dt.bl_inv h, bools_of t e1]; rfl
    | _ => simp [bools] at e
theorem ints_of {P : Program} {w : World} {K : PySem.W.Frag} {F : Hp} : ∀ {xs : List V} {ds : List D} {bs : List Int}, DtAll P w K F xs ds → intsOf ds = some bs → xs = bs.map V.int
  | _, _, _, .nil, h => by simp only [intsOf, Option.some.injEq] at h; subst h; rfl
  | _, _, _, .cons (d := d) h t, e => by
    cases d with
    | int b =>
      simp only [intsOf, Option.map_eq_some_iff] at e
      obtain ⟨bs, e1, rfl⟩ := e
      rw [Dt.int_inv h, ints_of t e1]; rfl
    | _ => simp [intsOf] at e
theorem listOfD_some {d : D} {xs : List D} (h : listOfD d = some xs) : d = .list xs := by
  cases d <;> simp [listOfD] at h
  subst h; rfl
include f
theorem bi_len : CallR X (.builtin "len") (rB c (biD .len)) := bi_one (fun _ _ => rfl) (by
  intro pins s σ H xs us Q I r h
  obtain ⟨F, d, z, v, sb, rfl, hv, hz, q⟩ := h
  obtain ⟨n, hn, rfl⟩ := Option.map_eq_some_iff.mp hz
  cases d with
  | list ds =>
    obtain ⟨a, xs, rfl, sq, zz, da⟩ := hv.list sb
    cases hn
    refine call_len_seq pins s σ H _ us Q I r ⟨a, xs, rfl, .inl (f.k ▸ sq), ?_⟩
    rw [da.length]; exact q _ _ _ (Ext.refl sb) (.int _)
  | tuple ds =>
    obtain ⟨a, xs, rfl, sq, zz, da⟩ := hv.tup sb
    cases hn
    refine call_len_seq pins s σ H _ us Q I r ⟨a, xs, rfl, .inr (f.k ▸ sq), ?_⟩
    rw [da.length]; exact q _ _ _ (Ext.refl sb) (.int _)
  | str x =>
    by_cases h1 : x.length ≤ lim
    · obtain rfl : x.length = n := by simpa [lenD, h1] using hn
      rw [Dt.str_inv (hv.flat rfl)] at r
      exact call_len pins s σ H _ us Q I r ⟨.str x, x.length, rfl, ⟨by rw [← lim_eq]; exact h1, rfl⟩, q _ _ _ (Ext.refl sb) (.int _)⟩
    · simp [lenD, h1] at hn
  | none => simp [lenD] at hn
  | bool b => simp [lenD] at hn
  | int b => simp [lenD] at hn
  | dict b => simp [lenD] at hn)
theorem bi_all (hc : X.calm = true) : CallR X (.builtin "all") (rB c (biD .all)) := bi_one (fun _ _ => rfl) (by
  intro pins s σ H xs us Q I r h
  obtain ⟨F, d, z, v, sb, rfl, hv, hz, q⟩ := h
  obtain ⟨ds, e1, hz⟩ := Option.bind_eq_some_iff.mp hz
  obtain ⟨b, hb, rfl⟩ := Option.map_eq_some_iff.mp hz
  obtain ⟨bs, e2, rfl⟩ := Option.map_eq_some_iff.mp hb
  cases listOfD_some e1
  obtain ⟨a, xs, rfl, sq, zz, da⟩ := hv.list sb
  rw [bools_of da e2] at sq
  exact cr_all hc pins s σ H _ us Q I r ⟨a, bs, rfl, f.k ▸ sq, q _ _ _ (Ext.refl sb) (.bl _)⟩)
theorem bi_any (hc : X.calm = true) : CallR X (.builtin "any") (rB c (biD .any)) := bi_one (fun _ _ => rfl) (by
  intro pins s σ H xs us Q I r h
  obtain ⟨F, d, z, v, sb, rfl, hv, hz, q⟩ := h
  obtain ⟨ds, e1, hz⟩ := Option.bind_eq_some_iff.mp hz
  obtain ⟨b, hb, rfl⟩ := Option.map_eq_some_iff.mp hz
  obtain ⟨bs, e2, rfl⟩ := Option.map_eq_some_iff.mp hb
  cases listOfD_some e1
  obtain ⟨a, xs, rfl, sq, zz, da⟩ := hv.list sb
  rw [bools_of da e2] at sq
  exact cr_any hc pins s σ H _ us Q I r ⟨a, bs, rfl, f.k ▸ sq, q _ _ _ (Ext.refl sb) (.bl _)⟩)
theorem bi_sum (hc : X.calm = true) : CallR X (.builtin "sum") (rB c (biD .sum)) := bi_one (fun _ _ => rfl) (by
  intro pins s σ H xs us Q I r h
  obtain ⟨F, d, z, v, sb, rfl, hv, hz, q⟩ := h
  obtain ⟨ds, e1, hz⟩ := Option.bind_eq_some_iff.mp hz
  obtain ⟨b, hb, rfl⟩ := Option.map_eq_some_iff.mp hz
  obtain ⟨bs, e2, rfl⟩ := Option.map_eq_some_iff.mp hb
  cases listOfD_some e1
  obtain ⟨a, xs, rfl, sq, zz, da⟩ := hv.list sb
  rw [ints_of da e2] at sq
  exact cr_sum hc pins s σ H _ us Q I r ⟨a, bs, rfl, f.k ▸ sq, q _ _ _ (Ext.refl sb) (.int _)⟩)
theorem bi_tuple : CallR X (.type "tuple") (rB c (biD .tuple)) := bi_one (fun _ _ => rfl) (by
  intro pins s σ H xs us Q I r h
  obtain ⟨F, d, z, v, sb, rfl, hv, hz, q⟩ := h
  cases d with
  | list ds =>
    cases hz
    obtain ⟨a, xs, rfl, sq, zz, da⟩ := hv.list sb
    obtain ⟨u, rfl, rx⟩ := vals1 r
    cases rx
    obtain ⟨its, r', pl, hz⟩ := I.list (f.k ▸ sq)
    refine call_tuple_list pl.isList (fun h' kp => ?_) (by rw [List.size_toArray, ← r'.length]; exact hz)
    obtain ⟨p, hp, e, I2⟩ := I.tnew (h' := h') (t' := s.toks) kp zz r'
    subst e
    exact ⟨.ref _, _, I2, rfl, q _ _ _ (Ext.new sb hp) (.tup (SqP.new upd_same) zz (da.mono (Sub.self (sb.no hp))))⟩
  | tuple ds =>
    cases hz
    obtain ⟨a, xs, rfl, sq, zz, da⟩ := hv.tup sb
    exact call_tuple_of pins s σ H _ us Q I r ⟨a, xs, rfl, .inr ⟨f.k ▸ sq, q _ _ _ (Ext.refl sb) (hv.elim id fun ⟨_, _, _, o⟩ => o.elim)⟩⟩
  | _ => cases hz)
theorem bi_list : CallR X (.type "list") (rBO c (biD .list)) := bi_oneO (fun _ _ => rfl) (by
  intro pins s σ H xs us Q I r h
  obtain ⟨F, d, z, v, sb, rfl, hv, hz, q⟩ := h
  cases d with
  | list ds =>
    cases hz
    obtain ⟨a, xs, rfl, sq, zz, da⟩ := hv.list sb
    exact call_list_of pins s σ H _ us Q I r ⟨a, xs, rfl, .inl (f.k ▸ sq), fun l hl => q _ _ _ (Ext.newO sb hl) ⟨l, rfl, hl, sb.no hl, xs, upd_same, zz, da⟩⟩
  | tuple ds =>
    cases hz
    obtain ⟨a, xs, rfl, sq, zz, da⟩ := hv.tup sb
    exact call_list_of pins s σ H _ us Q I r ⟨a, xs, rfl, .inr (f.k ▸ sq), fun l hl => q _ _ _ (Ext.newO sb hl) ⟨l, rfl, hl, sb.no hl, xs, upd_same, zz, da⟩⟩
  | _ => cases hz)
theorem bi_min2 (hc : X.calm = true) : CallR X (.builtin "min") (rB c fun ds => match ds with | [a, b] => bi2 .min2 a b | _ => none) := by
  intro pins s σ H xs us Q I r h
  obtain ⟨F, ds, z, sb, hv, hz, q⟩ := h
  match ds, hv, hz with
  | [.int i, .int j], hv, hz =>
    cases hz
    obtain ⟨v, u, rfl, h1, h2⟩ := vw2 hv
    exact call_min2 hc pins s σ H _ us Q I r ⟨i, j, by rw [Dt.int_inv (h1.flat rfl), Dt.int_inv (h2.flat rfl)], q _ _ _ (Ext.refl sb) (.int _)⟩
  | [], _, hz => cases hz
  | [_], _, hz => cases hz
  | _ :: _ :: _ :: _, _, hz => cases hz
  | [.none, _], _, hz => cases hz
  | [.bool _, _], _, hz => cases hz
  | [.str _, _], _, hz => cases hz
  | [.list _, _], _, hz => cases hz
  | [.tuple _, _], _, hz => cases hz
  | [.dict _, _], _, hz => cases hz
  | [.int _, .none], _, hz => cases hz
  | [.int _, .bool _], _, hz => cases hz
  | [.int _, .str _], _, hz => cases hz
  | [.int _, .list _], _, hz => cases hz
  | [.int _, .tuple _], _, hz => cases hz
  | [.int _, .dict _], _, hz => cases hz
theorem bi_max2 (hc : X.calm = true) : CallR X (.builtin "max") (rB c fun ds => match ds with | [a, b] => bi2 .max2 a b | _ => none) := by
  intro pins s σ H xs us Q I r h
  obtain ⟨F, ds, z, sb, hv, hz, q⟩ := h
  match ds, hv, hz with
  | [.int i, .int j], hv, hz =>
    cases hz
    obtain ⟨v, u, rfl, h1, h2⟩ := vw2 hv
    exact call_max2 hc pins s σ H _ us Q I r ⟨i, j, by rw [Dt.int_inv (h1.flat rfl), Dt.int_inv (h2.flat rfl)], q _ _ _ (Ext.refl sb) (.int _)⟩
  | [], _, hz => cases hz
  | [_], _, hz => cases hz
  | _ :: _ :: _ :: _, _, hz => cases hz
  | [.none, _], _, hz => cases hz
  | [.bool _, _], _, hz => cases hz
  | [.str _, _], _, hz => cases hz
  | [.list _, _], _, hz => cases hz
  | [.tuple _, _], _, hz => cases hz
  | [.dict _, _], _, hz => cases hz
  | [.int _, .none], _, hz => cases hz
  | [.int _, .bool _], _, hz => cases hz
  | [.int _, .str _], _, hz => cases hz
  | [.int _, .list _], _, hz => cases hz
  | [.int _, .tuple _], _, hz => cases hz
  | [.int _, .dict _], _, hz => cases hz
/-- a thing's type -/
def tyD : D → String
  | .none => "NoneType"
  | .bool _ => "bool"
  | .int _ => "int"
  | .str _ => "str"
  | .list _ => "list"
  | .tuple _ => "tuple"
  | .dict _ => "dict"
theorem kit_D {pins : List (Addr × Obj)} {s : Shared} {σ : L2.St} {H F : Hp} {x : V} {u : Value} {d : D} (I : Inv X pins σ H s) (sb : Sub F H) (rx : RelV x u) (hv : c.Vw F H x d) :
    ∃ P : Heap → Prop, PySem.W.KitX X.K u (.type (tyD d)) P ∧ P s.heap ∧ u ≠ .builtin "__main__.__loader__#opaque" := by
  cases d with
  | none => cases Dt.non_inv (hv.flat rfl); cases rx; exact ⟨_, PySem.W.kitx_none, True.intro, fun z => nomatch z⟩
  | bool b => cases Dt.bl_inv (hv.flat rfl); cases rx; exact ⟨_, PySem.W.kitx_bool, True.intro, fun z => nomatch z⟩
  | int i => cases Dt.int_inv (hv.flat rfl); obtain ⟨t, rfl⟩ := rx; exact ⟨_, PySem.W.kitx_int, True.intro, fun z => nomatch z⟩
  | str i => cases Dt.str_inv (hv.flat rfl); obtain ⟨t, rfl⟩ := rx; exact ⟨_, PySem.W.kitx_str, True.intro, fun z => nomatch z⟩
  | list ds =>
    obtain ⟨a, xs, rfl, sq, zz, da⟩ := hv.list sb
    cases rx
    obtain ⟨its, r1, p1, _⟩ := I.list (f.k ▸ sq)
    obtain ⟨o, n, e, hc, _⟩ := p1
    exact ⟨_, PySem.W.kitx_list, ⟨o, e, hc⟩, fun z => nomatch z⟩
  | tuple ds =>
    obtain ⟨a, xs, rfl, sq, zz, da⟩ := hv.tup sb
    cases rx
    obtain ⟨its, r1, ⟨o, e, hc, _⟩, _⟩ := I.tuple (f.k ▸ sq)
    exact ⟨_, PySem.W.kitx_tuple, ⟨o, e, hc⟩, fun z => nomatch z⟩
  | dict kvs =>
    obtain ⟨a, o, rfl, e, _, alt⟩ := hv.dict sb
    cases rx
    have hr := Inv.raw I e
    have ex : o.ExactDict := by
      rcases alt with ⟨_, a1, _⟩ | ⟨_, _, a1, _⟩
      · exact a1.ex
      · exact a1.ex
    exact ⟨_, PySem.W.kitx_dict, ⟨o, hr, ex.1⟩, fun z => nomatch z⟩
/-- isinstance(x, T) -/
theorem bi_isi (T : String) (g : D → Bool) (hT : ∀ d : D, kitB (tyD d) T = some (g d)) : CallR X (.builtin "isinstance") (fun vs H Q => ∃ F d v, Sub F H ∧ vs = [v, .ty T] ∧ c.Vw F H v d ∧ Q (.bl (g d)) H) := by
  intro pins s σ H xs us Q I r h
  obtain ⟨F, d, v, sb, rfl, hv, q⟩ := h
  obtain ⟨u1, u2, rfl, r1, r2⟩ := vals2 r
  cases r2
  obtain ⟨P, Z, p, hx⟩ := kit_D f I sb r1 hv
  exact PySem.W.kia_one Z I.kIn p (kit_ty (hT d)) hx fun tk => ⟨.bl _, H, I.tok tk, rfl, q⟩
theorem isi_tuple (d : D) : kitB (tyD d) "tuple" = some (isTupleD d) := by cases d <;> rfl
theorem isi_list (d : D) : kitB (tyD d) "list" = some (isListD d) := by cases d <;> rfl
theorem isi_str (d : D) : kitB (tyD d) "str" = some (isStrD d) := by cases d <;> rfl
theorem isi_int (d : D) : kitB (tyD d) "int" = some (isIntD d) := by cases d <;> rfl
theorem isi_bool (d : D) : kitB (tyD d) "bool" = some (isBoolD d) := by cases d <;> rfl
theorem bi_dict : CallR X (.type "dict") (rBO c (biD .dict)) := bi_oneO (fun _ _ => rfl) (by
  intro pins s σ H xs us Q I r h
  obtain ⟨F, d, z, v, sb, rfl, hv, hz, q⟩ := h
  cases d with
  | dict kvs =>
    obtain ⟨h1, rfl⟩ := ite_some (show (if kvs.all (fun kv => isKey1 kv.1) = true then some (PyData.dict kvs) else none) = some z from hz)
    obtain ⟨a, o, rfl, e, lo, alt⟩ := hv.dict sb
    obtain ⟨u, rfl, rx⟩ := vals1 r
    cases rx
    have hr := Inv.raw I e
    have one : ∃ ks, DK1 c.P c.w o ks ∧ DtK1 c.P c.w c.K F ks kvs := by
      rcases alt with z | ⟨x, xs, a1, a2⟩
      · exact z
      · exfalso
        cases a2 with
        | cons a b _ _ _ =>
          rw [List.all_cons, Bool.and_eq_true] at h1
          rename_i kd d ds
          cases kd <;> simp [isKey1, keyKind] at h1 b
    obtain ⟨ks, a1, a2⟩ := one
    have a1' : DK1 X.prog X.w o ks := by rw [← f.p, ← f.w]; exact a1
    obtain ⟨vs, rel, dd⟩ := a1'.of hr
    have zl : ks.length ≤ sizeLine := a1.big
    refine kt_call_dict lo dd (by rw [← rel.length]; exact zl) fun h' d' hs => ?_
    have hm : (s.heap.objs.size == sysModules) = false := beq_eq_false_iff_ne.mpr (Nat.ne_of_gt I.big)
    obtain ⟨o', e', x'⟩ := DK1.back rel zl d'
    have hn := I.fresh
    refine ⟨.ref s.heap.objs.size, upd H s.heap.objs.size (RawO s.heap.objs.size o'), I.laid (t' := s.toks) (fun b u e => (hs.2 b (Nat.ne_of_lt (Heap.lt_size e))).trans (Heap.get?_push_of_some _ e)) (Nat.le_refl _)
      ⟨e', ⟨_, e'⟩, fun h1 h2 p k => k _ p⟩, rfl, ?_⟩
    refine q _ _ _ (Ext.newO sb hn) ⟨_, rfl, hn, sb.no hn, o', upd_same, hm, .inl ⟨ks, ?_, a2⟩⟩
    rw [f.p, f.w]; exact x'
  | _ => cases hz)
end
end SH

set_option Elab.async false
set_option linter.all false
set_option maxRecDepth 100000
set_option maxHeartbeats 4000000
/-! Membership, subscripts, slices. -/
namespace SH
open PySem PySem.Spec PyProof.Rows L2
variable [Tb]
section
variable {c : Cn} {X : Cx}
theorem inD_list (d : D) (ys : List D) : inD d (.list ys) = if (okEq d && okEq (.list ys)) = true then some (inSeq d ys) else none := by cases d <;> rfl
theorem inD_tuple (d : D) (ys : List D) : inD d (.tuple ys) = if (okEq d && okEq (.tuple ys)) = true then some (inSeq d ys) else none := by cases d <;> rfl
theorem inD_dict (d : D) (ys : List (D × D)) : inD d (.dict ys) = if keyFits d ys = true then some (dget ys d).isSome else none := by cases d <;> rfl
theorem inD_str {d : D} {y : Str} {b : Bool} (h : inD d (.str y) = some b) : ∃ k, d = .str ⟨#[k]⟩ ∧ y.cps.toList.contains k = b := by
  cases d with
  | str x =>
    obtain ⟨cps⟩ := x
    obtain ⟨l⟩ := cps
    match l, h with
    | [k], h => exact ⟨k, rfl, by simpa [inD] using h⟩
    | [], h => simp [inD] at h
    | _ :: _ :: _, h => simp [inD] at h
  | _ => cases h
variable (f : Fits c X) (hu : X.A.units + 70 < cLine)
include f hu
theorem op_inR : OpR X (compareOp .In) (r2b c (cmpD .isin)) := by
  intro pins s σ H x y v u Q I rx ry h
  obtain ⟨F, d, e, b, sb, hx, hy, hz, q⟩ := h
  have hz : inD d e = some b := hz
  cases e with
  | list ys =>
    rw [inD_list] at hz
    obtain ⟨h1, rfl⟩ := ite_some hz
    rw [Bool.and_eq_true] at h1
    obtain ⟨⟨as, ra⟩, bs, rb⟩ := two_reads f I rx ry sb hx hy h1.1 h1.2
    have := okEq_depth h1.1
    exact SeqAt.in_list_reads rb ra (by simpa [PyData.canLay0] using okEq_lay h1.2) (okEq_lay h1.1) (by omega) ⟨.bl _, H, I, rfl, q⟩
  | tuple ys =>
    rw [inD_tuple] at hz
    obtain ⟨h1, rfl⟩ := ite_some hz
    rw [Bool.and_eq_true] at h1
    obtain ⟨⟨as, ra⟩, bs, rb⟩ := two_reads f I rx ry sb hx hy h1.1 h1.2
    have := okEq_depth h1.1
    exact SeqAt.in_tuple_reads rb ra (by simpa [PyData.canLay0] using okEq_lay h1.2) (okEq_lay h1.1) (by omega) ⟨.bl _, H, I, rfl, q⟩
  | dict kvs =>
    rw [inD_dict] at hz
    obtain ⟨h1, rfl⟩ := ite_some hz
    obtain ⟨a, o, rfl, e, lo, alt⟩ := hy.dict sb
    cases ry
    exact (dict_in f hu I sb e lo alt rx hx h1 q).1
  | str y' =>
    obtain ⟨k, rfl, rfl⟩ := inD_str hz
    refine op_in_sign pins s σ H x y v u Q I rx ry ⟨k, y', Dt.str_inv (hx.flat rfl), Dt.str_inv (hy.flat rfl), ?_⟩
    have e : decide (k ∈ y'.cps.toList) = y'.cps.toList.contains k := Bool.eq_iff_iff.mpr (by simp)
    rw [e]; exact q
  | _ => cases d <;> cases hz
theorem op_notInR : OpR X (compareOp .NotIn) (r2b c (cmpD .notin)) := by
  intro pins s σ H x y v u Q I rx ry h
  obtain ⟨F, d, e, b, sb, hx, hy, hz, q⟩ := h
  replace hz : (inD d e).map (!·) = some b := hz
  obtain ⟨b2, hz2, hb⟩ := Option.map_eq_some_iff.mp hz
  subst hb
  clear hz
  cases e with
  | list ys =>
    rw [inD_list] at hz2
    obtain ⟨h1, rfl⟩ := ite_some hz2
    rw [Bool.and_eq_true] at h1
    obtain ⟨⟨as, ra⟩, bs, rb⟩ := two_reads f I rx ry sb hx hy h1.1 h1.2
    have := okEq_depth h1.1
    exact SeqAt.notIn_list_reads rb ra (by simpa [PyData.canLay0] using okEq_lay h1.2) (okEq_lay h1.1) (by omega) ⟨.bl _, H, I, rfl, q⟩
  | tuple ys =>
    rw [inD_tuple] at hz2
    obtain ⟨h1, rfl⟩ := ite_some hz2
    rw [Bool.and_eq_true] at h1
    obtain ⟨⟨as, ra⟩, bs, rb⟩ := two_reads f I rx ry sb hx hy h1.1 h1.2
    have := okEq_depth h1.1
    exact SeqAt.notIn_tuple_reads rb ra (by simpa [PyData.canLay0] using okEq_lay h1.2) (okEq_lay h1.1) (by omega) ⟨.bl _, H, I, rfl, q⟩
  | dict kvs =>
    rw [inD_dict] at hz2
    obtain ⟨h1, rfl⟩ := ite_some hz2
    obtain ⟨a, o, rfl, e, lo, alt⟩ := hy.dict sb
    cases ry
    exact (dict_in (Q := fun _ _ => True) f hu I sb e lo alt rx hx h1 trivial).2 Q q
  | str y' =>
    obtain ⟨k, rfl, rfl⟩ := inD_str hz2
    refine op_notIn_sign pins s σ H x y v u Q I rx ry ⟨k, y', Dt.str_inv (hx.flat rfl), Dt.str_inv (hy.flat rfl), ?_⟩
    have e : decide (k ∈ y'.cps.toList) = y'.cps.toList.contains k := Bool.eq_iff_iff.mpr (by simp)
    rw [e]; exact q
  | _ => cases d <;> cases hz2
omit f hu
theorem ixN_eq (n : Nat) (i : Int) : L2.ixN n i = SH.ixN n i := by
  unfold L2.ixN SH.ixN
  by_cases h : 0 ≤ i
  · rw [if_pos h, if_pos h]
  · rw [if_neg h, if_neg h]
    by_cases h2 : -i ≤ n
    · rw [if_pos h2, if_pos (by omega)]; congr 1; omega
    · rw [if_neg h2, if_neg (by omega)]
theorem atI_data {F : Hp} {xs : List V} {ds : List D} {i : Int} {d : D} (da : c.DtAll F xs ds) (h : ((SH.ixN ds.length i).bind fun j => ds[j]?) = some d) : ∃ v, atI xs i = some v ∧ c.Dt F v d := by
  obtain ⟨j, h1, h2⟩ := Option.bind_eq_some_iff.mp h
  obtain ⟨v, e, q⟩ := da.atD h2
  refine ⟨v, ?_, q⟩
  unfold atI
  rw [ixN_eq, da.length, h1]
  exact e
include f hu
theorem ix_any : IxR X (r2 c ixD) := by
  intro value slice pins s σ H x y v u Q I rx ry h hs
  obtain ⟨F, d, e, z, sb, hx, hy, hz, q⟩ := h
  cases d with
  | list ds =>
    cases e with
    | int i =>
      obtain ⟨a, xs, rfl, sq, zz, da⟩ := hx.list sb
      obtain ⟨w, e1, dw⟩ := atI_data da hz
      exact ix_list value slice pins s σ H _ y v u Q I rx ry ⟨a, xs, i, w, rfl, Dt.int_inv (hy.flat rfl), f.k ▸ sq, e1, q _ _ _ (Ext.refl sb) dw⟩ hs
    | _ => cases hz
  | tuple ds =>
    cases e with
    | int i =>
      obtain ⟨a, xs, rfl, sq, zz, da⟩ := hx.tup sb
      obtain ⟨w, e1, dw⟩ := atI_data da hz
      exact ix_tup value slice pins s σ H _ y v u Q I rx ry ⟨a, xs, i, w, rfl, Dt.int_inv (hy.flat rfl), f.k ▸ sq, e1, q _ _ _ (Ext.refl sb) dw⟩ hs
    | _ => cases hz
  | dict kvs =>
    have hz : (if keyFits e kvs = true then dget kvs e else none) = some z := by cases e <;> exact hz
    by_cases h1 : keyFits e kvs = true
    · rw [if_pos h1] at hz
      obtain ⟨a, o, rfl, e1, lo, alt⟩ := hx.dict sb
      cases rx
      obtain ⟨ht, hg⟩ := dict_ix f hu I sb e1 alt ry hy h1 hz fun v dv => q v H F (Ext.refl sb) dv
      exact tail_any ht slot_dict_getitem.lookup hg hs
    · rw [if_neg h1] at hz; cases hz
  | _ => cases e <;> cases hz
theorem sx_ix {W : WX} {pos : Pos} {l r : Expr} {a b : E} (ha : PE X l (tV c W a)) (hb : PE X r (tV c W b)) (hs : PlainIx r) : PE X (.Subscript l r pos) (tE c W (.ix a b)) :=
  (pe_ix (ix_any f hu) ha hb hs).mono fun σ H Q ⟨env, F, r, q⟩ => two r q
omit hu
omit f in
theorem DtAll.drop {P : Program} {w : World} {K : PySem.W.Frag} {F : Hp} : ∀ {xs : List V} {ds : List D}, DtAll P w K F xs ds → ∀ n, DtAll P w K F (xs.drop n) (ds.drop n)
  | _, _, .nil, n => by simp; exact .nil
  | _, _, .cons h t, 0 => .cons h t
  | _, _, .cons h t, n + 1 => by simpa using DtAll.drop t n
omit f in
theorem DtAll.take {P : Program} {w : World} {K : PySem.W.Frag} {F : Hp} : ∀ {xs : List V} {ds : List D}, DtAll P w K F xs ds → ∀ n, DtAll P w K F (xs.take n) (ds.take n)
  | _, _, .nil, n => by simp; exact .nil
  | _, _, .cons h t, 0 => .nil
  | _, _, .cons h t, n + 1 => by simpa using .cons h (DtAll.take t n)
omit f in
theorem DtAll.reverse {P : Program} {w : World} {K : PySem.W.Frag} {F : Hp} : ∀ {xs : List V} {ds : List D}, DtAll P w K F xs ds → DtAll P w K F xs.reverse ds.reverse
  | _, _, .nil => .nil
  | _, _, .cons h t => by simpa using (DtAll.reverse t).append (.cons h .nil)
/-- a part of a slice, by the evaluator -/
def tPo (c : Cn) (W : WX) (m : E) : TO := fun σ H Q => ∃ env F, c.RelE env σ H F ∧ Wants ((evE c.C c.G m env).bind fun d => R.of (partO d)) W c.cl σ H fun o => ∀ H' F', Ext H F H' F' → Q o H'
omit f in
theorem spo_none {W : WX} : PO X none (tPo c W (.lit .none)) := ⟨fun pins s σ H Q I h => po_none.run pins s σ H Q I (by obtain ⟨env, F, r, q⟩ := h; exact q _ _ (Ext.refl r.s))⟩
omit f in
theorem spo_some {W : WX} {e : Expr} {m : E} (h : PE X e (tE c W m)) : PO X (some e) (tPo c W m) := by
  refine ⟨fun pins s σ H Q I hw => ?_⟩
  obtain ⟨env, F, r, q⟩ := hw
  rw [evalPart_some]
  refine thn (h.run pins s σ H (fun v H' => ∃ o, (v = .non ∧ o = none ∨ ∃ i, v = .int i ∧ o = some i) ∧ Q o H') I ⟨env, F, r, q.bind.imp fun d _ k v H' F' x y => ?_⟩) fun u s1 ⟨x, H1, I1, r1, o, q1, q2⟩ => ?_
  · obtain ⟨o, ho, k⟩ := k.of
    cases d with
    | none => cases ho; exact ⟨none, .inl ⟨Dt.non_inv y, rfl⟩, k _ _ x⟩
    | int i => cases ho; exact ⟨some i, .inr ⟨i, Dt.int_inv y, rfl⟩, k _ _ x⟩
    | _ => cases ho
  · rcases q1 with ⟨rfl, rfl⟩ | ⟨i, rfl, rfl⟩
    · cases r1; exact ⟨none, H1, I1, .none, q2⟩
    · obtain ⟨t, rfl⟩ := r1; exact ⟨some i, H1, I1, .int i t, q2⟩
/-- a slice by data -/
def rSlD (c : Cn) : V → Option Int → Option Int → Hp → VK → Prop := fun x lo hi H Q => ∃ F d r, Sub F H ∧ c.Vw F H x d ∧ slD lo hi d = some r ∧ ∀ v H' F', Ext H F H' F' → c.Dt F' v r → Q v H'
omit f in
theorem cut_data {F : Hp} {xs : List V} {ds : List D} {lo hi : Option Int} (da : c.DtAll F xs ds) : c.DtAll F (cutV xs lo hi) (slL ds lo hi) := by
  unfold cutV slL
  rw [da.length]
  exact (da.drop _).take _
theorem sl_any : SlR X (rSlD c) := by
  intro pins s σ H x v vl vu lo hi sl Q I rx hs pl pu h
  obtain ⟨F, d, r, sb, hv, hz, q⟩ := h
  cases d with
  | list ds =>
    cases hz
    obtain ⟨a, xs, rfl, sq, zz, da⟩ := hv.list sb
    exact sl_list pins s σ H _ v vl vu lo hi sl Q I rx hs pl pu ⟨a, xs, rfl, f.k ▸ sq, fun p hp => q _ _ _ (Ext.new sb hp) (.lst (.inl (.inl upd_same)) (Nat.le_trans (cutV_length _ _ _) zz) ((cut_data da).mono (Sub.self (sb.no hp))))⟩
  | tuple ds =>
    cases hz
    have hv0 := hv
    obtain ⟨a, xs, rfl, sq, zz, da⟩ := hv.tup sb
    cases rx
    obtain ⟨its, r, ht, hzz⟩ := I.tuple (f.k ▸ sq)
    have hlen : its.toArray.size = xs.length := by rw [List.size_toArray]; exact r.length.symm
    refine ⟨"tuple", _, PyProof.Rows.slot_tuple_getitem.lookup, ht.typeIs, ?_⟩
    by_cases hw : HT.sIx xs.length 0 lo = 0 ∧ HT.sIx xs.length xs.length hi = xs.length
    · have e : slL ds lo hi = ds := by
        rw [da.length] at hw
        have h1 : slB ds.length 0 lo = 0 := hw.1
        have h2 : slB ds.length ds.length hi = ds.length := hw.2
        unfold slL; rw [h1, h2]; simp
      rw [e] at q
      exact getItem_tuple_whole ht hs pl pu (by rw [hlen]; exact hw) ⟨.ref a, H, I, rfl, q _ _ _ (Ext.refl sb) (hv0.elim id fun ⟨_, _, _, o⟩ => o.elim)⟩
    · refine HT.getItem_tuple_cut ht hs pl pu (by rw [hlen]; exact hw) ?_ (by rw [hlen]; exact zz)
      rw [hlen]
      have hl2 := Nat.le_trans (cutV_length xs lo hi) zz
      obtain ⟨p, hp, rfl, I2⟩ := I.tnew (h' := s.heap) (t' := s.toks) (fun _ _ e => e) hl2 ((r.drop (HT.sIx xs.length 0 lo)).take (HT.sIx xs.length xs.length hi - HT.sIx xs.length 0 lo))
      exact ⟨.ref _, _, I2, rfl, q _ _ _ (Ext.new sb hp) (.tup (SqP.new upd_same) hl2 ((cut_data da).mono (Sub.self (sb.no hp))))⟩
  | _ => cases hz
theorem sx_sl {W : WX} {pos p2 : Pos} {l : Expr} {lo hi : Option Expr} {a m1 m2 : E} (ha : PE X l (tV c W a)) (h1 : PO X lo (tPo c W m1)) (h2 : PO X hi (tPo c W m2)) : PE X (.Subscript l (.Slice lo hi none p2) pos) (tE c W (.sl a m1 m2)) :=
  (pe_slice (sl_any f) ha h1 h2).mono fun σ H Q ⟨env, F, r, h⟩ => by
    refine ⟨env, F, r, h.bind.imp fun d _ h1 v H1 F1 x1 y1 => ⟨env, F1, r.ext x1, (h1.sub x1.h).bind.imp fun o1 _ h2 H2 F2 x2 => ⟨env, F2, (r.ext x1).ext x2, (h2.sub x2.h).bind.imp fun o2 _ h3 H3 F3 x3 => ?_⟩⟩⟩
    obtain ⟨z, ez, k⟩ := h3.of
    exact ⟨F3, d, z, x3.s, Vw.ext x3 (Vw.ext x2 y1), ez, fun v H' F' x y => k v H' F' (((x1.trans x2).trans x3).trans x) y⟩
end
end SH

set_option Elab.async false
set_option linter.all false
set_option maxRecDepth 100000
set_option maxHeartbeats 4000000
/-! A slice with a step. -/
namespace SH
open PySem PySem.Spec PyProof.Rows L2
variable [Tb]
section
variable {prog : Program} {w : World} {A : Around} {E : Value → Shared → Prop} {s : Shared}
theorem applied_step {sl : Addr} {vl vu vs : Value} {k : Int} {n : Nat} {Q : Int × Int × Nat → Shared → Prop} (hs : s.heap.IsSliceOf sl vl vu vs) (pl : IsPart vl none) (pu : IsPart vu none) (ps : IsPart vs (some k)) (hk : k ≠ 0)
    (h : Q ((Builtin.Slice.sliceAdjust none none k n).1, k, Builtin.Slice.slicePlaces (Builtin.Slice.sliceAdjust none none k n).1 (Builtin.Slice.sliceAdjust none none k n).2 k) s) :
    wpAny (model prog w) A (Builtin.Slice.sliceApplied (.ref sl) (pure (n : Int))) Q E s := by
  obtain ⟨os, hos, hcs, hds⟩ := id hs
  unfold Builtin.Slice.sliceApplied Builtin.Slice.sliceFields
  refine wpAny_bind (wpAny_bind (wpAny_field hos hds (x := vl) rfl (wpAny_bind (wpAny_field hos hds (x := vu) rfl (wpAny_bind (wpAny_field hos hds (x := vs) rfl (wpAny_pure ?_)))))))
  refine wpAny_bind (HT.slicePart_ ps ?_)
  show wpAny _ _ (if (k == 0) = true then _ else _) _ _ s
  rw [if_neg (by simpa using hk)]
  refine wpAny_bind (HT.slicePart_ pl (wpAny_bind (HT.slicePart_ pu (wpAny_bind (wpAny_pure ?_)))))
  exact wpAny_pure h
theorem getItem_tuple_step {t sl : Addr} {items : Array Value} {vl vu vs : Value} {k : Int} {Q : Value → Shared → Prop} (ht : IsTup s.heap t items) (hs : s.heap.IsSliceOf sl vl vu vs) (pl : IsPart vl none) (pu : IsPart vu none) (ps : IsPart vs (some k)) (hk : k ≠ 0) (h1 : k ≠ 1)
    (h : Q (.ref s.heap.objs.size) { s with heap := s.heap.push { cls := .type "tuple", data := .seq (stpL items.toList k).toArray } })
    (hsz : (stpL items.toList k).length ≤ sizeLine) : wpAny (model prog w) A (getItem (.ref t) (.ref sl)) Q E s := by
  obtain ⟨os, hos, hcs, hds⟩ := id hs
  have hTs : s.TypeIs (.ref sl) "slice" := ⟨os, hos, hcs⟩
  unfold getItem
  try with_reducible refine wpAny_holding ?_
  first | refine wpAny_bind (wpAny_pure ?_) | skip
  refine wpAny_bind (wpAny_sequenceKey ht.typeIs (by decide) ?_)
  refine wpAny_bind (wpAny_callSpecial?_slot (name := Str.ofString "__getitem__") ht.typeIs PyProof.Rows.slot_tuple_getitem
    (wpAny_call_entry PyProof.Rows.slot_tuple_getitem ht.typeIs entry_tuple_getitem ?_ (args_tuple_getitem _ _)))
  show wpAny _ _ (Builtin.Tuple.tupleItemsOf (.ref t) >>= _) _ _ s
  refine wpAny_bind (tupleItemsOf_ ht ?_)
  refine wpAny_bind (wpAny_typeOf hTs ?_)
  rw [if_pos (by decide)]
  refine wpAny_bind (applied_step (n := items.size) hs pl pu ps hk ?_)
  have hno : ∀ (a : Int) (b : Bool), ¬ ((a == 0 && k == 1 && b) = true) := by
    intro a b q
    rw [Bool.and_eq_true, Bool.and_eq_true] at q
    exact h1 (eq_of_beq q.1.2)
  have e : (stpL items.toList k) = (List.range (Builtin.Slice.slicePlaces (Builtin.Slice.sliceAdjust none none k items.size).1 (Builtin.Slice.sliceAdjust none none k items.size).2 k)).filterMap fun (m : Nat) => items[((Builtin.Slice.sliceAdjust none none k items.size).1 + (m : Int) * k).toNat]? := by
    unfold stpL
    simp only [Array.length_toList, Array.getElem?_toList]
  have htake : sizeOk (.seq (stpL items.toList k).toArray) := by
    show (stpL items.toList k).toArray.size ≤ sizeLine
    rw [List.size_toArray]; exact hsz
  rw [e] at h htake
  show wpAny _ _ (if ((Builtin.Slice.sliceAdjust none none k items.size).1 == 0 && k == 1 && _) = true then _ else _) _ _ s
  rw [if_neg (hno _ _)]
  first
    | exact wpAny_bind (m := Builtin.Tuple.tupleExact _) (wpAny_newObj_type (wpAny_pure ⟨_, rfl, wpAny_pure h⟩) htake)
    | exact wpAny_bind (m := Builtin.Tuple.tupleExact _) (wpAny_newObj_type (wpAny_bind (wpAny_pure (wpAny_pure ⟨_, rfl, wpAny_pure h⟩))) htake)
    | exact wpAny_bind (wpAny_bind (m := Builtin.Tuple.tupleExact _) (wpAny_newObj_type (wpAny_pure (wpAny_pure ⟨_, rfl, wpAny_pure h⟩)) htake))
    | exact wpAny_bind (wpAny_bind (m := Builtin.Tuple.tupleExact _) (wpAny_newObj_type (wpAny_pure ⟨_, rfl, wpAny_pure h⟩) htake))
end
section
variable {c : Cn} {X : Cx} (f : Fits c X)
theorem filterMap_dt {F : Hp} {xs : List V} {ds : List D} (da : c.DtAll F xs ds) (g : Nat → Nat) : ∀ l : List Nat, c.DtAll F (l.filterMap fun m => xs[g m]?) (l.filterMap fun m => ds[g m]?)
  | [] => .nil
  | m :: l => by
    rcases da.get (g m) with ⟨v, d, e1, e2, q⟩ | ⟨e1, e2⟩
    · simp only [List.filterMap_cons, e1, e2]; exact .cons q (filterMap_dt da g l)
    · simp only [List.filterMap_cons, e1, e2]; exact filterMap_dt da g l
theorem stpL_dt {F : Hp} {xs : List V} {ds : List D} (da : c.DtAll F xs ds) (k : Int) : c.DtAll F (stpL xs k) (stpL ds k) := by
  unfold stpL
  rw [da.length]
  exact filterMap_dt da (fun m => ((Builtin.Slice.sliceAdjust none none k ds.length).1 + (m : Int) * k).toNat) _
theorem filterMap_vals {xs : List V} {us : List Value} (r : Vals xs us) (g : Nat → Nat) : ∀ l : List Nat, Vals (l.filterMap fun m => xs[g m]?) (l.filterMap fun m => us[g m]?)
  | [] => .nil
  | m :: l => by
    cases e1 : xs[g m]? with
    | some v =>
      obtain ⟨u, e2, q⟩ := r.get e1
      simp only [List.filterMap_cons, e1, e2]; exact .cons q (filterMap_vals r g l)
    | none =>
      have e2 : us[g m]? = none := by
        rw [List.getElem?_eq_none_iff] at e1 ⊢
        rw [← r.length]; exact e1
      simp only [List.filterMap_cons, e1, e2]; exact filterMap_vals r g l
theorem stpL_vals {xs : List V} {us : List Value} (r : Vals xs us) (k : Int) : Vals (stpL xs k) (stpL us k) := by
  unfold stpL
  rw [r.length]
  exact filterMap_vals r (fun m => ((Builtin.Slice.sliceAdjust none none k us.length).1 + (m : Int) * k).toNat) _
include f
theorem sx_stp {W : WX} {e st : Expr} {a : E} {k : Int} {p3 pos : Pos} (he : PE X e (tV c W a)) (hst : PO X (some st) (fun _ H Q => Q (some k) H)) : PE X (.Subscript e (.Slice none none (some st) p3) pos) (tE c W (.stp a k)) := by
  refine ⟨fun pins s σ H Q I h => ?_⟩
  obtain ⟨env, F0, r, h⟩ := h
  refine Subscript_ (thn (he.run pins s σ H (fun v H' => ∃ F d z, Ext H F0 H' F ∧ c.Vw F H' v d ∧ stpD k d = some z ∧ ∀ v H2 F2, Ext H' F H2 F2 → c.Dt F2 v z → Q v H2) I
    ⟨env, F0, r, h.bind.imp fun d _ k v H' F' x y => ?_⟩) fun v s1 ⟨x, H1, I1, r1, q1⟩ => ?_)
  · obtain ⟨z, ez, k⟩ := k.of
    exact ⟨F', d, z, x, y, ez, fun v H2 F2 x2 y2 => k v H2 F2 (x.trans x2) y2⟩
  obtain ⟨F, d, z, x0, hv, hz, q⟩ := q1
  have sb := x0.s
  refine wpAny_Slice (thn (po_none.run pins s1 σ H1 (fun o H2 => o = none ∧ H2 = H1) I1 ⟨rfl, rfl⟩) fun vl s2 ⟨l, H2, I2, pl, el, e2⟩ => ?_)
  subst el e2
  refine thn (po_none.run pins s2 σ H2 (fun o H3 => o = none ∧ H3 = H2) I2 ⟨rfl, rfl⟩) fun vu s3 ⟨u, H3, I3, pu, eu, e3⟩ => ?_
  subst eu e3
  refine thn (hst.run pins s3 σ H3 (fun o H4 => o = some k ∧ H4 = H3) I3 ⟨rfl, rfl⟩) fun vs s4 ⟨o, H4, I4, ps, eo, e4⟩ => ?_
  subst eo e4
  have I5 : Inv X pins σ H4 { s4 with heap := s4.heap.push { cls := .type "slice", data := .fields #[vl, vu, vs] } } := I4.kept (t' := s4.toks) fun b ob q => Heap.get?_push_of_some _ q
  show wpAny (model X.prog X.w) X.A (subscriptTail e (.Slice none none (some st) p3) v (.ref s4.heap.objs.size)) (EP X pins σ Q) X.xe { s4 with heap := s4.heap.push { cls := .type "slice", data := .fields #[vl, vu, vs] } }
  have hsub : subscripted (.Slice none none (some st) p3) false v (.ref s4.heap.objs.size) = operate [v, .ref s4.heap.objs.size] (getItem v (.ref s4.heap.objs.size)) := by with_unfolding_all rfl
  cases d with
  | list ds =>
    obtain ⟨a, xs, rfl, sq, zz, da⟩ := hv.list sb
    cases r1
    have hz : (if k = -1 then some (PyData.list ds.reverse) else none) = some z := hz
    by_cases hk : k = -1
    · subst hk
      rw [if_pos rfl] at hz
      cases hz
      obtain ⟨its, r, ht, hz⟩ := I5.list (f.k ▸ sq)
      have hlen := r.length
      refine tail_any ht.isList.typeIs (PySem.slot_list_getitem.lookup) ?_ hsub
      refine wpAny_getItem_list_slice ht.isList (Heap.IsSliceOf.new _ vl vu vs) pl pu ps (by decide) ?_ (by rw [List.size_toArray]; omega)
      rw [PySem.W.krv_pick]
      have hp := I5.hok.fresh (Nat.le_refl _)
      refine ⟨.ref _, _, I5.laid (t' := s4.toks) (o := .lst xs.reverse) (fun b ob q => Heap.get?_push_of_some _ q) (Nat.le_refl _) ?_, rfl, q _ _ _ (Ext.new sb hp) (.lst (.inl (.inl upd_same)) (by rw [List.length_reverse]; exact zz) (da.reverse.mono (Sub.self (sb.no hp))))⟩
      exact ⟨by rw [List.length_reverse]; exact hz, _, 0, r.reverse, Heap.get?_push_size _ rfl⟩
    · rw [if_neg hk] at hz; cases hz
  | tuple ds =>
    obtain ⟨a, xs, rfl, sq, zz, da⟩ := hv.tup sb
    cases r1
    have hz : (if (k = 0 || k = 1 || decide (lim < (stpL ds k).length)) = true then none else some (PyData.tuple (stpL ds k))) = some z := hz
    cases hb : (decide (k = 0) || decide (k = 1) || decide (lim < (stpL ds k).length)) with
    | true => rw [hb] at hz; cases hz
    | false =>
      rw [hb] at hz
      cases hz
      simp only [Bool.or_eq_false_iff, decide_eq_false_iff_not] at hb
      obtain ⟨⟨h0, h1⟩, h2⟩ := hb
      obtain ⟨its, r, ht, hz⟩ := I5.tuple (f.k ▸ sq)
      have dz := stpL_dt da k
      have rz := stpL_vals r k
      have hl : (stpL xs k).length ≤ sizeLine := by rw [dz.length, ← lim_eq]; omega
      refine tail_any ht.typeIs PyProof.Rows.slot_tuple_getitem.lookup ?_ hsub
      refine getItem_tuple_step ht (Heap.IsSliceOf.new _ vl vu vs) pl pu ps h0 h1 ?_ (by show (stpL its k).length ≤ sizeLine; rw [← rz.length]; exact hl)
      obtain ⟨p, hp, e, I6⟩ := I5.tnew (t' := s4.toks) (fun _ _ e => e) hl rz
      subst e
      exact ⟨.ref _, _, I6, rfl, q _ _ _ (Ext.new sb hp) (.tup (SqP.new upd_same) hl (dz.mono (Sub.self (sb.no hp))))⟩
  | _ => cases hz
end
end SH

set_option Elab.async false
set_option linter.all false
set_option maxRecDepth 100000
set_option maxHeartbeats 4000000
/-! Methods of built-in types, by values. -/
namespace SH
open PySem PySem.Spec PyProof.Rows L2
variable [Tb]
section
variable {c : Cn} {X : Cx} {W : WX}
theorem Vw.listTy {pins : List (Addr × Obj)} {s : Shared} {σ : L2.St} {H F : Hp} {x : V} {v : Value} {ds : List D} (f : Fits c X) (I : Inv X pins σ H s) (sb : Sub F H) (rx : RelV x v) (hv : c.Vw F H x (.list ds)) :
    s.TypeIs v "list" ∧ ∀ a, v = .ref a → ∃ o, s.heap.get? a = some o ∧ o.dict = none := by
  obtain ⟨a, xs, rfl, sq, zz, da⟩ := hv.list sb
  cases rx
  obtain ⟨its, _, pl, _⟩ := I.list (f.k ▸ sq)
  refine ⟨pl.isList.typeIs, fun a e => ?_⟩
  cases e
  obtain ⟨o, n, e, c, hd, _⟩ := pl
  exact ⟨o, e, hd⟩
theorem Vw.tupTy {pins : List (Addr × Obj)} {s : Shared} {σ : L2.St} {H F : Hp} {x : V} {v : Value} {ds : List D} (f : Fits c X) (I : Inv X pins σ H s) (sb : Sub F H) (rx : RelV x v) (hv : c.Vw F H x (.tuple ds)) :
    s.TypeIs v "tuple" ∧ ∀ a, v = .ref a → ∃ o, s.heap.get? a = some o ∧ o.dict = none := by
  obtain ⟨a, xs, rfl, sq, zz, da⟩ := hv.tup sb
  obtain ⟨a2, e2, pn⟩ := hv.pn
  cases e2
  cases rx
  obtain ⟨its, _, pl, _⟩ := I.tuple (f.k ▸ sq)
  refine ⟨pl.typeIs, fun a e => ?_⟩
  cases e
  rcases pn with ⟨o, u, e, d⟩ | ⟨o, e, d⟩
  · exact ⟨o, (I.hok _ _ (sb _ _ e)).1, d⟩
  · exact ⟨o, I.kIn _ o (f.k ▸ e), d⟩
theorem Vw.dictTy {pins : List (Addr × Obj)} {s : Shared} {σ : L2.St} {H F : Hp} {x : V} {v : Value} {ds : List (D × D)} (f : Fits c X) (I : Inv X pins σ H s) (sb : Sub F H) (rx : RelV x v) (hv : c.Vw F H x (.dict ds)) :
    s.TypeIs v "dict" ∧ ∀ a, v = .ref a → ∃ o, s.heap.get? a = some o ∧ o.dict = none := by
  obtain ⟨a, o, rfl, e, lo, alt⟩ := hv.dict sb
  cases rx
  have hr := Inv.raw I e
  have ex : o.ExactDict := by
    rcases alt with ⟨_, a1, _⟩ | ⟨_, _, a1, _⟩
    · exact a1.ex
    · exact a1.ex
  refine ⟨⟨o, hr, ex.1⟩, fun a e => ?_⟩
  cases e
  exact ⟨o, hr, ex.2.1⟩
/-- a method's call by data: the receiver's data, the arguments' -/
def rM (c : Cn) (g : D → List D → Option D) : V → List V → Hp → VK → Prop := fun x vs H Q => ∃ F d ds r, Sub F H ∧ c.Vw F H x d ∧ VwAll c F H vs ds ∧ g d ds = some r ∧ ∀ v H' F', Ext H F H' F' → c.Dt F' v r → Q v H'
/-- the method that an object of these data has -/
structure MtOk (c : Cn) (X : Cx) (name : Str) (m : Mt) (d : D) : Prop where
  run : ∀ {pins : List (Addr × Obj)} {s : Shared} {σ : L2.St} {H F : Hp} {x : V} {v : Value}, Inv X pins σ H s → Sub F H → RelV x v → c.Vw F H x d →
    ∃ T id, PlainAttrs T ∧ Slot T name id ∧ typeOf (.builtin id) = pure (.type "method_descriptor") ∧ s.TypeIs v T ∧ (∀ a, v = .ref a → ∃ o, s.heap.get? a = some o ∧ o.dict = none) ∧ MtR X id (fun x vs H Q => ∃ F ds r, Sub F H ∧ c.Vw F H x d ∧ VwAll c F H vs ds ∧ meD m d ds = some r ∧ ∀ v H' F', Ext H F H' F' → c.Dt F' v r → Q v H')
theorem sx_me {m : Mt} {name : Str} {o e : Expr} {es : List Expr} {a : E} {ms : Es} {apos cpos : Pos} (hm : ∀ d, meOk m d = true → MtOk c X name m d) (ho : PE X o (tV c W a)) (ha : PA X (e :: es) (tVs c W ms))
    (hbase : attributeBase o name X.env (eval o X.env) = eval o X.env)
    (hfew : ((backTo cpos (starEach (e :: es) X.env)).all (fun x => !x.1) && (backToKw cpos (keywordEach [] X.env)).all (fun x => x.1.isSome)
      && decide ((e :: es).length + ([] : List Keyword).length + (if ([] : List Keyword).isEmpty then 0 else 1) < 30)) = true)
    (hline : (apos.endLine == cpos.line) = true) (hs : starEach (e :: es) X.env = (false, eval e X.env) :: starEach es X.env) (hplain : (backTo cpos (starEach es X.env)).any (·.1) = false) :
    PE X (.Call (.Attribute o name apos) (e :: es) [] cpos) (tE c W (.me m a ms)) := by
  refine ⟨fun pins s σ H Q I h => ?_⟩
  obtain ⟨env, F, r, h⟩ := h
  refine wpAny_Call_method_late hbase hfew hline rfl (thn (ho.run pins s σ H (fun v H1 => ∃ F1 d, Ext H F H1 F1 ∧ c.Vw F1 H1 v d ∧ meOk m d = true ∧ Wants (evEs c.C c.G ms env) W c.cl σ H1 fun ds => ∃ z, meD m d ds = some z ∧ ∀ v H' F', Ext H1 F1 H' F' → c.Dt F' v z → Q v H') I
    ⟨env, F, r, h.bind.imp fun d _ k v H' F' x y => ?_⟩) fun v s1 ⟨x, H1, I1, r1, F1, d, x1, hv, ok, q1⟩ => ?_)
  · by_cases hk : meOk m d = true
    · rw [if_pos hk] at k
      refine ⟨F', d, x, y, hk, (k.sub x.h).bind.imp fun ds _ k2 => ?_⟩
      obtain ⟨z, ez, k3⟩ := k2.of
      exact ⟨z, ez, fun v H2 F2 x2 y2 => k3 v H2 F2 (x.trans x2) y2⟩
    · rw [if_neg hk] at k; exact k.elim
  · obtain ⟨T, id, pa, slot, hty, h1, h2, hmt⟩ := (hm d ok).run I1 x1.s r1 hv
    refine ⟨T, id, pa, slot, hty, h1, h2, ?_⟩
    have hA := ha.run cpos pins s1 σ H1 (fun vs H2 => ∃ F2 ds z, Ext H1 F1 H2 F2 ∧ VwAll c F2 H2 vs ds ∧ meD m d ds = some z ∧ ∀ v H' F', Ext H1 F1 H' F' → c.Dt F' v z → Q v H') I1
      ⟨env, F1, r.ext x1, q1.imp fun ds _ k vs H2 F2 x2 y2 => let ⟨z, ez, k2⟩ := k; ⟨F2, ds, z, x2, y2, ez, k2⟩⟩
    rw [hs] at hA ⊢
    refine Calls.callWith_builtin (by show (false || (backTo cpos (starEach es X.env)).any (·.1)) = false; rw [hplain] <;> rfl) (Calls.evalArgs_plain ?_)
    exact thn hA fun us s2 ⟨vs, H2, I2, r2, F2, ds, z, x2, y2, ez, k⟩ => hmt pins s2 σ H2 x vs v us Q I2 r1 r2 ⟨F2, ds, z, x2.s, Vw.ext x2 hv, y2, ez, fun v H' F' x3 y3 => k v H' F' (x2.trans x3) y3⟩
theorem firstAt_some {x : D} : ∀ {ys : List D} {n k : Nat}, firstAt x ys n = some k → n ≤ k ∧ ∃ h : k - n < ys.length, PyData.eqv ys[k - n] x = true ∧ ∀ m (hm : m < ys.length), m < k - n → PyData.eqv ys[m] x = false
  | [], n, k, h => by simp [firstAt] at h
  | y :: ys, n, k, h => by
    simp only [firstAt] at h
    cases e : PyData.eqv y x with
    | true =>
      rw [if_pos e] at h
      cases h
      refine ⟨Nat.le_refl _, by simp, by simpa using e, fun m hm h2 => by omega⟩
    | false =>
      rw [if_neg (by rw [e]; decide)] at h
      obtain ⟨h1, h2, h3, h4⟩ := firstAt_some h
      have e1 : k - n = (k - (n + 1)) + 1 := by omega
      refine ⟨by omega, by simp; omega, by simpa [e1] using h3, fun m hm h5 => ?_⟩
      cases m with
      | zero => simpa using e
      | succ m => simpa using h4 m (by simpa using hm) (by omega)
variable (f : Fits c X) (hu : X.A.units + 70 < cLine)
include f hu
/-- the items of a sequence against a thing -/
theorem items_eq {pins : List (Addr × Obj)} {s : Shared} {σ : L2.St} {H F : Hp} {xs : List V} {its : List Value} {ys : List D} {y : V} {u : Value} {d : D} (I : Inv X pins σ H s) (sb : Sub F H) (da : c.DtAll F xs ys) (rv : Vals xs its)
    (ry : RelV y u) (hy : c.Vw F H y d) (h1 : okEq d = true) (h2 : PyData.canLayAll0 ys = true) : ∀ j (hj : j < its.toArray.size), SeqAt.EqAt X.A.in1 s its.toArray[j] u (match ys[j]? with | some z => PyData.eqv z d | none => false) := by
  intro j hj
  obtain ⟨bs, rb⟩ := Dp.reads I d y u (f.k ▸ hy.dp sb (okEq_lay h1)) ry
  have hxs : DpAll X.K H xs ys := f.k ▸ da.dp sb h2
  obtain ⟨as, ra⟩ := Dp.readsAll I ys _ its hxs rv
  have hj2 : j < its.length := by simpa using hj
  have hl : its.length = ys.length := SeqAt.ReadsAll.length ys its as ra
  have hmap : its.map (SeqAt.readOf s.heap) = ys := SeqAt.readsAll_map ys its as h2 ra
  have hz : ys[j]? = some (SeqAt.readOf s.heap its[j]) := by
    rw [← hmap, List.getElem?_map, List.getElem?_eq_getElem hj2]; rfl
  rw [hz]
  have := okEq_depth h1
  have hE := SeqAt.items_eqAt (A := X.A) (vs := its.toArray) (show ReadsAll s.heap its.toArray.toList ys as from ra) rb h2 (okEq_lay h1) (by omega) its.toArray[j] (by simp)
  simpa using hE
theorem mt_index {d : D} (h : meOk .index d = true) : MtOk c X "index" .index d := by
  refine ⟨fun {pins s σ H F x v} I sb rx hv => ?_⟩
  cases d with
  | list ys =>
    obtain ⟨h1, h2⟩ := Vw.listTy f I sb rx hv
    refine ⟨"list", "list.index", PySem.F.plainAttrs_list, PySem.F.slot_list_index, PySem.F.type_list_index, h1, h2, ?_⟩
    intro pins s σ H x vs v us Q I rx rvs h
    obtain ⟨F, ds, z, sb, hv, ha, hz, q⟩ := h
    match ds, ha, hz with
    | [e], ha, hz =>
      obtain ⟨w, ew, hw⟩ := vw1 ha
      subst ew
      obtain ⟨u, rfl, ru⟩ := vals1 rvs
      have hz : (if (okEq e && okEq (.list ys)) = true then (firstAt e ys 0).map fun (n : Nat) => PyData.int n else none) = some z := hz
      cases hk : (okEq e && okEq (.list ys)) with
      | false => rw [hk] at hz; cases hz
      | true =>
        rw [hk, if_pos rfl] at hz
        rw [Bool.and_eq_true] at hk
        obtain ⟨n, hn, rfl⟩ := Option.map_eq_some_iff.mp hz
        obtain ⟨_, g1, g2, g3⟩ := firstAt_some hn
        rw [Nat.sub_zero] at g1
        obtain ⟨a, xs, rfl, sq, zz, da⟩ := hv.list sb
        cases rx
        obtain ⟨its, rv, ⟨⟨cls, dd, data, sls⟩, nn, ho, hc, hdn, hdt⟩, hlen⟩ := I.list (f.k ▸ sq)
        simp only at hc hdt
        subst hc hdt
        have hl : its.length = ys.length := by rw [← rv.length, da.length]
        have hsl := sizeLine_eq
        have hzl : its.length ≤ sizeLine := by rw [← rv.length]; exact zz
        have hE := items_eq f hu I sb da rv ru hw hk.1 (by simpa [PyData.canLay0] using okEq_lay hk.2)
        refine call_meets PySem.F.slot_list_index ⟨_, ho, rfl⟩ PySem.F.entry_list_index (PySem.F.args_list_index_2 _ _)
          (SeqAt.list_index2_found a its.toArray nn dd sls u (fun j => match ys[j]? with | some z => PyData.eqv z e | none => false) n (by simpa [hl] using g1) (Nat.zero_le _) (by omega) ?_ ?_) ⟨ho, hE, ?_⟩
        · simp only [List.getElem?_eq_getElem g1]; simpa using g2
        · intro m hm _ hlt
          have hm' : m < ys.length := by omega
          simp only [List.getElem?_eq_getElem hm']; exact g3 m hm' (by omega)
        · exact ⟨.int (n : Nat), H, I.tok _, ⟨_, rfl⟩, q _ _ _ (Ext.refl sb) (.int _)⟩
    | [], _, hz => cases hz
    | _ :: _ :: _, _, hz => cases hz
  | tuple ys =>
    obtain ⟨h1, h2⟩ := Vw.tupTy f I sb rx hv
    refine ⟨"tuple", "tuple.index", PySem.F.plainAttrs_tuple, PySem.F.slot_tuple_index, PySem.F.type_tuple_index, h1, h2, ?_⟩
    intro pins s σ H x vs v us Q I rx rvs h
    obtain ⟨F, ds, z, sb, hv, ha, hz, q⟩ := h
    match ds, ha, hz with
    | [e], ha, hz =>
      obtain ⟨w, ew, hw⟩ := vw1 ha
      subst ew
      obtain ⟨u, rfl, ru⟩ := vals1 rvs
      have hz : (if (okEq e && okEq (.list ys)) = true then (firstAt e ys 0).map fun (n : Nat) => PyData.int n else none) = some z := hz
      cases hk : (okEq e && okEq (.list ys)) with
      | false => rw [hk] at hz; cases hz
      | true =>
        rw [hk, if_pos rfl] at hz
        rw [Bool.and_eq_true] at hk
        obtain ⟨n, hn, rfl⟩ := Option.map_eq_some_iff.mp hz
        obtain ⟨_, g1, g2, g3⟩ := firstAt_some hn
        rw [Nat.sub_zero] at g1
        obtain ⟨a, xs, rfl, sq, zz, da⟩ := hv.tup sb
        cases rx
        obtain ⟨its, rv, ⟨⟨cls, dd, data, sls⟩, ho, hc, nn, hdt⟩, hlen⟩ := I.tuple (f.k ▸ sq)
        simp only at hc hdt
        subst hc hdt
        have hl : its.length = ys.length := by rw [← rv.length, da.length]
        have hE := items_eq f hu I sb da rv ru hw hk.1 (by simpa [PyData.canLay0] using okEq_lay hk.2)
        refine call_meets PySem.F.slot_tuple_index ⟨_, ho, rfl⟩ PySem.F.entry_tuple_index (PySem.F.args_tuple_index_2 _ _)
          (SeqAt.tuple_index2_found a its.toArray nn dd sls u (fun j => match ys[j]? with | some z => PyData.eqv z e | none => false) n (by simpa [hl] using g1) (Nat.zero_le _) (by simpa [hl] using g1) ?_ ?_) ⟨ho, hE, ?_⟩
        · simp only [List.getElem?_eq_getElem g1]; simpa using g2
        · intro m hm _ hlt
          have hm' : m < ys.length := by omega
          simp only [List.getElem?_eq_getElem hm']; exact g3 m hm' (by omega)
        · exact ⟨.int (n : Nat), H, I.tok _, ⟨_, rfl⟩, q _ _ _ (Ext.refl sb) (.int _)⟩
    | [], _, hz => cases hz
    | _ :: _ :: _, _, hz => cases hz
  | _ => cases h
end
end SH

set_option Elab.async false
set_option linter.all false
set_option maxRecDepth 100000
set_option maxHeartbeats 4000000
/-! What is walked. -/
namespace SH
open PySem PySem.Spec PyProof.Rows L2
variable [Tb]

/-! ### a sequence of either kind -/
def SqE (tu : Bool) (K : PySem.W.Frag) (H : Hp) (a : Addr) (xs : List V) : Prop := match tu with | true => SqT K H a xs | false => SqL K H a xs
def IsIt (tu : Bool) (h : Heap) (it a : Addr) (i : Nat) : Prop := match tu with | true => h.IsTupleIter it a i | false => h.IsListIter it a i
theorem IsIt.at {tu : Bool} {h h' : Heap} {it a : Addr} {i : Nat} (x : IsIt tu h it a i) (k : ∀ o, h.get? it = some o → h'.get? it = some o) : IsIt tu h' it a i := by
  cases tu with
  | true => exact Heap.IsTupleIter.at x k
  | false => exact Heap.IsListIter.at x k
theorem IsIt.obj {tu : Bool} {h : Heap} {it a : Addr} {i : Nat} (x : IsIt tu h it a i) : ∃ o, h.get? it = some o ∧ ∀ v, o.data ≠ .cell v := by
  cases tu with
  | true => obtain ⟨o, e, _, d⟩ := x; exact ⟨o, e, fun v z => by rw [d] at z; cases z⟩
  | false => obtain ⟨o, e, _, d⟩ := x; exact ⟨o, e, fun v z => by rw [d] at z; cases z⟩
section
variable {X : Cx} {pins : List (Addr × Obj)} {s : Shared} {σ : L2.St} {H : Hp}
theorem draws_of {tu : Bool} {a it : Addr} {xs : List V} {A : Around} (I : Inv X pins σ H s) (sq : SqE tu X.K H a xs) (hne : a ≠ it) (hh : A.handled = none) : ∃ (its : List Value) (St : Nat → Heap → Prop), Vals xs its ∧
    Draws X.prog X.w A it [it, a] its.length (fun i v => its[i]? = some v) St ∧ (∀ i, IsIt tu s.heap it a i → St i s.heap) ∧ (∀ i h, St i h → IsIt tu h it a i) ∧ ∃ o, s.heap.get? a = some o := by
  cases tu with
  | true =>
    obtain ⟨its, r, p, z⟩ := I.tuple sq
    refine ⟨its, fun i h => h.IsTupleIter it a i ∧ h.IsTuple a its.toArray, r, by simpa using Draws.tuple (prog := X.prog) (w := X.w) hh it a hne its.toArray, fun i q => ⟨q, p⟩, fun i h q => q.1, ?_⟩
    obtain ⟨o, e, _⟩ := p
    exact ⟨o, e⟩
  | false =>
    obtain ⟨its, r, p, z⟩ := I.list sq
    refine ⟨its, fun i h => h.IsListIter it a i ∧ h.IsList a its.toArray, r, by simpa using Draws.list (prog := X.prog) (w := X.w) hh it a hne its.toArray, fun i q => ⟨q, p.isList⟩, fun i h q => q.1, ?_⟩
    obtain ⟨o, n, e, _⟩ := p
    exact ⟨o, e⟩
theorem SqE.there {tu : Bool} {a : Addr} {xs : List V} (I : Inv X pins σ H s) (sq : SqE tu X.K H a xs) : ∃ o, s.heap.get? a = some o := by
  cases tu with
  | true => obtain ⟨its, r, ⟨o, e, _⟩, z⟩ := I.tuple sq; exact ⟨o, e⟩
  | false => obtain ⟨its, r, ⟨o, n, e, _⟩, z⟩ := I.list sq; exact ⟨o, e⟩
theorem begins_of {tu : Bool} {a : Addr} {xs : List V} (I : Inv X pins σ H s) (sq : SqE tu X.K H a xs) : ∃ (o : Obj) (Hb : Heap → Prop), Begins (.ref a) o Hb ∧ Hb s.heap ∧ ∀ (h : Heap) (it : Addr), h.get? it = some o → IsIt tu h it a 0 := by
  cases tu with
  | true =>
    obtain ⟨its, r, p, z⟩ := I.tuple sq
    exact ⟨_, _, begins_tuple a its.toArray, p, fun h it e => ⟨_, e, rfl, rfl⟩⟩
  | false =>
    obtain ⟨its, r, p, z⟩ := I.list sq
    exact ⟨_, _, begins_list a its.toArray, p.isList, fun h it e => ⟨_, e, rfl, rfl⟩⟩
end

/-! ### new pairs -/
def Ipr (G : Hp → Prop) (n : Nat) (xs ys : Nat → Option V) : L2.It :=
  ⟨fun i H => G H ∧ i < n, fun i H v H' => ∃ T x y, v = .ref T ∧ H T = none ∧ H' = upd H T (.tup [x, y]) ∧ xs i = some x ∧ ys i = some y, fun i H => G H ∧ i = n⟩
theorem turn_pairs {P : Program} {w : World} {K : PySem.W.Frag} {elts : List Expr} {kk : Nat} {tpos : Pos} {it : Addr} {wr : List Addr} {n : Nat} {xs ys : Nat → Option V} {tn : Nat → Heap → Prop} (G : Hp → Prop) (mem : it ∈ wr)
    (obj : ∀ i h, tn i h → ∀ b ∈ wr, ∃ o, h.get? b = some o ∧ ∀ v, o.data ≠ .cell v) (keep : ∀ i h h', tn i h → (∀ b ∈ wr, ∀ o, h.get? b = some o → h'.get? b = some o) → tn i h')
    (walk : ∀ (X : Cx), X.prog = P → X.w = w → X.K = K → X.calm = true → ∀ (pins : List (Addr × Obj)) (s : Shared) (σ : L2.St) (H : Hp) (i : Nat), Inv X pins σ H s → (∀ b ∈ wr, FpOk X pins H b) → tn i s.heap → G H →
      ∃ fp wr' Pt St Mid, WalksT P w X.A it fp wr' n Pt St Mid ∧ (∀ b ∈ wr', b ∈ wr) ∧ St i s.heap ∧ (∀ i h, St i h → tn i h) ∧
        ∀ i vals, i < n → Pt i vals → ∃ x y u v, xs i = some x ∧ ys i = some y ∧ vals = #[u, v] ∧ RelV x u ∧ RelV y v)
    (self : ∀ (A : Around) (i : Nat) (s : Shared) (Q : Value → Shared → Prop) (E : Value → Shared → Prop), tn i s.heap → Q (.ref it) s → wpAny (model P w) A (pyIter (.ref it)) Q E s) :
    Turn P w K (.Tuple elts kk tpos) (Ipr G n xs ys) wr it tn where
  mem := mem
  obj := obj
  keep := keep
  item := by
    intro X hP hw hK hc i pins s σ H E I hf st hg
    obtain ⟨hG, hi⟩ := hg
    obtain ⟨fp, wr', Pt, St, Mid, W, hsub, st0, back, rel⟩ := walk X hP hw hK hc pins s σ H i I hf st hG
    subst hP hw hK
    refine W.item i s _ _ hi st0 fun T vals h' tk hPt hT hTup mid kp => ⟨_, rfl, W.go elts kk tpos i T { s with heap := h', toks := tk } _ _ mid fun h'' st'' kp2 => ?_⟩
    obtain ⟨x, y, u, v, e1, e2, rfl, r1, r2⟩ := rel i vals hi hPt
    have hTup2 : IsTup h'' T #[u, v] := by
      obtain ⟨o, ho, r⟩ := hTup
      exact ⟨o, kp2 T o (W.apart i T _ mid) ho, r⟩
    have new : ObjOk X.prog X.w (upd H T (.tup [x, y])) h'' T (.tup [x, y]) := ⟨by show 2 ≤ sizeLine; decide, [u, v], .cons r1 (.cons r2 .nil), hTup2⟩
    have I1 : Inv X pins σ (upd H T (.tup [x, y])) { s with heap := h'', toks := tk } :=
      I.turnedNew (ch := wr') (fun b o hb q => kp2 b o hb (kp b o hb q)) (fun b hb => hf b (hsub b hb)) hT new
    have hfr : H T = none := I.hok.fresh hT
    refine ⟨.ref T, _, I1, rfl, ⟨T, x, y, rfl, hfr, rfl, e1, e2⟩, back (i + 1) h'' st'', fun b hb => ?_⟩
    have hbT : b ≠ T := by
      intro e
      obtain ⟨o, q, _⟩ := obj i s.heap st b hb
      have := Heap.lt_size q
      rw [e] at this
      exact absurd this (Nat.not_lt.mpr hT)
    rw [upd_ne hbT]
    exact (hf b hb).1
  done := by
    intro X hP hw hK hc i pins s σ H E I hf st hg
    obtain ⟨hG, hi⟩ := hg
    obtain ⟨fp, wr', Pt, St, Mid, W, hsub, st0, back, rel⟩ := walk X hP hw hK hc pins s σ H i I hf st hG
    subst hP hw hK
    rw [hi] at st0
    exact W.done s _ _ st0 fun h' tk kp => ⟨rfl, I.turnedL (ch := wr') (fun b o hb q => kp b o hb q) (fun b hb => hf b (hsub b hb))⟩
  self := self

/-! ### enumerate, zip -/
theorem Vals.at {xs : List V} {us : List Value} (r : Vals xs us) {i : Nat} {u : Value} (h : us[i]? = some u) : ∃ x, xs[i]? = some x ∧ RelV x u := by
  have hl := r.length
  have hi : i < us.length := (List.getElem?_eq_some_iff.mp h).1
  obtain ⟨u', e, q⟩ := r.get (i := i) (x := xs[i]'(by omega)) (List.getElem?_eq_getElem (by omega))
  rw [h] at e; cases e
  exact ⟨_, List.getElem?_eq_getElem (by omega), q⟩
theorem turn_enumE {P : Program} {w : World} {K : PySem.W.Frag} {elts : List Expr} {kk : Nat} {tpos : Pos} {tu : Bool} {a e it : Addr} {xs : List V} :
    Turn P w K (.Tuple elts kk tpos) (Ipr (fun H => SqE tu K H a xs) xs.length (fun i => some (.int (i : Nat))) (fun i => xs[i]?)) [e, it] e (fun i h => (∃ old, IsEnum h e it ((i : Nat) : Int) old) ∧ IsIt tu h it a i ∧ e ≠ it ∧ a ≠ it ∧ a ≠ e) := by
  refine turn_pairs _ (by simp) (fun i h st b hb => ?_) (fun i h h' st k => ?_) ?_ (fun A i s Q E st h => ?_)
  · obtain ⟨⟨old, he⟩, hi, _⟩ := st
    have e' : b = e ∨ b = it := by simpa using hb
    rcases e' with z | z
    · rw [z]; exact ⟨_, he, fun v q => nomatch q⟩
    · rw [z]; exact hi.obj
  · obtain ⟨⟨old, he⟩, hi, hne⟩ := st
    exact ⟨⟨old, k e (by simp) _ he⟩, hi.at fun o q => k it (by simp) o q, hne⟩
  · intro X hP hw hK hc pins s σ H i I hf st hG
    subst hP hw hK
    obtain ⟨⟨old, he⟩, hi, hne, ha, ha2⟩ := st
    obtain ⟨its, St, r, D, d1, d2, _⟩ := draws_of (A := X.A.in1) I hG ha (I.ok.hd hc)
    have hl := r.length
    have W := WalksT.enumerateD D e hne (by simp [hne, Ne.symm ha2]) (by simp)
    rw [← hl] at W
    refine ⟨_, _, _, _, _, W, fun b hb => hb, ⟨⟨old, he⟩, d1 i hi⟩, fun j h q => ⟨q.1, d2 j h q.2, hne, ha, ha2⟩, fun j vals hj hp => ?_⟩
    obtain ⟨t, x, hx, rfl⟩ := hp
    obtain ⟨y, ey, ry⟩ := Vals.at r hx
    exact ⟨_, y, _, _, rfl, ey, rfl, ⟨_, rfl⟩, ry⟩
  · obtain ⟨⟨old, he⟩, _⟩ := st
    exact wpAny_pyIter_enum he h
theorem turn_zipE {P : Program} {w : World} {K : PySem.W.Frag} {elts : List Expr} {kk : Nat} {tpos : Pos} {tu tv : Bool} {a b N : Nat} {xs ys : List V} (ha : a < N) (hb : b < N) :
    Turn P w K (.Tuple elts kk tpos) (Ipr (fun H => SqE tu K H a xs ∧ SqE tv K H b ys) (min xs.length ys.length) (fun i => xs[i]?) (fun i => ys[i]?)) [N + 4, N + 2, N + 3, N, N + 1] (N + 4)
      (fun i h => IsZip h (N + 4) (N + 2) (N + 3) .none ∧ IsTupOf2 h (N + 2) (.ref N) (.ref (N + 1)) ∧ (∃ x y, IsTupOf2 h (N + 3) x y) ∧ IsIt tu h N a i ∧ IsIt tv h (N + 1) b i) := by
  refine turn_pairs _ (by simp) (fun i h st c hc => ?_) (fun i h h' st k => ?_) ?_ (fun A i s Q E st h => wpAny_pyIter_zip st.1 h)
  · obtain ⟨hz, hTI, ⟨x, y, hTO⟩, h1, h2⟩ := st
    have e' : c = N + 4 ∨ c = N + 2 ∨ c = N + 3 ∨ c = N ∨ c = N + 1 := by simpa using hc
    rcases e' with q | q | q | q | q
    · rw [q]; exact ⟨_, hz, fun v q => nomatch q⟩
    · rw [q]; exact ⟨_, hTI, fun v q => nomatch q⟩
    · rw [q]; exact ⟨_, hTO, fun v q => nomatch q⟩
    · rw [q]; exact h1.obj
    · rw [q]; exact h2.obj
  · obtain ⟨hz, hTI, ⟨x, y, hTO⟩, h1, h2⟩ := st
    exact ⟨k _ (by simp) _ hz, k _ (by simp) _ hTI, ⟨x, y, k _ (by simp) _ hTO⟩, h1.at fun o q => k _ (by simp) o q, h2.at fun o q => k _ (by simp) o q⟩
  · intro X hP hw hK hc pins s σ H i I hf st hG
    subst hP hw hK
    obtain ⟨hz, hTI, hTO, h1, h2⟩ := st
    obtain ⟨its, St, r, D, d1, d2, _⟩ := draws_of (A := X.A.in1) I hG.1 (show (a : Nat) ≠ N by omega) (I.ok.hd hc)
    obtain ⟨its2, St2, r2, D2, d3, d4, _⟩ := draws_of (A := X.A.in1) I hG.2 (show (b : Nat) ≠ N + 1 by omega) (I.ok.hd hc)
    have hl := r.length
    have hl2 := r2.length
    have S : ZipSep2 (N + 4) (N + 2) (N + 3) N (N + 1) [N, a] [N + 1, b] := by
      have n1 : ∀ x y z : Nat, x ≠ y → x ≠ z → x ∉ [y, z] := fun x y z h1 h2 h3 => by simp [h1, h2] at h3
      exact ⟨show (N + 2 : Nat) ≠ N + 4 by omega, show (N + 3 : Nat) ≠ N + 4 by omega, show (N + 2 : Nat) ≠ N + 3 by omega, show (N + 2 : Nat) ≠ N by omega, by simp, n1 _ _ _ (by omega) (by omega), n1 _ _ _ (by omega) (by omega),
        show (N + 2 : Nat) ≠ N + 1 by omega, by simp, n1 _ _ _ (by omega) (by omega), n1 _ _ _ (by omega) (by omega), n1 _ _ _ (by omega) (by omega), n1 _ _ _ (by omega) (by omega)⟩
    have W := WalksT.zipD2 S D D2
    rw [← hl, ← hl2] at W
    refine ⟨_, _, _, _, _, W, fun c hc => ?_, ⟨hz, hTI, hTO, d1 i h1, d3 i h2⟩, fun j h q => ⟨q.1, q.2.1, q.2.2.1, d2 j h q.2.2.2.1, d4 j h q.2.2.2.2⟩, fun j vals hj hp => ?_⟩
    · have hc' : c = N + 4 ∨ c = N + 3 ∨ c = N ∨ c = N + 1 := by simpa using hc
      rcases hc' with rfl | rfl | rfl | rfl <;> simp
    · obtain ⟨x1, x2, hx1, hx2, rfl⟩ := hp
      obtain ⟨y1, ey1, ry1⟩ := Vals.at r hx1
      obtain ⟨y2, ey2, ry2⟩ := Vals.at r2 hx2
      exact ⟨y1, y2, _, _, ey1, ey2, rfl, ry1, ry2⟩
theorem meets_enum1 {v : Value} {o : Obj} {H : Heap → Prop} (B : Begins v o H) :
    Meets (Builtin.«enumerate.__new__» ⟨[.type "enumerate", v], []⟩) (fun _ R s => H s.heap ∧
      R (.ok (.ret (.ref (s.heap.push o).objs.size))) { s with heap := (s.heap.push o).push { cls := .type "enumerate", data := .fields #[.none, .bool false, .ref s.heap.objs.size, rawInt 0, .none, .none] } }) :=
  .of_wp fun prog w A R s h => by
    obtain ⟨hp, g, d, tk, os⟩ := s; obtain ⟨h1, h⟩ := h
    have hsub := sub_enumerate
    have q1 : ∀ {A' : Around} {E : Value → Shared → Prop} {Q : Value → Shared → Prop}, Q (.ref hp.objs.size) ⟨hp.push o, g, d, tk, os⟩ → wpAny (model prog w) A' (pyIter v) Q E ⟨hp, g, d, tk, os⟩ :=
      fun q => B.iter prog w _ _ ⟨hp, g, d, tk, os⟩ _ h1 q
    wp_walk
    refine wpAny_stack_any fun st => wpAny_pure ?_
    split
    · rename_i c _ _ _ _ _
      cases (c == Value.type "enumerate")
      · wp_walk using q1
        exact ⟨_, rfl, h⟩
      · wp_walk using q1
        exact ⟨_, rfl, h⟩
    · wp_walk using q1
      exact ⟨_, rfl, h⟩
theorem call_enum1 {prog : Program} {w : World} {A : Around} {E : Value → Shared → Prop} {s : Shared} {v : Value} {o : Obj} {H : Heap → Prop} {Q : Value → Shared → Prop} (B : Begins v o H) (h1 : H s.heap)
    (h : ∀ h', IsEnum h' (s.heap.objs.size + 1) s.heap.objs.size 0 .none → h'.get? s.heap.objs.size = some o → h'.objs.size = s.heap.objs.size + 2 →
      (∀ b o, s.heap.get? b = some o → h'.get? b = some o) → Q (.ref (s.heap.objs.size + 1)) { s with heap := h' }) :
    wpAny (model prog w) A (call (.type "enumerate") [v]) Q E s := by
  refine callType_new F.called_enumerate (by decide) (F.typeCall_enumerate_1 _) (F.newCall_enumerate_1 _) (fun obj => F.args_object_init_2 obj _) F.entry_enumerate_new (meets_enum1 B) ⟨h1, ?_⟩
  have hz : (s.heap.push o).objs.size = s.heap.objs.size + 1 := Heap.size_push ..
  show _ ∧ _
  rw [hz]
  have he : IsEnum ((s.heap.push o).push { cls := .type "enumerate", data := .fields #[.none, .bool false, .ref s.heap.objs.size, rawInt 0, .none, .none] }) (s.heap.objs.size + 1) s.heap.objs.size 0 .none := by
    have := Heap.get?_push_size (s.heap.push o) (o := { cls := .type "enumerate", data := .fields #[.none, .bool false, .ref s.heap.objs.size, rawInt 0, .none, .none] }) rfl
    rw [hz] at this; exact this
  exact ⟨⟨_, he, rfl⟩, h _ he (Heap.get?_push_of_some _ (Heap.get?_push_size _ B.free)) (by rw [Heap.size_push, hz]) fun b o x => Heap.get?_push_of_some _ (Heap.get?_push_of_some _ x)⟩
end SH

set_option Elab.async false
set_option linter.all false
set_option maxRecDepth 100000
set_option maxHeartbeats 4000000
/-! Iterables by the evaluator. -/
namespace SH
open PySem PySem.Spec PyProof.Rows L2
variable [Tb]

/-! ### a dict as it lies -/
abbrev EnR : List (V × V) → List DictEntry → Prop := Paired fun (p : V × V) (en : DictEntry) => RelV p.1 en.key ∧ RelV p.2 en.val
def RawD (o : Obj) (ps : List (V × V)) : Prop := o.ExactDict ∧ ∃ es ep, o.data = .dict es ep ∧ EnR ps es.toList
theorem EnR.length : ∀ {ps : List (V × V)} {es : List DictEntry}, EnR ps es → ps.length = es.length
  | _, _, .nil => rfl
  | _, _, .cons _ t => by simp [EnR.length t]
theorem EnR.get : ∀ {ps : List (V × V)} {es : List DictEntry}, EnR ps es → ∀ (i : Nat) (h : i < es.length), ∃ p, ps[i]? = some p ∧ RelV p.1 es[i].key ∧ RelV p.2 es[i].val
  | _, _, .cons r t, 0, _ => ⟨_, rfl, r⟩
  | _, _, .cons r t, i + 1, h => by simpa using EnR.get t i (by simpa using h)
theorem raw1 {P : Program} {w : World} {K : PySem.W.Frag} {F : Hp} : ∀ {ks : List (Key × V)} {kvs : List (D × D)} {vs : List (Key × Value)} {es : List DictEntry}, DtK1 P w K F ks kvs → KV ks vs → Pairs (mixKind P w) es vs →
    EnR (ks.map fun kv => (kV kv.1, kv.2)) es ∧ DtAll P w K F (ks.map fun kv => kV kv.1) (keysOf kvs) ∧ DtAll P w K F (ks.map (·.2)) (kvs.map (·.2))
  | _, _, _, _, .nil, .nil, .nil => ⟨.nil, .nil, .nil⟩
  | _, _, _, _, .cons (k := k) h t, .cons r t2, .cons h1 h2 t3 => by
    obtain ⟨a, b, d⟩ := raw1 t t2 t3
    obtain ⟨r1, r2⟩ := r
    refine ⟨.cons ⟨?_, ?_⟩ a, .cons ?_ b, .cons h d⟩
    · simp only at r1; rw [r1]; exact relV_key h1
    · rw [h2]; exact r2
    · cases k with
      | inl i => exact .int i
      | inr x => exact .str x
theorem raw2 {P : Program} {w : World} {K : PySem.W.Frag} {F : Hp} : ∀ {xs : List (NestedKey × Addr × V)} {kvs : List (D × D)} {vs : List (NestedKey × Addr × Value)}, DtK2 P w K F xs kvs → KT2 xs vs →
    EnR (xs.map fun x => (V.ref x.2.1, x.2.2)) (vs.map (entryOfKey (nestedKind P w))) ∧ DtAll P w K F (xs.map fun x => V.ref x.2.1) (keysOf kvs) ∧ DtAll P w K F (xs.map (·.2.2)) (kvs.map (·.2))
  | _, _, _, .nil, .nil => ⟨.nil, .nil, .nil⟩
  | _, _, _, .cons a b h h' t, .cons r t2 => by
    obtain ⟨p, q, d⟩ := raw2 t t2
    obtain ⟨r1, r2, r3⟩ := r
    refine ⟨.cons ⟨?_, r3⟩ p, .cons h q, .cons h' d⟩
    simp only at r2; rw [r2]; rfl
theorem raw_of {P : Program} {w : World} {K : PySem.W.Frag} {F : Hp} {o : Obj} {kvs : List (D × D)} (alt : DAlt P w K F o kvs) : ∃ ps, RawD o ps ∧ ps.length ≤ sizeLine ∧ DtAll P w K F (ps.map (·.1)) (keysOf kvs) ∧ DtAll P w K F (ps.map (·.2)) (kvs.map (·.2)) := by
  rcases alt with ⟨ks, ⟨ex, ⟨es, ep, vs, h1, h2, h3, h4, h5⟩, z⟩, t⟩ | ⟨x, xs, ⟨ex, ⟨es, ep, vs, h1, h2, h4, h5⟩, z⟩, t⟩
  · obtain ⟨a, b, d⟩ := raw1 t h5 h3
    refine ⟨_, ⟨ex, es, ep, h1, a⟩, by rw [List.length_map]; exact z, ?_, ?_⟩
    · rw [List.map_map]; exact b
    · rw [List.map_map]; exact d
  · obtain ⟨a, b, d⟩ := raw2 t h5
    rw [← h2] at a
    refine ⟨_, ⟨ex, es, ep, h1, a⟩, by rw [List.length_map]; exact z, ?_, ?_⟩
    · rw [List.map_map]; exact b
    · rw [List.map_map]; exact d
def Irk (d : Addr) (o : Obj) (ps : List (V × V)) : L2.It := ⟨fun i H => H d = some (RawO d o) ∧ i < ps.length, fun i H x H' => H' = H ∧ ∃ y, ps[i]? = some (x, y), fun i H => H d = some (RawO d o) ∧ i = ps.length⟩
def Irv (d : Addr) (o : Obj) (ps : List (V × V)) : L2.It := ⟨fun i H => H d = some (RawO d o) ∧ i < ps.length, fun i H x H' => H' = H ∧ ∃ y, ps[i]? = some (y, x), fun i H => H d = some (RawO d o) ∧ i = ps.length⟩
section
variable {P : Program} {w : World} {K : PySem.W.Frag} {tg : Expr} {d it : Addr} {o : Obj} {ps : List (V × V)} {es : Array DictEntry} {ep : Nat}
theorem turn_rk (hx : o.ExactDict) (hod : o.data = .dict es ep) (r : EnR ps es.toList) : Turn P w K tg (Irk d o ps) [it] it (fun i h => h.IsKeyIter it d i es.size ep) where
  mem := by simp
  obj := fun i h st b hb => by
    have e : b = it := by simpa using hb
    subst e
    obtain ⟨oi, e, c, dd⟩ := st
    exact ⟨oi, e, fun v z => by rw [dd] at z; cases z⟩
  keep := fun i h h' st k => st.at fun oi e => k it (by simp) oi e
  item := by
    intro X hP hw hK hc i pins s σ H E I hf st hg
    subst hP hw hK
    obtain ⟨hd, hi⟩ := hg
    obtain ⟨f0, f1, f2, f3, f4, f5⟩ := hf it (by simp)
    have hl : ps.length = es.size := (EnR.length r).trans Array.length_toList
    obtain ⟨p, e1, r1, r2⟩ := EnR.get r i (by rw [Array.length_toList]; omega)
    refine wpAny_pyNext_keys_item_raw st ⟨o, Inv.raw I hd, hx, hod⟩ (by omega) fun h' st' sb => ?_
    have I1 : Inv X pins σ H { s with heap := h' } := I.turned (t' := s.toks) (fun b ob hb e => (sb.2 b hb).trans e) f0 f1 f3 f4 f5
    obtain ⟨oi, e, c, dd⟩ := id st'
    exact ⟨_, rfl, go_of (s := { s with heap := h' }) e c dd (by decide) ⟨p.1, H, I1, by simpa using r1, ⟨rfl, p.2, e1⟩, st', fun b hb => (hf b hb).1⟩⟩
  done := by
    intro X hP hw hK hc i pins s σ H E I hf st hg
    subst hP hw hK
    obtain ⟨hd, hi⟩ := hg
    obtain ⟨f0, f1, f2, f3, f4, f5⟩ := hf it (by simp)
    have hl : ps.length = es.size := (EnR.length r).trans Array.length_toList
    exact wpAny_pyNext_keys_end_raw (I.ok.hd hc) st ⟨o, Inv.raw I hd, hx, hod⟩ (by omega) fun h' eb => ⟨rfl, I.turned (t' := s.toks) (fun b ob hb e => eb b ob hb e) f0 f1 f3 f4 f5⟩
  self := fun A i s Q E st h => wpAny_pyIter_keyiter st h
theorem turn_rv (hx : o.ExactDict) (hod : o.data = .dict es ep) (r : EnR ps es.toList) : Turn P w K tg (Irv d o ps) [it] it (fun i h => h.IsValIter it d i es.size ep) where
  mem := by simp
  obj := fun i h st b hb => by
    have e : b = it := by simpa using hb
    subst e
    obtain ⟨oi, e, c, dd⟩ := st
    exact ⟨oi, e, fun v z => by rw [dd] at z; cases z⟩
  keep := fun i h h' st k => st.at fun oi e => k it (by simp) oi e
  item := by
    intro X hP hw hK hc i pins s σ H E I hf st hg
    subst hP hw hK
    obtain ⟨hd, hi⟩ := hg
    obtain ⟨f0, f1, f2, f3, f4, f5⟩ := hf it (by simp)
    have hl : ps.length = es.size := (EnR.length r).trans Array.length_toList
    obtain ⟨p, e1, r1, r2⟩ := EnR.get r i (by rw [Array.length_toList]; omega)
    refine wpAny_pyNext_values_item_raw st ⟨o, Inv.raw I hd, hx, hod⟩ (by omega) fun h' st' sb => ?_
    have I1 : Inv X pins σ H { s with heap := h' } := I.turned (t' := s.toks) (fun b ob hb e => (sb.2 b hb).trans e) f0 f1 f3 f4 f5
    obtain ⟨oi, e, c, dd⟩ := id st'
    exact ⟨_, rfl, go_of (s := { s with heap := h' }) e c dd (by decide) ⟨p.2, H, I1, by simpa using r2, ⟨rfl, p.1, e1⟩, st', fun b hb => (hf b hb).1⟩⟩
  done := by
    intro X hP hw hK hc i pins s σ H E I hf st hg
    subst hP hw hK
    obtain ⟨hd, hi⟩ := hg
    obtain ⟨f0, f1, f2, f3, f4, f5⟩ := hf it (by simp)
    have hl : ps.length = es.size := (EnR.length r).trans Array.length_toList
    exact wpAny_pyNext_values_end_raw (I.ok.hd hc) st ⟨o, Inv.raw I hd, hx, hod⟩ (by omega) fun h' eb => ⟨rfl, I.turned (t' := s.toks) (fun b ob hb e => eb b ob hb e) f0 f1 f3 f4 f5⟩
  self := fun A i s Q E st h => wpAny_pyIter_valiter st h
theorem turn_ri {elts : List Expr} {kk : Nat} {tpos : Pos} (hx : o.ExactDict) (hod : o.data = .dict es ep) (r : EnR ps es.toList) :
    Turn P w K (.Tuple elts kk tpos) (Ipr (fun H => H d = some (RawO d o)) es.size (fun i => ps[i]?.map (·.1)) (fun i => ps[i]?.map (·.2))) [it] it (fun i h => (∃ ok ov, IsItemIter h it d i es.size ep ok ov) ∧ d ≠ it) := by
  refine turn_pairs _ (by simp) (fun i h st b hb => ?_) (fun i h h' st k => ?_) ?_ (fun A i s Q E st h => ?_)
  · have e : b = it := by simpa using hb
    subst e
    obtain ⟨⟨ok, ov, e⟩, _⟩ := st
    exact ⟨_, e, fun v z => nomatch z⟩
  · obtain ⟨⟨ok, ov, e⟩, hn⟩ := st
    exact ⟨⟨ok, ov, k it (by simp) _ e⟩, hn⟩
  · intro X hP hw hK hc pins s σ H i I hf st hG
    subst hP hw hK
    obtain ⟨hit, hn⟩ := st
    have hl : ps.length = es.size := (EnR.length r).trans Array.length_toList
    have W := WalksT.rawItems (prog := X.prog) (w := X.w) (A := X.A) (I.ok.hd hc) it d hn es ep
    refine ⟨_, _, _, _, _, W, fun b hb => hb, ⟨hit, o, Inv.raw I hG, hx, hod⟩, fun j h q => ⟨q.1, hn⟩, fun j vals hj hp => ?_⟩
    · obtain ⟨hi, rfl⟩ := hp
      obtain ⟨p, e1, r1, r2⟩ := EnR.get r j (by rw [Array.length_toList]; omega)
      exact ⟨p.1, p.2, _, _, by rw [e1]; rfl, by rw [e1]; rfl, rfl, by simpa using r1, by simpa using r2⟩
  · obtain ⟨⟨ok, ov, e⟩, hn⟩ := st
    exact wpAny_pyIter_itemiter e h
end

/-! ### what an iterator gives, by data -/
section
variable (c : Cn)
def ItV (pr : Bool) (F0 H : Hp) (x : V) (H' : Hp) (d : D) : Prop := (H' = H ∧ c.Dt F0 x d) ∨
  (pr = true ∧ ∃ T y z dy dz, x = .ref T ∧ H T = none ∧ H' = upd H T (.tup [y, z]) ∧ d = .tuple [dy, dz] ∧ c.Dt F0 y dy ∧ c.Dt F0 z dz)
structure WalkD (pr : Bool) (J : L2.It) (F0 : Hp) (ds : List D) : Prop where
  goes : ∀ i H, i < ds.length → Sub F0 H → J.go i H
  stops : ∀ H, Sub F0 H → J.stop ds.length H
  yields : ∀ i H x H', i < ds.length → Sub F0 H → J.yld i H x H' → ∃ d, ds[i]? = some d ∧ ItV c pr F0 H x H' d
  big : ds.length ≤ sizeLine
def tI (W : WX) (pr : Bool) (m : SH.It) : TI := fun σ H R => ∃ env F, c.RelE env σ H F ∧ Wants (evI c.C c.G m env) W c.cl σ H fun ds => ∀ J H' F', Ext H F H' F' → WalkD c pr J F' ds → R J H'
end
section
variable {c : Cn} {W : WX} {X : Cx} {tg : Expr}
theorem WalkD.up {pr : Bool} {J : L2.It} {F0 : Hp} {ds : List D} (h : WalkD c false J F0 ds) : WalkD c pr J F0 ds :=
  ⟨h.goes, h.stops, fun i H x H' hi s y => let ⟨d, e, q⟩ := h.yields i H x H' hi s y; ⟨d, e, q.elim .inl fun z => absurd z.1 (by decide)⟩, h.big⟩
theorem SqE.mono {tu : Bool} {K : PySem.W.Frag} {F F' : Hp} {a : Addr} {xs : List V} (s : Sub F F') (h : SqE tu K F a xs) : SqE tu K F' a xs := by
  cases tu with
  | true => exact SqT.mono s h
  | false => exact SqL.mono s h
theorem walkD_list {F : Hp} {a : Addr} {xs : List V} {ds : List D} (zz : xs.length ≤ sizeLine) (sq : SqL c.K F a xs) (da : c.DtAll F xs ds) : WalkD c false (Itl c.K a) F ds := by
  have w := walk_list (K := c.K) (a := a) (xs := xs)
  refine ⟨fun i H hi s => w.goes i H (by rw [da.length]; exact hi) (SqL.mono s sq), fun H s => by rw [← da.length]; exact w.stops H (SqL.mono s sq), fun i H x H' hi s y => ?_, by rw [← da.length]; exact zz⟩
  obtain ⟨e, e2⟩ := w.yields i H x H' (by rw [da.length]; exact hi) (SqL.mono s sq) y
  obtain ⟨d, e3, q⟩ := da.at e2
  exact ⟨d, e3, .inl ⟨e, q⟩⟩
theorem walkD_tup {F : Hp} {a : Addr} {xs : List V} {ds : List D} (zz : xs.length ≤ sizeLine) (sq : SqT c.K F a xs) (da : c.DtAll F xs ds) : WalkD c false (Itt c.K a) F ds := by
  have w := walk_tup (K := c.K) (a := a) (xs := xs)
  refine ⟨fun i H hi s => w.goes i H (by rw [da.length]; exact hi) (SqT.mono s sq), fun H s => by rw [← da.length]; exact w.stops H (SqT.mono s sq), fun i H x H' hi s y => ?_, by rw [← da.length]; exact zz⟩
  obtain ⟨e, e2⟩ := w.yields i H x H' (by rw [da.length]; exact hi) (SqT.mono s sq) y
  obtain ⟨d, e3, q⟩ := da.at e2
  exact ⟨d, e3, .inl ⟨e, q⟩⟩
theorem walkD_str {F : Hp} {x : Str} (hz : x.cps.toList.length ≤ lim) : WalkD c false (Its x) F (x.cps.toList.map fun k => .str ⟨#[k]⟩) := by
  refine ⟨fun i H hi s => show i < x.cps.size by simpa using hi, fun H s => by simp [Its], fun i H v H' hi s y => ?_, by rw [List.length_map, ← lim_eq]; exact hz⟩
  obtain ⟨e, k, e2, rfl⟩ := y
  exact ⟨.str ⟨#[k]⟩, by simp [e2], .inl ⟨e, .str _⟩⟩
theorem walkD_keys {F : Hp} {a : Addr} {o : Obj} {ps : List (V × V)} {ds : List D} (zz : ps.length ≤ sizeLine) (e : F a = some (RawO a o)) (da : c.DtAll F (ps.map (·.1)) ds) : WalkD c false (Irk a o ps) F ds := by
  have hl : ps.length = ds.length := by rw [← da.length, List.length_map]
  refine ⟨fun i H hi s => ⟨s _ _ e, by rw [hl]; exact hi⟩, fun H s => ⟨s _ _ e, hl.symm⟩, fun i H v H' hi s y => ?_, by rw [← hl]; exact zz⟩
  obtain ⟨e1, z, e2⟩ := y
  obtain ⟨d, e3, q⟩ := da.at (i := i) (v := v) (by rw [List.getElem?_map, e2]; rfl)
  exact ⟨d, e3, .inl ⟨e1, q⟩⟩
theorem walkD_vals {F : Hp} {a : Addr} {o : Obj} {ps : List (V × V)} {ds : List D} (zz : ps.length ≤ sizeLine) (e : F a = some (RawO a o)) (da : c.DtAll F (ps.map (·.2)) ds) : WalkD c false (Irv a o ps) F ds := by
  have hl : ps.length = ds.length := by rw [← da.length, List.length_map]
  refine ⟨fun i H hi s => ⟨s _ _ e, by rw [hl]; exact hi⟩, fun H s => ⟨s _ _ e, hl.symm⟩, fun i H v H' hi s y => ?_, by rw [← hl]; exact zz⟩
  obtain ⟨e1, z, e2⟩ := y
  obtain ⟨d, e3, q⟩ := da.at (i := i) (v := v) (by rw [List.getElem?_map, e2]; rfl)
  exact ⟨d, e3, .inl ⟨e1, q⟩⟩
theorem walkD_pairs {F : Hp} {G : Hp → Prop} {n : Nat} {xs ys : Nat → Option V} {ds : List D} (zz : ds.length ≤ sizeLine) (hn : n = ds.length) (hG : ∀ H, Sub F H → G H)
    (h : ∀ i x y, i < n → xs i = some x → ys i = some y → ∃ dx dy, ds[i]? = some (.tuple [dx, dy]) ∧ c.Dt F x dx ∧ c.Dt F y dy) : WalkD c true (Ipr G n xs ys) F ds := by
  subst hn
  refine ⟨fun i H hi s => ⟨hG H s, hi⟩, fun H s => ⟨hG H s, rfl⟩, fun i H v H' hi s y => ?_, zz⟩
  obtain ⟨T, x, z, e1, e2, e3, e4, e5⟩ := y
  obtain ⟨dx, dy, e6, q1, q2⟩ := h i x z hi e4 e5
  exact ⟨_, e6, .inr ⟨rfl, T, x, z, dx, dy, e1, e2, e3, rfl, q1, q2⟩⟩
/-- a value walked -/
theorem si_e (f : Fits c X) {l : Expr} {a : E} (hl : PE X l (tE c W a)) : PI X tg l (tI c W false (.e a)) := by
  refine ⟨fun pins s σ H R I h => ?_⟩
  obtain ⟨env, F, r, h⟩ := h
  refine thn (hl.run pins s σ H (fun v H1 => ∃ F1 d ds, Ext H F H1 F1 ∧ c.Dt F1 v d ∧ itemsOfD d = some ds ∧ ∀ J H' F', Ext H F H' F' → WalkD c false J F' ds → R J H') I ⟨env, F, r, h.bind.imp fun d _ k v H' F' x y => ?_⟩) fun v s1 ⟨x, H1, I1, r1, F1, d, ds, x1, hd, hi, q⟩ => ?_
  · obtain ⟨ds, e, k⟩ := k.of
    exact ⟨F', d, ds, x, y, e, k⟩
  · have hK := f.k
    cases d with
    | list ys =>
      cases hi
      cases hd with
      | lst sq z da =>
        cases r1
        obtain ⟨its, rv, p, hz⟩ := I1.list (hK ▸ SqL.mono x1.s sq)
        exact wpAny_pyIter_list p.isList (pi_one (tk := s1.toks) I1 _ (turn_list _ _) ⟨_, Heap.get?_push_size _ rfl, rfl, rfl⟩ (q _ _ _ x1 (hK ▸ walkD_list z sq da)))
    | tuple ys =>
      cases hi
      cases hd with
      | tup sq z da =>
        cases r1
        obtain ⟨its, rv, p, hz⟩ := I1.tuple (hK ▸ SqT.mono x1.s sq.1)
        exact wpAny_pyIter_tuple p (pi_one (tk := s1.toks) I1 _ (turn_tuple _ _) ⟨_, Heap.get?_push_size _ rfl, rfl, rfl⟩ (q _ _ _ x1 (hK ▸ walkD_tup z sq.1 da)))
    | str y =>
      have hi : (if y.cps.toList.length ≤ lim then some (y.cps.toList.map fun c => PyData.str ⟨#[c]⟩) else none) = some ds := hi
      by_cases hz : y.cps.toList.length ≤ lim
      case neg => rw [if_neg hz] at hi; cases hi
      rw [if_pos hz] at hi
      cases hi
      cases Dt.str_inv hd
      obtain ⟨t, rfl⟩ := r1
      cases ha : y.cps.all (· < 128)
      · exact wpAny_pyIter_wide ha (pi_one (tk := s1.toks) I1 _ (turn_str _ y t "str_iterator" (.inr rfl)) ⟨_, Heap.get?_push_size _ rfl, rfl, rfl⟩ (q _ _ _ x1 (walkD_str hz)))
      · exact wpAny_pyIter_ascii ha (pi_one (tk := s1.toks) I1 _ (turn_str _ y t "str_ascii_iterator" (.inl rfl)) ⟨_, Heap.get?_push_size _ rfl, rfl, rfl⟩ (q _ _ _ x1 (walkD_str hz)))
    | dict kvs =>
      cases hi
      obtain ⟨b, o, e, lo, hm, alt⟩ : ∃ b o, x = .ref b ∧ F1 b = some (RawO b o) ∧ (b == sysModules) = false ∧ DAlt c.P c.w c.K F1 o kvs := by
        cases hd with
        | dc1 h z k a => exact ⟨_, _, rfl, h, z, .inl ⟨_, k, a⟩⟩
        | dc2 h z k a => exact ⟨_, _, rfl, h, z, .inr ⟨_, _, k, a⟩⟩
      subst e
      cases r1
      obtain ⟨ps, ⟨ex, es, ep, hdt, en⟩, zp, dk, dv⟩ := raw_of alt
      have hr := Inv.raw I1 (x1.s _ _ lo)
      exact iter_keys hm hr ex hdt (pi_one (tk := s1.toks) I1 _ (turn_rk ex hdt en) ⟨_, Heap.get?_push_size _ rfl, rfl, rfl⟩ (q _ _ _ x1 (walkD_keys zp lo dk)))
    | _ => cases hi
end
end SH

set_option Elab.async false
set_option linter.all false
set_option maxRecDepth 100000
set_option maxHeartbeats 4000000
/-! range, enumerate, zip, items, values. -/
namespace SH
open PySem PySem.Spec PyProof.Rows L2
variable [Tb]
theorem _root_.L2.PI.mono {X : Cx} {tg e : Expr} {t t' : TI} (h : PI X tg e t) (q : ∀ σ H R, t' σ H R → t σ H R) : PI X tg e t' := ⟨fun pins s σ H R I hw => h.run pins s σ H R I (q σ H R hw)⟩
theorem rangeU_length : ∀ (n : Nat) (a k : Int), (rangeU n a k).length = n
  | 0, _, _ => rfl
  | n + 1, a, k => by simp [rangeU, rangeU_length n]
theorem rangeU_get : ∀ (n : Nat) (a k : Int) (i : Nat), i < n → (rangeU n a k)[i]? = some (.int (a + i * k))
  | 0, _, _, _, h => absurd h (Nat.not_lt_zero _)
  | n + 1, a, k, 0, _ => by simp [rangeU]
  | n + 1, a, k, i + 1, h => by
    simp only [rangeU, List.getElem?_cons_succ]
    rw [rangeU_get n (a + k) k i (by omega)]
    have e : a + k + (i : Int) * k = a + ((i + 1 : Nat) : Int) * k := by
      rw [Int.natCast_add, Int.add_mul]; simp only [Int.natCast_one, Int.one_mul]; omega
    rw [e]
section
variable {c : Cn} {W : WX} {X : Cx} {tg : Expr}
theorem walkD_rng {F : Hp} {lo : Int} {n : Nat} (zz : n ≤ lim) : WalkD c false (Itr lo n) F (rangeU n lo 1) := by
  refine ⟨fun i H hi s => by rw [rangeU_length] at hi; exact hi, fun H s => by rw [rangeU_length]; exact Nat.le_refl _, fun i H v H' hi s y => ?_, by rw [rangeU_length, ← lim_eq]; exact zz⟩
  rw [rangeU_length] at hi
  obtain ⟨e, e2⟩ := y
  exact ⟨_, rangeU_get n lo 1 i hi, .inl ⟨e, by rw [e2, Int.mul_one]; exact .int _⟩⟩
theorem walkD_rngC {F : Hp} {lo k : Int} {n : Nat} (zz : n ≤ lim) : WalkD c false (Itc lo k n) F (rangeU n lo k) := by
  refine ⟨fun i H hi s => by rw [rangeU_length] at hi; exact hi, fun H s => by rw [rangeU_length]; exact Nat.le_refl _, fun i H v H' hi s y => ?_, by rw [rangeU_length, ← lim_eq]; exact zz⟩
  rw [rangeU_length] at hi
  obtain ⟨e, e2⟩ := y
  exact ⟨_, rangeU_get n lo k i hi, .inl ⟨e, by rw [e2]; exact .int _⟩⟩
theorem small_of {a : Int} (h : smallI a = true) : -(2 ^ 62) ≤ a ∧ a < 2 ^ 62 := by
  unfold smallI at h
  simp only [Bool.and_eq_true, decide_eq_true_eq] at h
  omega
theorem si_range1 {e : Expr} {m : Es} {p pos : Pos} (hg : Gl X "range") (hm : X.mg "range" = none) (ha : PA X [e] (tAs c W m)) (hl : m.length = 1) (hs : starEach [e] X.env = [(false, eval e X.env)]) : PI X tg (.Call (.Name "range" p) [e] [] pos) (tI c W false (.range m)) :=
  (pi_range1 hg hm ha hs).mono fun σ H R ⟨env, F, r, h⟩ => by
    refine ⟨env, F, r, h.bind.imp fun ds e k vs H1 F1 x y => ?_⟩
    obtain ⟨zs, ez, k⟩ := k.of
    have hn := evEs_length e
    rw [hl] at hn
    match ds, hn, ez, y with
    | [.int j], _, ez, .cons h .nil =>
      cases Dt.int_inv h
      have ez : (if (smallI j && decide (j.toNat ≤ lim)) = true then some (rangeU j.toNat 0 1) else none) = some zs := ez
      obtain ⟨h1, rfl⟩ := ite_some ez
      rw [Bool.and_eq_true] at h1
      obtain ⟨s1, s2⟩ := small_of h1.1
      exact ⟨j, rfl, s1, s2, k _ _ _ x (walkD_rng (by simpa using h1.2))⟩
    | [.none], _, ez, _ => cases ez
    | [.bool _], _, ez, _ => cases ez
    | [.str _], _, ez, _ => cases ez
    | [.list _], _, ez, _ => cases ez
    | [.tuple _], _, ez, _ => cases ez
    | [.dict _], _, ez, _ => cases ez
theorem two_ints {ds : List D} {zs : List D} (hn : ds.length = 2) (h : rangeD ds = some zs) : ∃ a b : Int, ds = [.int a, .int b] ∧ smallI a = true ∧ smallI b = true ∧ (b - a).toNat ≤ lim ∧ zs = rangeU (b - a).toNat a 1 := by
  match ds, hn with
  | [x, y], _ =>
    cases x with
    | int a =>
      cases y with
      | int b =>
        have ez : (if (smallI a && smallI b && decide ((b - a).toNat ≤ lim)) = true then some (rangeU (b - a).toNat a 1) else none) = some zs := h
        obtain ⟨h1, rfl⟩ := ite_some ez
        simp only [Bool.and_eq_true] at h1
        exact ⟨a, b, rfl, h1.1.1, h1.1.2, by simpa using h1.2, rfl⟩
      | _ => cases h
    | _ => cases h
theorem three_ints {ds : List D} {zs : List D} (hn : ds.length = 3) (h : rangeD ds = some zs) : ∃ a b : Int, ds = [.int a, .int b, .int (-1)] ∧ smallI a = true ∧ smallI b = true ∧ (a - b).toNat ≤ lim ∧ zs = rangeU (a - b).toNat a (-1) := by
  match ds, hn with
  | [x, y, z], _ =>
    cases x with
    | int a =>
      cases y with
      | int b =>
        cases z with
        | int k =>
          have ez : (if (smallI a && smallI b && k == -1 && decide ((a - b).toNat ≤ lim)) = true then some (rangeU (a - b).toNat a (-1)) else none) = some zs := h
          obtain ⟨h1, rfl⟩ := ite_some ez
          simp only [Bool.and_eq_true, beq_iff_eq] at h1
          obtain ⟨⟨⟨h1, h2⟩, rfl⟩, h3⟩ := h1
          exact ⟨a, b, rfl, h1, h2, by simpa using h3, rfl⟩
        | _ => cases h
      | _ => cases h
    | _ => cases h
theorem si_range2 {e e2 : Expr} {m : Es} {p pos : Pos} (hg : Gl X "range") (hm : X.mg "range" = none) (ha : PA X [e, e2] (tAs c W m)) (hl : m.length = 2) (hs : starEach [e, e2] X.env = [(false, eval e X.env), (false, eval e2 X.env)]) (hs2 : starEach [e2] X.env = [(false, eval e2 X.env)]) :
    PI X tg (.Call (.Name "range" p) [e, e2] [] pos) (tI c W false (.range m)) :=
  (pi_range2 hg hm ha hs hs2).mono fun σ H R ⟨env, F, r, h⟩ => by
    refine ⟨env, F, r, h.bind.imp fun ds e k vs H1 F1 x y => ?_⟩
    obtain ⟨zs, ez, k⟩ := k.of
    have hn := evEs_length e
    rw [hl] at hn
    obtain ⟨a, b, rfl, s1, s2, s3, rfl⟩ := two_ints hn ez
    cases y with
    | cons h1 t =>
      cases t with
      | cons h2 t =>
        cases t
        cases Dt.int_inv h1
        cases Dt.int_inv h2
        obtain ⟨a1, a2⟩ := small_of s1
        obtain ⟨b1, b2⟩ := small_of s2
        exact ⟨a, b, rfl, ⟨a1, a2, b1, b2⟩, k _ _ _ x (walkD_rng s3)⟩
theorem si_range3 {e e2 e3 : Expr} {m : Es} {p pos : Pos} (hg : Gl X "range") (hm : X.mg "range" = none) (ha : PA X [e, e2, e3] (tAs c W m)) (hl : m.length = 3)
    (hs : starEach [e, e2, e3] X.env = (false, eval e X.env) :: starEach [e2, e3] X.env) (hpl : (backTo pos (starEach [e2, e3] X.env)).any (·.1) = false) :
    PI X tg (.Call (.Name "range" p) [e, e2, e3] [] pos) (tI c W false (.range m)) :=
  (pi_range3 hg hm ha hs hpl).mono fun σ H R ⟨env, F, r, h⟩ => by
    refine ⟨env, F, r, h.bind.imp fun ds e k vs H1 F1 x y => ?_⟩
    obtain ⟨zs, ez, k⟩ := k.of
    have hn := evEs_length e
    rw [hl] at hn
    obtain ⟨a, b, rfl, s1, s2, s3, rfl⟩ := three_ints hn ez
    cases y with
    | cons h1 t =>
      cases t with
      | cons h2 t =>
        cases t with
        | cons h3 t =>
          cases t
          cases Dt.int_inv h1
          cases Dt.int_inv h2
          cases Dt.int_inv h3
          obtain ⟨a1, a2⟩ := small_of s1
          obtain ⟨b1, b2⟩ := small_of s2
          exact ⟨a, b, -1, _, rfl, RgC.neg a1 a2 b1 b2, k _ _ _ x (walkD_rngC s3)⟩
theorem enumL_length : ∀ (xs : List D) (n : Nat), (enumL xs n).length = xs.length
  | [], _ => rfl
  | _ :: xs, n => by simp [enumL, enumL_length xs]
theorem enumL_get : ∀ (xs : List D) (n i : Nat) (d : D), xs[i]? = some d → (enumL xs n)[i]? = some (.tuple [.int ((n + i : Nat) : Int), d])
  | [], _, _, _, h => by simp at h
  | x :: xs, n, 0, d, h => by simp at h; simp [enumL, h]
  | x :: xs, n, i + 1, d, h => by
    simp only [List.getElem?_cons_succ] at h
    simp only [enumL, List.getElem?_cons_succ]
    rw [enumL_get xs (n + 1) i d h]
    have e : n + 1 + i = n + (i + 1) := by omega
    rw [e]
theorem zip2L_length : ∀ (xs ys : List D), (zip2L xs ys).length = min xs.length ys.length
  | [], ys => by simp [zip2L]
  | x :: xs, [] => by simp [zip2L]
  | x :: xs, y :: ys => by simp [zip2L, zip2L_length xs ys]
theorem zip2L_get : ∀ (xs ys : List D) (i : Nat) (d e : D), xs[i]? = some d → ys[i]? = some e → (zip2L xs ys)[i]? = some (.tuple [d, e])
  | [], _, _, _, _, h, _ => by simp at h
  | x :: xs, [], _, _, _, _, h => by simp at h
  | x :: xs, y :: ys, 0, d, e, h1, h2 => by simp at h1 h2; simp [zip2L, h1, h2]
  | x :: xs, y :: ys, i + 1, d, e, h1, h2 => by
    simp only [List.getElem?_cons_succ] at h1 h2
    simp only [zip2L, List.getElem?_cons_succ]
    exact zip2L_get xs ys i d e h1 h2
/-- a sequence of either kind -/
theorem seq_of {F : Hp} {v : V} {d : D} {ds : List D} (h : c.Dt F v d) (e : seqOf d = some ds) : ∃ tu a xs, v = .ref a ∧ SqE tu c.K F a xs ∧ c.DtAll F xs ds ∧ xs.length ≤ sizeLine := by
  cases d with
  | list ys => cases e; cases h with | lst sq z da => exact ⟨false, _, _, rfl, sq, da, z⟩
  | tuple ys => cases e; cases h with | tup sq z da => exact ⟨true, _, _, rfl, sq.1, da, z⟩
  | _ => cases e
theorem si_enum (f : Fits c X) {e : Expr} {a : E} {p pos tpos : Pos} {elts : List Expr} {kk : Nat} (hg : Gl X "enumerate") (hm : X.mg "enumerate" = none) (ha : PE X e (tE c W a)) (hs : starEach [e] X.env = (false, eval e X.env) :: starEach [] X.env) :
    PI X (.Tuple elts kk tpos) (.Call (.Name "enumerate" p) [e] [] pos) (tI c W true (.enum a)) := by
  refine ⟨fun pins s σ H R I h => ?_⟩
  obtain ⟨env, F, r, h⟩ := h
  refine Call_ (ld_blt I hg hm boot_enumerate (PyProof.Rows.callWith_type1 (args_cons (thn (ha.run pins s σ H (fun v H1 => ∃ F1 d ds, Ext H F H1 F1 ∧ c.Dt F1 v d ∧ seqOf d = some ds ∧ ∀ J H' F', Ext H F H' F' → WalkD c true J F' (enumL ds 0) → R J H') I
    ⟨env, F, r, h.bind.imp fun d _ k v H' F' x y => ?_⟩) fun v s1 ⟨x, H1, I1, r1, F1, d, ds, x1, hd, hi, q⟩ => args_nil ?_) hs) hs rfl))
  · obtain ⟨ds, e, k⟩ := k.bind.of
    exact ⟨F', d, ds, x, y, e, k⟩
  · obtain ⟨tu, b, xs, rfl, sq, da, zx⟩ := seq_of hd hi
    cases r1
    have sq' : SqE tu X.K H1 b xs := f.k ▸ SqE.mono x1.s sq
    obtain ⟨o, Hb, B, hb, back⟩ := begins_of I1 sq'
    obtain ⟨ob, eb⟩ := SqE.there I1 sq'
    have hlt := Heap.lt_size eb
    refine call_enum1 B hb fun h' he hit hsz hk => wpAny_pyIter_enum he ?_
    have I2 : Inv X pins σ H1 { s1 with heap := h' } := I1.kept (t' := s1.toks) hk
    refine ⟨s1.heap.objs.size + 1, [s1.heap.objs.size + 1, s1.heap.objs.size], _, _, H1, rfl, I2, turn_enumE (tu := tu) (a := b) (xs := xs), ⟨⟨.none, he⟩, back _ _ hit, Nat.succ_ne_self _, Nat.ne_of_lt hlt, Nat.ne_of_lt (Nat.lt_succ_of_lt hlt)⟩, fun z hz => ?_, ?_⟩
    · have e' : z = s1.heap.objs.size + 1 ∨ z = s1.heap.objs.size := by simpa using hz
      have hle : s1.heap.objs.size ≤ z := by
        rcases e' with z | z
        · rw [z]; exact Nat.le_add_right _ _
        · rw [z]; exact Nat.le_refl _
      exact I1.fpOk hle (I1.hok.fresh hle)
    · refine q _ _ _ x1 (walkD_pairs (by rw [enumL_length, ← da.length]; exact zx) (by rw [enumL_length, da.length]) (fun H s => f.k ▸ SqE.mono s sq) fun i x y hi e1 e2 => ?_)
      cases e1
      obtain ⟨d2, e3, q3⟩ := da.at e2
      exact ⟨_, d2, enumL_get ds 0 i d2 e3, by rw [Nat.zero_add]; exact .int _, q3⟩
theorem si_zip (f : Fits c X) {e e2 : Expr} {a b : E} {p pos tpos : Pos} {elts : List Expr} {kk : Nat} (hg : Gl X "zip") (hm : X.mg "zip" = none) (ha : PA X [e, e2] (tAs c W (.cons a (.cons b .nil))))
    (hs : starEach [e, e2] X.env = (false, eval e X.env) :: starEach [e2] X.env) (hpl : (backTo pos (starEach [e2] X.env)).any (·.1) = false) :
    PI X (.Tuple elts kk tpos) (.Call (.Name "zip" p) [e, e2] [] pos) (tI c W true (.zip (.cons a (.cons b .nil)))) := by
  refine ⟨fun pins s σ H R I h => ?_⟩
  obtain ⟨env, F, r, h⟩ := h
  refine Call_ (ld_blt I hg hm PyProof.Rows.boot_zip (PyProof.Rows.callWith_type1 (thn (ha.run pos pins s σ H (fun vs H1 => ∃ F1 v u d e ds es, Ext H F H1 F1 ∧ vs = [v, u] ∧ c.Dt F1 v d ∧ c.Dt F1 u e ∧ seqOf d = some ds ∧ seqOf e = some es ∧ ∀ J H' F', Ext H F H' F' → WalkD c true J F' (zip2L ds es) → R J H') I
    ⟨env, F, r, h.bind.imp fun ds e k vs H' F' x y => ?_⟩) fun us s1 ⟨vs, H1, I1, r1, F1, v, u, d, e, ds, es, x1, ev, hd, he, hi, hj, q⟩ => ?_) hs hpl))
  · match ds, y, evEs_length e, k with
    | [d1, d2], .cons h1 (.cons h2 .nil), _, k =>
      obtain ⟨ds, e1, k⟩ := k.bind.of
      obtain ⟨es, e2, k⟩ := k.bind.of
      exact ⟨F', _, _, d1, d2, ds, es, x, rfl, h1, h2, e1, e2, k⟩
  · subst ev
    obtain ⟨u1, u2, rfl, ra, rb⟩ := vals2 r1
    obtain ⟨tu, p1, xs, rfl, sq, da, zx⟩ := seq_of hd hi
    obtain ⟨tv, p2, ys, rfl, sq2, db, zy⟩ := seq_of he hj
    cases ra
    cases rb
    have sq' : SqE tu X.K H1 p1 xs := f.k ▸ SqE.mono x1.s sq
    have sq2' : SqE tv X.K H1 p2 ys := f.k ▸ SqE.mono x1.s sq2
    obtain ⟨o1, Hb1, B1, hb1, back1⟩ := begins_of I1 sq'
    obtain ⟨o2, Hb2, B2, hb2, back2⟩ := begins_of I1 sq2'
    obtain ⟨ob, eb⟩ := SqE.there I1 sq'
    obtain ⟨ob2, eb2⟩ := SqE.there I1 sq2'
    refine zip_begins2 B1 B2 hb1 hb2 fun h' hz hTI hTO g1 g2 hsz hk => wpAny_pyIter_zip hz ?_
    have I2 : Inv X pins σ H1 { s1 with heap := h' } := I1.kept (t' := s1.toks) hk
    refine ⟨s1.heap.objs.size + 4, [s1.heap.objs.size + 4, s1.heap.objs.size + 2, s1.heap.objs.size + 3, s1.heap.objs.size, s1.heap.objs.size + 1], _, _, H1, rfl, I2, turn_zipE (tu := tu) (tv := tv) (xs := xs) (ys := ys) (Heap.lt_size eb) (Heap.lt_size eb2), ⟨hz, hTI, ⟨_, _, hTO⟩, back1 _ _ g1, back2 _ _ g2⟩, fun z hz => ?_, ?_⟩
    · have e' : z = s1.heap.objs.size + 4 ∨ z = s1.heap.objs.size + 2 ∨ z = s1.heap.objs.size + 3 ∨ z = s1.heap.objs.size ∨ z = s1.heap.objs.size + 1 := by simpa using hz
      have hle : s1.heap.objs.size ≤ z := by
        rcases e' with z | z | z | z | z
        · rw [z]; exact Nat.le_add_right _ _
        · rw [z]; exact Nat.le_add_right _ _
        · rw [z]; exact Nat.le_add_right _ _
        · rw [z]; exact Nat.le_refl _
        · rw [z]; exact Nat.le_add_right _ _
      exact I1.fpOk hle (I1.hok.fresh hle)
    · refine q _ _ _ x1 (walkD_pairs (by rw [zip2L_length, ← da.length]; exact Nat.le_trans (Nat.min_le_left _ _) zx) (by rw [zip2L_length, da.length, db.length]) (fun H s => ⟨f.k ▸ SqE.mono s sq, f.k ▸ SqE.mono s sq2⟩) fun i x y hi e1 e2 => ?_)
      obtain ⟨d1, e3, q3⟩ := da.at e1
      obtain ⟨d2, e4, q4⟩ := db.at e2
      exact ⟨d1, d2, zip2L_get ds es i d1 d2 e3 e4, q3, q4⟩
theorem dict_of {F : Hp} {x : V} {kvs : List (D × D)} (hd : c.Dt F x (.dict kvs)) : ∃ b o, x = .ref b ∧ F b = some (RawO b o) ∧ (b == sysModules) = false ∧ DAlt c.P c.w c.K F o kvs := by
  cases hd with
  | dc1 h z k a => exact ⟨_, _, rfl, h, z, .inl ⟨_, k, a⟩⟩
  | dc2 h z k a => exact ⟨_, _, rfl, h, z, .inr ⟨_, _, k, a⟩⟩
theorem si_items {e : Expr} {a : E} {apos cpos tpos : Pos} {elts : List Expr} {kk : Nat} (he : PE X e (tE c W a)) (hbase : attributeBase e "items" X.env (eval e X.env) = eval e X.env) (hline : (apos.endLine == cpos.line) = true) :
    PI X (.Tuple elts kk tpos) (.Call (.Attribute e "items" apos) [] [] cpos) (tI c W true (.items a)) := by
  refine ⟨fun pins s σ H R I h => ?_⟩
  obtain ⟨env, F, r, h⟩ := h
  refine wpAny_Call_method (T := "dict") (id := "dict.items") hbase rfl hline PySem.F.plainAttrs_dict PySem.F.slot_dict_items PySem.F.type_dict_items (thn (he.run pins s σ H (fun v H1 => ∃ F1 kvs, Ext H F H1 F1 ∧ c.Dt F1 v (.dict kvs) ∧ ∀ J H' F', Ext H F H' F' → WalkD c true J F' (kvs.map fun kv => .tuple [kv.1, kv.2]) → R J H') I
    ⟨env, F, r, h.bind.imp fun d _ k v H' F' x y => ?_⟩) fun u s1 ⟨x, H1, I1, rx, F1, kvs, x1, hd, q⟩ => ?_)
  · cases d with
    | dict kvs => exact ⟨F', kvs, x, y, k⟩
    | _ => exact k.elim
  · obtain ⟨b, o, rfl, e0, lo, alt⟩ := dict_of hd
    cases rx
    obtain ⟨ps, ⟨ex, es, ep, hdt, en⟩, zp, dk, dv⟩ := raw_of alt
    have hr := Inv.raw I1 (x1.s _ _ e0)
    have hm : s1.heap.DictRaw b es ep := ⟨o, hr, ex, hdt⟩
    refine ⟨hm.typeIs, fun a e => ⟨o, by cases e; exact hr, ex.2.1⟩, ?_⟩
    have I2 : Inv X pins σ H1 { s1 with heap := s1.heap.push { cls := .type "dict_items", data := .fields #[.ref b] } } := I1.kept (t' := s1.toks) fun b ob q => Heap.get?_push_of_some _ q
    have hl : ps.length = es.size := (EnR.length en).trans Array.length_toList
    have hl2 : ps.length = kvs.length := by have := dv.length; simpa using this
    have fin : wpAny (model X.prog X.w) X.A (pyIter (.ref s1.heap.objs.size)) (PIE X pins σ (.Tuple elts kk tpos) R) X.xe { s1 with heap := s1.heap.push { cls := .type "dict_items", data := .fields #[.ref b] } } := by
      refine wpAny_pyIter_items_raw (d := b) (es := es) (ep := ep) ⟨_, Heap.get?_push_size _ rfl, rfl, rfl⟩ (hm.at fun o e => Heap.get?_push_of_some _ e) (pi_one (tk := s1.toks) I2 _ (turn_ri ex hdt en) ⟨⟨.none, .none, Heap.get?_push_size _ rfl⟩, ?_⟩ ?_)
      · exact Nat.ne_of_lt (Heap.lt_size (Heap.get?_push_of_some _ hr))
      · refine q _ _ _ x1 (walkD_pairs (by rw [List.length_map, ← hl2]; exact zp) (by rw [List.length_map, ← hl2, hl]) (fun H s => s _ _ e0) fun i x y hi e1 e2 => ?_)
        obtain ⟨dx, e3, q3⟩ := dk.at (i := i) (v := x) (by rw [List.getElem?_map]; exact e1)
        obtain ⟨dy, e4, q4⟩ := dv.at (i := i) (v := y) (by rw [List.getElem?_map]; exact e2)
        refine ⟨dx, dy, ?_, q3, q4⟩
        unfold keysOf at e3
        rw [List.getElem?_map] at e3 e4 ⊢
        cases q : kvs[i]? with
        | none => rw [q] at e3; cases e3
        | some kv =>
          rw [q] at e3 e4
          cases e3
          cases e4
          rfl
    show wpAny _ _ (callWith cpos (.builtin "dict.items") [.ref b] [] []) _ X.xe s1
    exact method_meetsIn PySem.F.slot_dict_items PySem.F.entry_dict_items rfl (PySem.evalArgs_none ⟨rfl, hm.typeIs, PySem.F.args_dict_items_1 _, _, meets_dict_items_raw b lo, ⟨es, ep, hm⟩, fin⟩)
theorem si_values {e : Expr} {a : E} {apos cpos : Pos} (he : PE X e (tE c W a)) (hbase : attributeBase e "values" X.env (eval e X.env) = eval e X.env) (hline : (apos.endLine == cpos.line) = true) :
    PI X tg (.Call (.Attribute e "values" apos) [] [] cpos) (tI c W false (.values a)) := by
  refine ⟨fun pins s σ H R I h => ?_⟩
  obtain ⟨env, F, r, h⟩ := h
  refine wpAny_Call_method (T := "dict") (id := "dict.values") hbase rfl hline PySem.F.plainAttrs_dict PySem.F.slot_dict_values PySem.F.type_dict_values (thn (he.run pins s σ H (fun v H1 => ∃ F1 kvs, Ext H F H1 F1 ∧ c.Dt F1 v (.dict kvs) ∧ ∀ J H' F', Ext H F H' F' → WalkD c false J F' (kvs.map fun kv => kv.2) → R J H') I
    ⟨env, F, r, h.bind.imp fun d _ k v H' F' x y => ?_⟩) fun u s1 ⟨x, H1, I1, rx, F1, kvs, x1, hd, q⟩ => ?_)
  · cases d with
    | dict kvs => exact ⟨F', kvs, x, y, k⟩
    | _ => exact k.elim
  · obtain ⟨b, o, rfl, e0, lo, alt⟩ := dict_of hd
    cases rx
    obtain ⟨ps, ⟨ex, es, ep, hdt, en⟩, zp, dk, dv⟩ := raw_of alt
    have hr := Inv.raw I1 (x1.s _ _ e0)
    have hm : s1.heap.DictRaw b es ep := ⟨o, hr, ex, hdt⟩
    refine ⟨hm.typeIs, fun a e => ⟨o, by cases e; exact hr, ex.2.1⟩, ?_⟩
    have I2 : Inv X pins σ H1 { s1 with heap := s1.heap.push { cls := .type "dict_values", data := .fields #[.ref b] } } := I1.kept (t' := s1.toks) fun b ob q => Heap.get?_push_of_some _ q
    have fin : wpAny (model X.prog X.w) X.A (pyIter (.ref s1.heap.objs.size)) (PIE X pins σ tg R) X.xe { s1 with heap := s1.heap.push { cls := .type "dict_values", data := .fields #[.ref b] } } :=
      wpAny_pyIter_values_raw (d := b) (es := es) (ep := ep) ⟨_, Heap.get?_push_size _ rfl, rfl, rfl⟩ (hm.at fun o e => Heap.get?_push_of_some _ e) (pi_one (tk := s1.toks) I2 _ (turn_rv ex hdt en) ⟨_, Heap.get?_push_size _ rfl, rfl, rfl⟩ (q _ _ _ x1 (walkD_vals zp e0 dv)))
    show wpAny _ _ (callWith cpos (.builtin "dict.values") [.ref b] [] []) _ X.xe s1
    exact method_meetsIn PySem.F.slot_dict_values PySem.F.entry_dict_values rfl (PySem.evalArgs_none ⟨rfl, hm.typeIs, PySem.F.args_dict_values_1 _, _, meets_dict_values_raw b lo, ⟨es, ep, hm⟩, fin⟩)
end
end SH

set_option Elab.async false
set_option linter.all false
set_option maxRecDepth 100000
set_option maxHeartbeats 4000000
/-! Targets; list comprehensions. -/
namespace SH
open PySem PySem.Spec PyProof.Rows L2
variable [Tb]
/-! ### targets -/
def gNames : List Nat → TGs
  | [] => gNil
  | j :: js => gCons (gName j) (gNames js)
def tgG (K : PySem.W.Frag) : Tg → TG
  | .one i => gName i
  | .tup js => gTup K js.length (gNames js)
def tgIn (own : List Nat) : Tg → Bool
  | .one i => own.contains i
  | .tup js => js.all fun j => own.contains j
/-- a target that takes a pair that the walk made -/
def tgPr : Tg → Bool
  | .one _ => false
  | .tup _ => true
def setsV : List Nat → List V → L2.St → L2.St
  | j :: js, v :: vs, σ => setsV js vs (σ.set j (some v))
  | _, _, σ => σ
def setsC : List Nat → List D → En → En
  | j :: js, d :: ds, env => setsC js ds (env.set j (some (.fz d)))
  | _, _, env => env
theorem setsC_eq : ∀ (js : List Nat) (ds : List D) (env : En), (js.zip ds).foldl (fun e p => e.set p.1 (some (.fz p.2))) env = setsC js ds env
  | [], _, _ => by simp [setsC]
  | _ :: _, [], _ => by simp [setsC]
  | j :: js, d :: ds, env => by simp only [List.zip_cons_cons, List.foldl_cons, setsC]; exact setsC_eq js ds _
theorem gNames_go : ∀ {js : List Nat} {vs : List V} {σ : L2.St} {H : Hp} {Q : L2.St → Hp → Prop}, js.length = vs.length → Q (setsV js vs σ) H → gNames js vs σ H Q
  | [], [], σ, H, Q, _, h => ⟨rfl, h⟩
  | j :: js, v :: vs, σ, H, Q, e, h => ⟨v, vs, rfl, gNames_go (js := js) (by simpa using e) h⟩
theorem setsV_length : ∀ (js : List Nat) (vs : List V) (σ : L2.St), (setsV js vs σ).length = σ.length
  | [], _, _ => by simp [setsV]
  | _ :: _, [], _ => by simp [setsV]
  | j :: js, v :: vs, σ => by simp only [setsV]; rw [setsV_length]; simp
theorem setsV_get : ∀ (js : List Nat) (vs : List V) (σ : L2.St) {own : List Nat} {i : Nat}, (∀ j ∈ js, j ∈ own) → i ∉ own → (setsV js vs σ)[i]? = σ[i]?
  | [], _, _, _, _, _, _ => by simp [setsV]
  | _ :: _, [], _, _, _, _, _ => by simp [setsV]
  | j :: js, v :: vs, σ, own, i, ho, hi => by
    simp only [setsV]
    rw [setsV_get js vs _ (fun k hk => ho k (by simp [hk])) hi, List.getElem?_set_ne (show j ≠ i from fun e => hi (by subst e; exact ho j (by simp)))]
section
variable {c : Cn} {W : WX} {X : Cx} {F F0 H H' : Hp} {env : En} {σ : L2.St}
theorem RelE.set {i : Nat} {v : V} {cl : Cell} (r : c.RelE env σ H F) (h : CellOk c.P c.w c.K F H cl v) : c.RelE (env.set i (some cl)) (σ.set i (some v)) H F := by
  refine ⟨r.s, by simp [r.len], fun j c' e => ?_, r.t⟩
  by_cases hj : i = j
  · subst hj
    have hl : i < env.length := by
      have := (List.getElem?_eq_some_iff.mp e).1
      simpa using this
    rw [List.getElem?_set_self hl] at e
    cases e
    exact ⟨v, by rw [List.getElem?_set_self (by rw [← r.len]; exact hl)], h⟩
  · rw [List.getElem?_set_ne hj] at e
    obtain ⟨u, e1, q⟩ := r.cell j c' e
    exact ⟨u, by rw [List.getElem?_set_ne hj]; exact e1, q⟩
theorem RelE.sets : ∀ {js : List Nat} {vs : List V} {ds : List D} {env : En} {σ : L2.St}, c.RelE env σ H F → c.DtAll F vs ds → c.RelE (setsC js ds env) (setsV js vs σ) H F
  | [], _, _, _, _, r, _ => by simpa [setsC, setsV] using r
  | _ :: _, _, _, _, _, r, .nil => by simpa [setsC, setsV] using r
  | j :: js, _, _, _, _, r, .cons h t => by
    simp only [setsC, setsV]
    exact RelE.sets (RelE.set r (cl := .fz _) h) t
theorem bind_go {pr : Bool} {t : Tg} {x : V} {d : D} {env2 : En} {Q : L2.St → Hp → Prop} (f : Fits c X) (r : c.RelE env σ H F) (s0 : Sub F0 F) (hp : pr = true → tgPr t = true) (iv : ItV c pr F0 H x H' d) (hb : bindT t d env = some env2)
    (q : ∀ σ2, Ext H F H' F → (∀ H2 F2, c.RelE env σ H2 F2 → Sub F F2 → c.RelE env2 σ2 H2 F2) → (∀ own, tgIn own t = true → ∀ i, i ∉ own → σ2[i]? = σ[i]?) → σ2.length = σ.length → Q σ2 H') : tgG X.K t x σ H' Q := by
  cases t with
  | one i =>
    rcases iv with ⟨e, h⟩ | ⟨e, _⟩
    · subst e
      cases hb
      refine q _ (Ext.refl r.s) (fun H2 F2 r2 s2 => RelE.set r2 (cl := .fz d) (Dt.mono s2 (Dt.mono s0 h))) (fun own ho j hj => ?_) (by simp)
      have hi : i ∈ own := by simpa [tgIn] using ho
      exact List.getElem?_set_ne (show i ≠ j from fun e => hj (by subst e; exact hi))
    · exact absurd (hp e) (by simp [tgPr])
  | tup js =>
    have fin : ∀ ds, d = .tuple ds → ∃ xs a, x = .ref a ∧ SqT X.K H' a xs ∧ c.DtAll F xs ds ∧ Ext H F H' F := fun ds e => by
      rcases iv with ⟨e1, h⟩ | ⟨_, T, y, z, dy, dz, e1, e2, e3, e4, q1, q2⟩
      · subst e e1
        cases h with
        | tup sq z da => exact ⟨_, _, rfl, f.k ▸ SqT.mono r.s (SqT.mono s0 sq.1), da.mono s0, Ext.refl r.s⟩
      · subst e e3
        cases e4
        exact ⟨[y, z], T, e1, .inl (.inl upd_same), .cons (Dt.mono s0 q1) (.cons (Dt.mono s0 q2) .nil), Ext.newO r.s e2⟩
    cases d with
    | tuple ds =>
      obtain ⟨xs, a, rfl, sq, da, x1⟩ := fin ds rfl
      have hb : (if js.length = ds.length then some ((js.zip ds).foldl (fun e p => e.set p.1 (some (.fz p.2))) env) else none) = some env2 := hb
      by_cases hl : js.length = ds.length
      · rw [if_pos hl, setsC_eq] at hb
        cases hb
        have hl2 : js.length = xs.length := by rw [hl, da.length]
        refine ⟨a, xs, rfl, sq, hl2.symm, gNames_go hl2 (q _ x1 (fun H2 F2 r2 s2 => RelE.sets r2 (da.mono s2)) (fun own ho i hi => ?_) ?_)⟩
        · have ho : ∀ j ∈ js, j ∈ own := by
            simpa [tgIn] using ho
          exact setsV_get js xs σ ho hi
        · exact setsV_length js xs σ
      · rw [if_neg hl] at hb; cases hb
    | _ => cases hb
/-! ### a block's own names -/
theorem wipe_get : ∀ {vs : List Nat} {σ : L2.St} {i : Nat}, i ∉ vs → (wipe σ vs)[i]? = σ[i]?
  | [], _, _, _ => rfl
  | v :: vs, σ, i, h => by
    simp only [wipe]
    rw [List.getElem?_set_ne (show v ≠ i from fun e => h (by simp [e])), wipe_get (fun z => h (by simp [z]))]
theorem wipe_in : ∀ {vs : List Nat} {σ : L2.St} {i : Nat}, i ∈ vs → i < σ.length → (wipe σ vs)[i]? = some none
  | v :: vs, σ, i, h, hl => by
    simp only [wipe]
    by_cases e : v = i
    · subst e
      rw [List.getElem?_set_self (by rw [wipe_length]; exact hl)]
    · rw [List.getElem?_set_ne e]
      exact wipe_in (by simpa [Ne.symm e] using h) hl
/-- slots that stand apart from the block's own agree -/
theorem wipe_same {vs : List Nat} {σ τ : L2.St} (hl : τ.length = σ.length) (h : ∀ i, i ∉ vs → τ[i]? = (wipe σ vs)[i]?) : wipe τ vs = wipe σ vs := by
  apply List.ext_getElem?
  intro i
  by_cases hi : i ∈ vs
  · by_cases hj : i < σ.length
    · rw [wipe_in hi hj, wipe_in hi (by omega)]
    · rw [List.getElem?_eq_none (by rw [wipe_length]; omega), List.getElem?_eq_none (by rw [wipe_length]; omega)]
  · rw [wipe_get hi, h i hi]
theorem wipeE_length : ∀ (own : List Nat) (env : En), (wipeE own env).length = env.length
  | [], _ => rfl
  | o :: own, env => by
    show (wipeE own (env.set o none)).length = _
    rw [wipeE_length own]; simp
theorem wipeE_some : ∀ {own : List Nat} {env : En} {i : Nat} {c : Cell}, (wipeE own env)[i]? = some (some c) → env[i]? = some (some c) ∧ i ∉ own
  | [], _, _, _, h => ⟨h, by simp⟩
  | o :: own, env, i, c, h => by
    obtain ⟨h1, h2⟩ := wipeE_some (own := own) (env := env.set o none) h
    by_cases e : o = i
    · subst e
      have hl : o < env.length := by have := (List.getElem?_eq_some_iff.mp h1).1; simpa using this
      rw [List.getElem?_set_self hl] at h1
      cases h1
    · rw [List.getElem?_set_ne e] at h1
      exact ⟨h1, by simp [Ne.symm e, h2]⟩
theorem RelE.wipe {own : List Nat} (r : c.RelE env σ H F) : c.RelE (wipeE own env) (L2.wipe σ own) H F :=
  ⟨r.s, by rw [wipeE_length, wipe_length]; exact r.len, fun i cl e => by
    obtain ⟨h1, h2⟩ := wipeE_some e
    obtain ⟨v, e1, q⟩ := r.cell i cl h1
    exact ⟨v, by rw [wipe_get h2]; exact e1, q⟩, r.t⟩
/-! ### tests of a clause -/
def tTs (c : Cn) (W : WX) (ms : Es) : TT := fun σ H Q => ∃ env F, c.RelE env σ H F ∧ Wants (evIfs c.C c.G ms env) W c.cl σ H fun b => ∀ H' F', Ext H F H' F' → Q b H'
theorem spts_nil : PTs X [] (tTs c W .nil) := ⟨fun pins s σ H Q I h => pts_nil.run pins s σ H Q I (by obtain ⟨env, F, r, q⟩ := h; exact q _ _ (Ext.refl r.s))⟩
theorem spts_one {e : Expr} {m : E} (h : PT X e (tT c W m)) : PTs X [e] (tTs c W (.cons m .nil)) := ⟨fun pins s σ H Q I hw => (pts_one h).run pins s σ H Q I (by
  obtain ⟨env, F, r, q⟩ := hw
  refine ⟨env, F, r, ?_⟩
  have e1 : evIfs c.C c.G (.cons m .nil) env = ((evE c.C c.G m env).bind fun d => R.of (boolD d)).bind fun b => .ok b := by
    simp only [evIfs, Wants.assoc]
    congr 1; funext d; congr 1; funext b; cases b <;> rfl
  rw [e1] at q
  exact q.bind.imp fun b _ k H' F' x => k H' F' x)⟩
/-- none is wished -/
abbrev W0 : WX := fun _ _ _ _ => False
theorem Wants.ok0 {A : Type} {r : R A} {W : WX} {cl : Nat → Value} {σ : L2.St} {H : Hp} {k : A → Prop} {a : A} (e : r = .ok a) (h : k a) : Wants r W cl σ H k := by subst e; exact h
theorem bind_ok_inv {A B : Type} {r : R A} {f : A → R B} {b : B} (h : r.bind f = .ok b) : ∃ a, r = .ok a ∧ f a = .ok b := by
  cases r with
  | ok a => exact ⟨a, rfl, h⟩
  | exc _ => cases h
  | bad => cases h
theorem of_ok_inv {A : Type} {o : Option A} {a : A} (h : R.of o = .ok a) : o = some a := by
  cases o with
  | none => cases h
  | some b => cases h; rfl
/-- a thing that the walk has not frozen stays so -/
theorem Ext.apart {H F H' F' : Hp} {D : Addr} {o : HO} (x : Ext H F H' F') (h : H D = some o) (n : F D = none) : F' D = none := by
  cases e : F' D with
  | none => rfl
  | some u =>
    rcases x.n D (by rw [e]; exact Option.some_ne_none u) with q | q
    · exact absurd n q
    · rw [h] at q; cases q
/-- a thing of one's own is changed -/
theorem Ext.grow {H1 F1 H F : Hp} {D : Addr} {o u : HO} (x : Ext H1 F1 H F) (h1 : H1 D = none) (n : F D = none) (h : H D = some u) (nc : NotCode D u) : Ext H1 F1 (upd H D o) F :=
  ⟨x.h.upd h1 h nc, x.f, x.s.upd n, x.n⟩
theorem notCode_raw {a : Addr} {o : Obj} (h : ∃ es ep, o.data = .dict es ep) : NotCode a (RawO a o) := by
  refine ⟨(fun _ h => by unfold RawO at h; cases h), fun q e => ?_⟩
  unfold RawO LamX.CodeO at e
  injection e with e
  obtain ⟨es, ep, hd⟩ := h
  have hg : (⟨Array.replicate (a + 1) o, default⟩ : Heap).get? a = some o := by
    unfold Heap.get?
    simp only [Array.getElem?_replicate]
    rw [if_pos (Nat.lt_succ_self _)]
    obtain ⟨c, d, dt, sl⟩ := o
    simp only at hd
    subst hd
    rfl
  have z := congrFun e (⟨Array.replicate (a + 1) o, default⟩ : Heap)
  have z2 : ((⟨Array.replicate (a + 1) o, default⟩ : Heap).get? a = some o) = _ := z
  obtain ⟨oc, vs, t, h1, h2, _⟩ := z2.mp hg
  rw [hg] at h1
  cases h1
  rw [hd] at h2
  cases h2
theorem own_code {P : Program} {w : World} {K : PySem.W.Frag} {F H : Hp} {a : Addr} {d : D} (h : Own P w K F H a d) : ∃ u, H a = Option.some u ∧ NotCode a u := by
  cases d with
  | list ds => obtain ⟨xs, e, _⟩ := h; exact ⟨_, e, notCode_lst⟩
  | dict kvs =>
    obtain ⟨o, e, _, t⟩ := h
    refine ⟨_, e, notCode_raw ?_⟩
    rcases t with ⟨_, ⟨_, ⟨es, ep, _, h1, _⟩, _⟩, _⟩ | ⟨_, _, ⟨_, ⟨es, ep, _, h1, _⟩, _⟩, _⟩
    · exact ⟨es, ep, h1⟩
    · exact ⟨es, ep, h1⟩
  | _ => exact h.elim
theorem lc_ent {own : List (Str × Nat)} {t : Tg} {it : SH.It} {mi : Es} {m : E} {pr : Bool} (f : Fits c X) (hpr : pr = true → tgPr t = true) (hin : tgIn (own.map (·.2)) t = true) : ∀ σ H Q, tO c W (.lc (own.map (·.2)) m t it mi) σ H Q → tLc (tI c W pr it) (tgG X.K t) (tTs c W0 mi) (tE c W0 m) (own.map (·.2)) σ H Q :=
  fun σ H Q ⟨env, F, r, h⟩ => by
    refine ⟨env, F, r, h.bind.imp fun ds _ k J H1 F1 x1 wd D hD => ?_⟩
    obtain ⟨rs, e1, k⟩ := k.bind.calm
    have r1 := r.ext x1
    have hw : Walk J ds.length (fun H => Sub F1 H) (fun i H x H' => ∃ d, ds[i]? = some d ∧ ItV c pr F1 H x H' d) := ⟨wd.goes, wd.stops, wd.yields⟩
    refine lc_it hw (fun i H => ∃ F acc dacc rest, Ext H1 F1 H F ∧ F D = none ∧ H D = some (.lst acc) ∧ c.DtAll F acc dacc ∧ acc.length ≤ i ∧ lcLoop (fun d =>
      (R.of (bindT t d (wipeE (own.map (·.2)) env))).bind fun e => (evIfs c.C c.G mi e).bind fun k => if k = true then (evE c.C c.G m e).bind fun y => .ok (some y) else .ok none) (ds.drop i) = .ok rest ∧ dacc ++ rest = rs)
      ⟨F1, [], [], rs, Ext.newO x1.s hD, x1.s.no hD, upd_same, .nil, Nat.zero_le _, e1, rfl⟩ (fun i H _ p => let ⟨F, _, _, _, x, _⟩ := p; x.f.trans x.s) (fun i x H H' hi p y => ?_) (fun H p => ?_)
    · obtain ⟨F2, acc, dacc, rest, x2, n2, hl, da, hb, el, er⟩ := p
      obtain ⟨d, ed, iv⟩ := y
      rw [List.drop_eq_getElem_cons hi] at el
      have ed2 : ds[i] = d := by rw [List.getElem?_eq_getElem hi] at ed; exact Option.some.inj ed
      rw [ed2] at el
      obtain ⟨o, e3, el⟩ := bind_ok_inv el
      obtain ⟨r', e4, el⟩ := bind_ok_inv el
      obtain ⟨env2, e5, e3⟩ := bind_ok_inv e3
      obtain ⟨b, e6, e3⟩ := bind_ok_inv e3
      have r2 : c.RelE (wipeE (own.map (·.2)) env) (L2.wipe σ (own.map (·.2))) H F2 := RelE.wipe (r1.ext x2)
      refine bind_go (F0 := F1) (F := F2) f r2 x2.f hpr iv (of_ok_inv e5) fun σ2 xa up hag hlen => ⟨wipe_same (by rw [hlen, wipe_length]) (fun i hi => hag _ hin i hi), env2, F2, up _ _ (r2.ext xa) Sub.refl, Wants.ok0 e6 fun H3 F3 x3 => ?_⟩
      have ra := up _ _ (r2.ext xa) Sub.refl
      have xa3 := xa.trans x3
      have hl3 : H3 D = some (.lst acc) := xa3.h.get hl (fun _ h => nomatch h)
      have n3 : F3 D = none := Ext.apart xa3 hl n2
      cases b with
      | false =>
        simp only [Bool.false_eq_true, if_false]
        rw [if_neg Bool.false_ne_true] at e3
        cases e3
        cases el
        exact ⟨F3, acc, dacc, r', x2.trans xa3, n3, hl3, da.mono xa3.f, by omega, e4, er⟩
      | true =>
        simp only [if_true]
        rw [if_pos rfl] at e3
        obtain ⟨y, e7, e3⟩ := bind_ok_inv e3
        cases e3
        cases el
        refine ⟨env2, F3, ra.ext x3, Wants.ok0 e7 fun v H4 F4 x4 y4 => ⟨acc, x4.h.get hl3 (fun _ h => nomatch h), Nat.lt_of_lt_of_le (Nat.lt_of_le_of_lt hb hi) wd.big, ?_⟩⟩
        have n4 : F4 D = none := Ext.apart x4 hl3 n3
        refine ⟨F4, acc ++ [v], dacc ++ [y], r', Ext.grow (x2.trans (xa3.trans x4)) hD n4 (x4.h.get hl3 (fun _ h => nomatch h)) notCode_lst, n4, upd_same, (da.mono (xa3.f.trans x4.f)).append (.cons y4 .nil), by simp; omega, e4, by rw [← er]; simp⟩
    · obtain ⟨F2, acc, dacc, rest, x2, n2, hl, da, hb, el, er⟩ := p
      have e0 : rest = [] := by
        have : ds.drop ds.length = [] := by simp
        rw [this] at el
        simpa [lcLoop] using el.symm
      subst e0
      rw [List.append_nil] at er
      subst er
      exact k _ _ _ (x1.trans x2) ⟨D, rfl, x1.h.no hD, n2, acc, hl, Nat.le_trans hb wd.big, da⟩
theorem sx_lc {elt tg iter : Expr} {ifs : List Expr} {scope : Scope} {own : List (Str × Nat)} {pos : Pos} {t : Tg} {it : SH.It} {mi : Es} {m : E} {pr : Bool} (f : Fits c X) (hc : X.calm = true) (hN : X.N.Nodup) (hi : PI X tg iter (tI c W pr it)) (ok : BlkOk X.N X.env.scope scope own)
    (hpr : pr = true → tgPr t = true) (hin : tgIn (own.map (·.2)) t = true)
    (hg : ∀ (s : Shared) (H : Hp) (C : Addr) (cl : List (Str × Addr)) (fp : List Addr), PG (X.blk s H scope (compEnvC scope cl C X.env) fp) tg (tgG X.K t))
    (ht : ∀ (s : Shared) (H : Hp) (C : Addr) (cl : List (Str × Addr)) (fp : List Addr), PTs (X.blk s H scope (compEnvC scope cl C X.env) fp) ifs (tTs c W0 mi))
    (he : ∀ (s : Shared) (H : Hp) (C : Addr) (cl : List (Str × Addr)) (fp : List Addr), PE (X.blk s H scope (compEnvC scope cl C X.env) fp) elt (tE c W0 m)) (hs : ∀ x, foldedSetIterable iter X.env x = pure x) :
    PE X (.ListComp elt [⟨tg, iter, ifs, 0⟩] scope pos) (tO c W (.lc (own.map (·.2)) m t it mi)) :=
  (pe_lc hc hN hi ok hg ht he hs).mono (lc_ent f hpr hin)
end
end SH

set_option Elab.async false
set_option linter.all false
set_option maxRecDepth 100000
set_option maxHeartbeats 4000000
/-! List comprehensions of two clauses. -/
namespace SH
open PySem PySem.Spec PyProof.Rows L2
variable [Tb]
section
variable {c : Cn} {W : WX} {X : Cx}
theorem lc2_ent {own : List (Str × Nat)} {vs1 : List Nat} {t t1 : Tg} {it it1 : SH.It} {mi mi1 : Es} {m : E} {pr pr1 : Bool} (f : Fits c X)
    (hpr : pr = true → tgPr t = true) (hin : tgIn (own.map (·.2)) t = true) (hpr1 : pr1 = true → tgPr t1 = true) (hin1 : tgIn vs1 t1 = true) (hv : ∀ i ∈ vs1, i ∈ own.map (·.2)) :
    ∀ σ H Q, tO c W (.lc2 (own.map (·.2)) vs1 m t it mi t1 it1 mi1) σ H Q → tLc2 (tI c W pr it) (tgG X.K t) (tTs c W0 mi) (tI c W0 pr1 it1) (tgG X.K t1) (tTs c W0 mi1) (tE c W0 m) (own.map (·.2)) vs1 σ H Q :=
  fun σ H Q ⟨env, F, r, h⟩ => by
    refine ⟨env, F, r, h.bind.imp fun ds _ k J H1 F1 x1 wd D hD => ?_⟩
    obtain ⟨rs, e1, k⟩ := k.bind.calm
    have hrs : rs.length ≤ lim := by
      by_cases z : rs.length ≤ lim
      · exact z
      · rw [if_neg z] at k; exact k.elim
    rw [if_pos hrs] at k
    have r1 := r.ext x1
    generalize hf : (fun e d1 => (R.of (bindT t1 d1 (wipeE vs1 e))).bind fun e1 => (evIfs c.C c.G mi1 e1).bind fun k1 => if k1 = true then (evE c.C c.G m e1).bind fun y => R.ok (some y) else R.ok none) = fin at e1
    have e1 : lc2Loop (fun d => (R.of (bindT t d (wipeE (own.map (·.2)) env))).bind fun e => (evIfs c.C c.G mi e).bind fun k => if k = true then (evI c.C c.G it1 e).bind fun ds1 => lcLoop (fin e) ds1 else .ok []) ds = .ok rs := by
      rw [← hf]; exact e1
    let P : Nat → Hp → Prop := fun i H => ∃ F acc dacc rest, Ext H1 F1 H F ∧ F D = none ∧ H D = some (.lst acc) ∧ c.DtAll F acc dacc ∧
      lc2Loop (fun d => (R.of (bindT t d (wipeE (own.map (·.2)) env))).bind fun e => (evIfs c.C c.G mi e).bind fun k => if k = true then (evI c.C c.G it1 e).bind fun ds1 => lcLoop (fin e) ds1 else .ok []) (ds.drop i) = .ok rest ∧ dacc ++ rest = rs
    refine ⟨fun i n H => n = ds.length - i ∧ i ≤ ds.length ∧ P i H, ⟨ds.length, by simp, Nat.zero_le _, F1, [], [], rs, Ext.newO x1.s hD, x1.s.no hD, upd_same, .nil, e1, rfl⟩, ?_⟩
    rintro i n H ⟨rfl, hile, p⟩
    have hsub : Sub F1 H := by obtain ⟨F, _, _, _, x, _⟩ := p; exact x.f.trans x.s
    by_cases hlt : i < ds.length
    · refine .inr ⟨wd.goes i H hlt hsub, P (i + 1), fun H' p' => ⟨ds.length - (i + 1), by omega, rfl, hlt, p'⟩, fun x H' y => ?_⟩
      obtain ⟨d, ed, iv⟩ := wd.yields i H x H' hlt hsub y
      obtain ⟨F2, acc, dacc, rest, x2, n2, hl, da, el, er⟩ := p
      rw [List.drop_eq_getElem_cons hlt] at el
      have ed2 : ds[i] = d := by rw [List.getElem?_eq_getElem hlt] at ed; exact Option.some.inj ed
      rw [ed2] at el
      obtain ⟨o, e3, el⟩ := bind_ok_inv el
      obtain ⟨r', e4, el⟩ := bind_ok_inv el
      obtain ⟨env2, e5, e3⟩ := bind_ok_inv e3
      obtain ⟨b, e6, e3⟩ := bind_ok_inv e3
      cases el
      have r2 : c.RelE (wipeE (own.map (·.2)) env) (L2.wipe σ (own.map (·.2))) H F2 := RelE.wipe (r1.ext x2)
      refine bind_go (F0 := F1) (F := F2) f r2 x2.f hpr iv (of_ok_inv e5) fun σ2 xa up hag hlen => ⟨wipe_same (by rw [hlen, wipe_length]) (fun i hi => hag _ hin i hi), env2, F2, up _ _ (r2.ext xa) Sub.refl, Wants.ok0 e6 fun H3 F3 x3 => ?_⟩
      have ra := up _ _ (r2.ext xa) Sub.refl
      have xa3 := xa.trans x3
      have hl3 : H3 D = some (.lst acc) := xa3.h.get hl (fun _ h => nomatch h)
      have n3 : F3 D = none := Ext.apart xa3 hl n2
      cases b with
      | false =>
        simp only [Bool.false_eq_true, if_false]
        rw [if_neg Bool.false_ne_true] at e3
        cases e3
        exact ⟨F3, acc, dacc, r', x2.trans xa3, n3, hl3, da.mono xa3.f, e4, er⟩
      | true =>
        simp only [if_true]
        rw [if_pos rfl] at e3
        obtain ⟨ds1, e7, e3⟩ := bind_ok_inv e3
        have ra3 := ra.ext x3
        refine ⟨env2, F3, ra3, Wants.ok0 e7 fun J1 H4 F4 x4 wd1 => ?_⟩
        have x24 : Ext H1 F1 H4 F4 := x2.trans (xa3.trans x4)
        have hl4 : H4 D = some (.lst acc) := x4.h.get hl3 (fun _ h => nomatch h)
        have n4 : F4 D = none := Ext.apart x4 hl3 n3
        have s24 : Sub F2 F4 := xa3.f.trans x4.f
        let P1 : Nat → Hp → Prop := fun j H => ∃ F acc dacc rest1, Ext H1 F1 H F ∧ Sub F4 F ∧ F D = none ∧ H D = some (.lst acc) ∧ c.DtAll F acc dacc ∧ lcLoop (fin env2) (ds1.drop j) = .ok rest1 ∧ dacc ++ (rest1 ++ r') = rs
        refine ⟨fun j n H => n = ds1.length - j ∧ j ≤ ds1.length ∧ P1 j H, ⟨ds1.length, by simp, Nat.zero_le _, F4, acc, dacc, o, x24, Sub.refl, n4, hl4, da.mono s24, e3, er⟩, ?_⟩
        rintro j n H ⟨rfl, hjle, p1⟩
        have hsub1 : Sub F4 H := by obtain ⟨F, _, _, _, x, s, _⟩ := p1; exact s.trans x.s
        by_cases hlt1 : j < ds1.length
        · refine .inr ⟨wd1.goes j H hlt1 hsub1, P1 (j + 1), fun H' p' => ⟨ds1.length - (j + 1), by omega, rfl, hlt1, p'⟩, fun x H' y => ?_⟩
          obtain ⟨d1, ed1, iv1⟩ := wd1.yields j H x H' hlt1 hsub1 y
          obtain ⟨F5, acc5, dacc5, rest5, x5, s5, n5, hl5, da5, el5, er5⟩ := p1
          rw [List.drop_eq_getElem_cons hlt1] at el5
          have ed3 : ds1[j] = d1 := by rw [List.getElem?_eq_getElem hlt1] at ed1; exact Option.some.inj ed1
          rw [ed3] at el5
          obtain ⟨o1, f3, el5⟩ := bind_ok_inv el5
          obtain ⟨r1', f4, el5⟩ := bind_ok_inv el5
          rw [← hf] at f3
          obtain ⟨env3, f5, f3⟩ := bind_ok_inv f3
          obtain ⟨b1, f6, f3⟩ := bind_ok_inv f3
          have r5 : c.RelE env2 σ2 H F5 := up _ _ (RelE.wipe (r1.ext x5)) (s24.trans s5)
          have r5w : c.RelE (wipeE vs1 env2) (L2.wipe σ2 vs1) H F5 := RelE.wipe r5
          refine bind_go (F0 := F4) (F := F5) f r5w s5 hpr1 iv1 (of_ok_inv f5) fun σ3 xb up1 hag1 hlen1 => ⟨wipe_same (by rw [hlen1, wipe_length]) (fun i hi => hag1 _ hin1 i hi), env3, F5, up1 _ _ (r5w.ext xb) Sub.refl, Wants.ok0 f6 fun H6 F6 x6 => ?_⟩
          have rb := up1 _ _ (r5w.ext xb) Sub.refl
          have xb6 := xb.trans x6
          have hl6 : H6 D = some (.lst acc5) := xb6.h.get hl5 (fun _ h => nomatch h)
          have n6 : F6 D = none := Ext.apart xb6 hl5 n5
          cases b1 with
          | false =>
            simp only [Bool.false_eq_true, if_false]
            rw [if_neg Bool.false_ne_true] at f3
            cases f3
            cases el5
            exact ⟨F6, acc5, dacc5, r1', x5.trans xb6, s5.trans xb6.f, n6, hl6, da5.mono xb6.f, f4, er5⟩
          | true =>
            simp only [if_true]
            rw [if_pos rfl] at f3
            obtain ⟨y, f7, f3⟩ := bind_ok_inv f3
            cases f3
            cases el5
            refine ⟨env3, F6, rb.ext x6, Wants.ok0 f7 fun v H7 F7 x7 y7 => ⟨acc5, x7.h.get hl6 (fun _ h => nomatch h), ?_, ?_⟩⟩
            · rw [da5.length, ← lim_eq]
              have : dacc5.length + 1 ≤ rs.length := by rw [← er5]; simp
              omega
            · have n7 : F7 D = none := Ext.apart x7 hl6 n6
              exact ⟨F7, acc5 ++ [v], dacc5 ++ [y], r1', Ext.grow (x5.trans (xb6.trans x7)) hD n7 (x7.h.get hl6 (fun _ h => nomatch h)) notCode_lst, s5.trans (xb6.f.trans x7.f), n7, upd_same, (da5.mono (xb6.f.trans x7.f)).append (.cons y7 .nil), f4, by rw [← er5]; simp⟩
        · have e : j = ds1.length := by omega
          subst e
          refine .inl ⟨wd1.stops H hsub1, ?_⟩
          obtain ⟨F5, acc5, dacc5, rest5, x5, s5, n5, hl5, da5, el5, er5⟩ := p1
          have e0 : rest5 = [] := by
            have : ds1.drop ds1.length = [] := by simp
            rw [this] at el5
            simpa [lcLoop] using el5.symm
          subst e0
          exact ⟨F5, acc5, dacc5, r', x5, n5, hl5, da5, e4, by simpa using er5⟩
    · have e : i = ds.length := by omega
      subst e
      refine .inl ⟨wd.stops H hsub, ?_⟩
      obtain ⟨F2, acc, dacc, rest, x2, n2, hl, da, el, er⟩ := p
      have e0 : rest = [] := by
        have : ds.drop ds.length = [] := by simp
        rw [this] at el
        simpa [lc2Loop] using el.symm
      subst e0
      rw [List.append_nil] at er
      subst er
      exact k _ _ _ (x1.trans x2) ⟨D, rfl, x1.h.no hD, n2, acc, hl, by rw [da.length, ← lim_eq]; exact hrs, da⟩
theorem sx_lc2 {elt tg iter tg1 iter1 : Expr} {ifs ifs1 : List Expr} {scope : Scope} {own : List (Str × Nat)} {vs1 : List Nat} {pos : Pos} {t t1 : Tg} {it it1 : SH.It} {mi mi1 : Es} {m : E} {pr pr1 : Bool} (f : Fits c X) (hc : X.calm = true) (hN : X.N.Nodup)
    (hi : PI X tg iter (tI c W pr it)) (ok : BlkOk X.N X.env.scope scope own) (hv : ∀ i ∈ vs1, i ∈ own.map (·.2))
    (hpr : pr = true → tgPr t = true) (hin : tgIn (own.map (·.2)) t = true) (hpr1 : pr1 = true → tgPr t1 = true) (hin1 : tgIn vs1 t1 = true)
    (hg : ∀ (s : Shared) (H : Hp) (C : Addr) (cl : List (Str × Addr)) (fp : List Addr), PG (X.blk s H scope (compEnvC scope cl C X.env) fp) tg (tgG X.K t))
    (ht : ∀ (s : Shared) (H : Hp) (C : Addr) (cl : List (Str × Addr)) (fp : List Addr), PTs (X.blk s H scope (compEnvC scope cl C X.env) fp) ifs (tTs c W0 mi))
    (hi1 : ∀ (s : Shared) (H : Hp) (C : Addr) (cl : List (Str × Addr)) (fp : List Addr), PI (X.blk s H scope (compEnvC scope cl C X.env) fp) tg1 iter1 (tI c W0 pr1 it1))
    (hg1 : ∀ (s : Shared) (H : Hp) (C : Addr) (cl : List (Str × Addr)) (fp : List Addr), PG (X.blk s H scope (compEnvC scope cl C X.env) fp) tg1 (tgG X.K t1))
    (ht1 : ∀ (s : Shared) (H : Hp) (C : Addr) (cl : List (Str × Addr)) (fp : List Addr), PTs (X.blk s H scope (compEnvC scope cl C X.env) fp) ifs1 (tTs c W0 mi1))
    (he : ∀ (s : Shared) (H : Hp) (C : Addr) (cl : List (Str × Addr)) (fp : List Addr), PE (X.blk s H scope (compEnvC scope cl C X.env) fp) elt (tE c W0 m))
    (hs : ∀ x, foldedSetIterable iter X.env x = pure x) (hs1 : ∀ env x, foldedSetIterable iter1 env x = pure x) :
    PE X (.ListComp elt [⟨tg, iter, ifs, 0⟩, ⟨tg1, iter1, ifs1, 0⟩] scope pos) (tO c W (.lc2 (own.map (·.2)) vs1 m t it mi t1 it1 mi1)) :=
  (pe_lc2 hc hN hi ok hv hg ht hi1 hg1 ht1 he hs hs1).mono (lc2_ent f hpr hin hpr1 hin1 hv)
end
end SH

set_option Elab.async false
set_option linter.all false
set_option maxRecDepth 100000
set_option maxHeartbeats 4000000
/-! Dicts made and written. -/
namespace SH
open PySem PySem.Spec PyProof.Rows L2
variable [Tb]
section
variable {c : Cn} {X : Cx} {pins : List (Addr × Obj)} {σ : L2.St} {H F : Hp} {s : Shared} {D : Addr} {E : Value → Shared → Prop}
theorem raw_ok {P : Program} {w : World} {H' : Hp} {h : Heap} {a : Addr} {o : Obj} (e : h.get? a = some o) : ObjOk P w H' h a (RawO a o) := ⟨e, ⟨_, e⟩, fun h1 h2 p k => k _ p⟩
/-- a pair is put into a dict of one's own -/
theorem put_go (f : Fits c X) (hu : X.A.units + 70 < cLine) {run : Sem Unit} {kvs : List (PyData × PyData)} {y z : V} {u r : Value} {kd d : PyData} {Q : Unit → Shared → Prop} (I : Inv X pins σ H s) (sb : Sub F H) (nD : F D = none) (own : c.Own F H D (.dict kvs))
    (ry : RelV y u) (rz : RelV z r) (hy : c.Dt F y kd) (hz : c.Dt F z d) (hf : keyFits kd kvs = true) (hl : kvs.length < lim)
    (h1 : ∀ (k : Key) (vs : List (Key × Value)), (mixKind X.prog X.w).is k u = true → s.heap.DictOf (mixKind X.prog X.w) D vs → vs.length ≤ sizeLine →
      (∀ h', h'.DictOf (mixKind X.prog X.w) D (stored vs k r) → Heap.SameBut D s.heap h' → Q () { s with heap := h', toks := s.toks + 1 }) → wpAny (model X.prog X.w) X.A run Q E s)
    (h2 : ∀ (k : NestedKey) (a : Addr) (vs : List (NestedKey × Addr × Value)), u = .ref a → (nestedKind X.prog X.w).is s.heap k a → s.heap.DictOfH (nestedKind X.prog X.w) D vs → vs.length ≤ sizeLine →
      (∀ h', h'.DictOfH (nestedKind X.prog X.w) D (storedH vs k a r) → Heap.SameBut D s.heap h' → Q () { s with heap := h', toks := s.toks + (nestedKind X.prog X.w).draws k }) → wpAny (model X.prog X.w) X.A run Q E s)
    (q : ∀ o' s', Inv X pins σ (upd H D (RawO D o')) s' → c.Own F (upd H D (RawO D o')) D (.dict (dput kvs kd d)) → Q () s') : wpAny (model X.prog X.w) X.A run Q E s := by
  obtain ⟨hp, hw, hk⟩ := f
  cases c
  simp only at hp hw hk
  subst hp hw hk
  obtain ⟨o, e, lo, alt⟩ := own
  have hr := Inv.raw I e
  have mu : Mut (H D) := by rw [e]; exact True.intro
  rcases ask_kinds (H := H) (y := y) alt (.inl hy) hf with ⟨k, ks, rfl, rfl, a1, a2⟩ | ⟨k, b, xs, e1, k2, e2, rfl, e4, a1, a2⟩
  · obtain ⟨vs, rv, dd⟩ := a1.of hr
    have hz1 : vs.length ≤ sizeLine := by rw [← rv.length]; exact a1.big
    refine h1 k vs (kV_is ry) dd hz1 fun h' dd' hs => ?_
    have hl2 : (putK ks k z).length ≤ sizeLine := by
      have e1 := length_putK ks k z
      have e2 := a2.length
      rw [← lim_eq]; omega
    obtain ⟨o', eo, x'⟩ := DK1.back (rv.put k rz) hl2 dd'
    exact q o' _ (d_write I mu hs ⟨_, eo⟩ (raw_ok eo)) ⟨o', upd_same, lo, .inl ⟨_, x', a2.put hz⟩⟩
  · obtain ⟨vs, rv, dd⟩ := a1.of I sb a2 hr
    cases ry
    have key : (nestedKind X.prog X.w).is s.heap k b := ⟨Dt.nested I sb e4 rfl e1, e2⟩
    have hz1 : vs.length ≤ sizeLine := by rw [← Paired.length rv]; exact a1.big
    refine h2 k b vs rfl key dd hz1 fun h' dd' hs => ?_
    have hl2 : (putT xs k b z).length ≤ sizeLine := by
      have e1 := putT_length xs k b z
      have e2 := a2.length
      rw [← lim_eq]; omega
    obtain ⟨o', eo, x'⟩ := DK2.back (KT2.put (p := b) rz rv) hl2 dd'
    have a3 := a2.put e1 k2 e4 hz
    obtain ⟨y1, ys, ey⟩ := putT_ne xs k b z
    rw [ey] at x' a3
    exact q o' _ (d_write I mu hs ⟨_, eo⟩ (raw_ok eo)) ⟨o', upd_same, lo, .inr ⟨y1, ys, x', a3⟩⟩
theorem put_dictSet (f : Fits c X) (hu : X.A.units + 70 < cLine) {kvs : List (PyData × PyData)} {y z : V} {u r : Value} {kd d : PyData} {Q : Unit → Shared → Prop} (I : Inv X pins σ H s) (sb : Sub F H) (nD : F D = none) (own : c.Own F H D (.dict kvs))
    (ry : RelV y u) (rz : RelV z r) (hy : c.Dt F y kd) (hz : c.Dt F z d) (hf : keyFits kd kvs = true) (hl : kvs.length < lim)
    (q : ∀ o' s', Inv X pins σ (upd H D (RawO D o')) s' → c.Own F (upd H D (RawO D o')) D (.dict (dput kvs kd d)) → Q () s') : wpAny (model X.prog X.w) X.A (dictSet D u r) Q E s :=
  put_go f hu I sb nD own ry rz hy hz hf hl (fun k vs hk dd hz hq => wpAny_dictSet_pairs (hsz := hz) hk dd hq)
    (fun k a vs ea hk dd hz hq => by subst ea; exact wpAny_dictSet_heap (hsz := hz) (show X.A.units + 8 < cLine by omega) hk dd hq) q
theorem put_setItem (f : Fits c X) (hu : X.A.units + 70 < cLine) {kvs : List (PyData × PyData)} {y z : V} {u r : Value} {kd d : PyData} {Q : Unit → Shared → Prop} (I : Inv X pins σ H s) (sb : Sub F H) (nD : F D = none) (own : c.Own F H D (.dict kvs))
    (ry : RelV y u) (rz : RelV z r) (hy : c.Dt F y kd) (hz : c.Dt F z d) (hf : keyFits kd kvs = true) (hl : kvs.length < lim)
    (q : ∀ o' s', Inv X pins σ (upd H D (RawO D o')) s' → c.Own F (upd H D (RawO D o')) D (.dict (dput kvs kd d)) → Q () s') : wpAny (model X.prog X.w) X.A (setItem (.ref D) u r) Q E s :=
  put_go f hu I sb nD own ry rz hy hz hf hl (fun k vs hk dd hz hq => wpAny_setItem_pairs (hsz := hz) hk dd hq)
    (fun k a vs ea hk dd hz hq => by subst ea; exact wpAny_setItem_heap (hsz := hz) (show X.A.units + 1 + 8 < cLine by omega) hk dd hq) q
/-- an empty dict, just made -/
theorem new_dict (f : Fits c X) {h' : Heap} {t' : Nat} (I : Inv X pins σ H s) (sb : Sub F H) (k : ∀ b u, s.heap.get? b = some u → h'.get? b = some u) (hD : s.heap.objs.size ≤ D) (e : h'.get? D = some { cls := .type "dict", data := .dict #[] }) :
    ∃ o, Inv X pins σ (upd H D (RawO D o)) { s with heap := h', toks := t' } ∧ c.Own F (upd H D (RawO D o)) D (.dict []) := by
  refine ⟨_, I.laid k hD (raw_ok e), _, upd_same, beq_eq_false_iff_ne.mpr (Ne.symm (Nat.ne_of_lt (Nat.lt_of_lt_of_le I.big hD))), .inl ⟨[], ⟨⟨rfl, rfl, rfl⟩, ⟨#[], 0, [], rfl, ?_, .nil, List.nodup_nil, .nil⟩, Nat.zero_le _⟩, .nil⟩⟩
  intro e he
  simp at he
end
theorem upd_self {H : Hp} {a : Addr} {o : HO} (e : H a = some o) : H = upd H a o := by
  funext b
  unfold upd
  split
  · rename_i h; rw [h]; exact e
  · rfl
/-! ### displays -/
def pairUp : List V → List (V × V)
  | a :: b :: r => (a, b) :: pairUp r
  | _ => []
structure PPv (X : Cx) (pos : Pos) (keys : List (Option Expr)) (values : List Expr) (t : TA) : Prop where
  run : ∀ (pins : List (Addr × Obj)) (s : Shared) (σ : L2.St) (H : Hp) (Q : List V → Hp → Prop), Inv X pins σ H s → t σ H Q →
    wpAny (model X.prog X.w) X.A (evalPairs (pairTrees keys values X.env pos)) (fun vs s' => ∃ ps H', Inv X pins σ H' s' ∧ VV (pairUp ps) vs ∧ Q ps H') X.xe s
section
variable {c : Cn} {W : WX} {X : Cx} {pos : Pos}
theorem spp_nil : PPv X pos [] [] (tAs c W .nil) := ⟨fun pins s σ H Q I h => pairTrees_nil_walk (by obtain ⟨env, F, r, q⟩ := h; exact ⟨[], H, I, .nil, q [] H F (Ext.refl r.s) .nil⟩)⟩
theorem spp_cons {k v : Expr} {ks : List (Option Expr)} {vs : List Expr} {mk mv : E} {ms : Es} (hk : PE X k (tE c W mk)) (hv : PE X v (tE c W mv)) (hr : PPv X pos ks vs (tAs c W ms)) : PPv X pos (some k :: ks) (v :: vs) (tAs c W (.cons mk (.cons mv ms))) := by
  refine ⟨fun pins s σ H Q I h => ?_⟩
  obtain ⟨env, F, r, h⟩ := h
  refine pairTrees_cons_walk (thn (hk.run pins s σ H (fun x H1 => ∃ F1 d, Ext H F H1 F1 ∧ c.Dt F1 x d ∧ Wants ((evEs c.C c.G (.cons mv ms) env).bind fun ds => .ok (d :: ds)) W c.cl σ H1 fun ds => ∀ vs H' F', Ext H F H' F' → c.DtAll F' vs ds → Q vs H') I
    ⟨env, F, r, h.bind.imp fun d _ k v H' F' x y => ⟨F', d, x, y, k.sub x.h⟩⟩) fun u s1 ⟨x, H1, I1, rx, F1, d, x1, hd, q1⟩ => ?_)
  have q1' : Wants ((evE c.C c.G mv env).bind fun e => (evEs c.C c.G ms env).bind fun ds => .ok (d :: e :: ds)) W c.cl σ H1 fun ds => ∀ vs H' F', Ext H F H' F' → c.DtAll F' vs ds → Q vs H' := by
    have e : ((evEs c.C c.G (.cons mv ms) env).bind fun ds => R.ok (d :: ds)) = (evE c.C c.G mv env).bind fun e => (evEs c.C c.G ms env).bind fun ds => .ok (d :: e :: ds) := by
      simp only [evEs, Wants.assoc, R.bind_ok]
    rw [← e]; exact q1
  refine thn (hv.run pins s1 σ H1 (fun y H2 => ∃ F2 e, Ext H1 F1 H2 F2 ∧ c.Dt F2 y e ∧ Wants ((evEs c.C c.G ms env).bind fun ds => .ok (d :: e :: ds)) W c.cl σ H2 fun ds => ∀ vs H' F', Ext H F H' F' → c.DtAll F' vs ds → Q vs H') I1
    ⟨env, F1, r.ext x1, q1'.bind.imp fun e _ k v H' F' x y => ⟨F', e, x, y, k.sub x.h⟩⟩) fun w2 s2 ⟨y, H2, I2, ry, F2, e, x2, he, q2⟩ => ?_
  refine thn (hr.run pins s2 σ H2 (fun vs H3 => Q (x :: y :: vs) H3) I2 ⟨env, F2, (r.ext x1).ext x2, q2.bind.imp fun ds _ k vs H' F' x3 y3 => ?_⟩) fun ws s3 ⟨ps, H3, I3, rel, q3⟩ => ⟨x :: y :: ps, H3, I3, .cons ⟨rx, ry⟩ rel, q3⟩
  exact k _ H' F' ((x1.trans x2).trans x3) (.cons (Dt.mono (x2.f.trans x3.f) hd) (.cons (Dt.mono x3.f he) y3))
theorem dput_length (kvs : List (PyData × PyData)) (k d : PyData) : (dput kvs k d).length ≤ kvs.length + 1 := by
  unfold dput
  split
  · simp
  · simp
/-- the pairs go in, one after another -/
theorem store_all (f : Fits c X) (hu : X.A.units + 70 < cLine) {pins : List (Addr × Obj)} {σ : L2.St} {D : Addr} {E : Value → Shared → Prop} : ∀ (ds : List PyData) (n : Nat) {vs : List V} {ws : List (Value × Value)} {kvs : List (PyData × PyData)} {H F : Hp} {s : Shared} {Q : PUnit → Shared → Prop} {r : PyData}, ds.length ≤ n → Inv X pins σ H s → Sub F H → F D = none → c.Own F H D (.dict kvs) → c.DtAll F vs ds →
    VV (pairUp vs) ws → dictOf ds kvs = some r → kvs.length + ds.length < lim →
    (∀ s' H', Inv X pins σ H' s' → (∃ o, H' = upd H D o) → c.Own F H' D r → Q PUnit.unit s') →
    wpAny (model X.prog X.w) X.A (forIn ws PUnit.unit fun (x : Value × Value) (_ : PUnit) => (do dictSet D x.1 x.2; pure (ForInStep.yield PUnit.unit) : Sem (ForInStep PUnit))) Q E s := by
  intro ds n
  induction n generalizing ds with
  | zero =>
    intro vs ws kvs H F s Q r hn I sb nD own da rel hd hl q
    cases ds with
    | nil =>
      cases da
      cases hd
      rw [show pairUp [] = [] from rfl] at rel
      cases rel
      rw [List.forIn_nil]
      obtain ⟨o, e, _⟩ := id own
      exact wpAny_pure (q s H I ⟨_, upd_self e⟩ own)
    | cons a b => simp at hn
  | succ n ih =>
    intro vs ws kvs H F s Q r hn I sb nD own da rel hd hl q
    match ds, da with
    | [], .nil =>
      cases hd
      rw [show pairUp [] = [] from rfl] at rel
      cases rel
      rw [List.forIn_nil]
      obtain ⟨o, e, _⟩ := id own
      exact wpAny_pure (q s H I ⟨_, upd_self e⟩ own)
    | [_], _ => cases hd
    | kd :: d :: ds, .cons (v := y) h1 (.cons (v := z) (vs := vs) h2 t) =>
      rw [show pairUp (y :: z :: vs) = (y, z) :: pairUp vs from rfl] at rel
      cases rel with
      | @cons a b as bs r0 t0 =>
        have hd : (if keyFits kd kvs = true then dictOf ds (dput kvs kd d) else none) = some r := hd
        by_cases hf : keyFits kd kvs = true
        · rw [if_pos hf] at hd
          rw [List.forIn_cons]
          refine wpAny_bind (wpAny_bind (put_dictSet f hu I sb nD own r0.1 r0.2 h1 h2 hf (by simp at hl; omega) fun o' s' I' own' => wpAny_pure ?_))
          have sb' : Sub F (upd H D (RawO D o')) := sb.upd nD
          refine ih ds (by simp at hn; omega) I' sb' nD own' t t0 hd ?_ fun s2 H2 I2 e2 o2 => q s2 H2 I2 ?_ o2
          · have e1 := dput_length kvs kd d
            simp at hl; omega
          · obtain ⟨o, rfl⟩ := e2
            exact ⟨o, by rw [upd_upd]⟩
        · rw [if_neg hf] at hd; cases hd
theorem sx_dict (f : Fits c X) (hu : X.A.units + 70 < cLine) {keys : List (Option Expr)} {values : List Expr} {ms : Es} (h : PPv X pos keys values (tAs c W ms)) (hall : keys.all (·.isSome) = true) (hl : keys.length = values.length) (h0 : keys ≠ []) (h15 : keys.length ≤ 15) (hm : ms.length ≤ 30) :
    PE X (.Dict keys values pos) (tO c W (.dict ms)) := by
  refine ⟨fun pins s σ H Q I hq => ?_⟩
  obtain ⟨env, F, r, hq⟩ := hq
  have hn := pairTrees_length keys values X.env pos hall hl
  have hne : pairTrees keys values X.env pos ≠ [] := by
    intro he
    rw [he] at hn
    exact h0 (List.length_eq_zero_iff.mp hn.symm)
  rw [arm_eval_Dict, zip_pairTrees keys values X.env pos hall hl, dictDisplay_pairs (pairTrees keys values X.env pos) hne (by omega)]
  refine wpAny_bind (wpAny_standAt (wpAny_bind ?_))
  unfold subDict
  refine wpAny_bind (wpAny_alloc ?_)
  refine wpAny_bind (wpAny_holding ?_)
  rw [if_pos (by rw [hn]; exact h15)]
  have hfr : H s.heap.objs.size = none := I.hok.fresh (Nat.le_refl _)
  obtain ⟨o, I1, own1⟩ := new_dict (c := c) (D := s.heap.objs.size) (t' := s.toks) f I r.s (fun b u e => Heap.get?_push_of_some _ e) (Nat.le_refl _) (Heap.get?_push_size _ rfl)
  have x1 : Ext H F (upd H s.heap.objs.size (RawO s.heap.objs.size o)) F := Ext.newO r.s hfr
  have n1 : F s.heap.objs.size = none := r.s.no hfr
  refine wpAny_bind (thn (h.run pins _ σ _ (fun vs H2 => ∃ F2 ds z, Ext (upd H s.heap.objs.size (RawO s.heap.objs.size o)) F H2 F2 ∧ c.DtAll F2 vs ds ∧ ds.length = ms.length ∧ dictOf ds [] = some z ∧ ∀ v H' F', Ext H F H' F' → rO c H F' H' v z → Q v H') I1 ⟨env, F, r.ext x1, ?_⟩) fun ws s2 ⟨vs, H2, I2, rel, F2, ds, z, x2, da, hdl, hd, q⟩ => ?_)
  · have hq2 := (hq.sub x1.h)
    refine hq2.bind.imp fun ds e k vs H' F' x y => ?_
    obtain ⟨z, ez, k⟩ := k.of
    exact ⟨F', ds, z, x, y, evEs_length e, ez, k⟩
  · have own2 : c.Own F2 H2 s.heap.objs.size (.dict []) := Own.ext x2 own1
    have n2 : F2 s.heap.objs.size = none := Own.free x2 own1 n1
    refine wpAny_holding ?_
    refine wpAny_bind (store_all f hu ds ds.length (Nat.le_refl _) I2 x2.s n2 own2 da rel hd (by rw [hdl]; simp only [List.length_nil]; unfold lim; omega) fun s3 H3 I3 e3 o3 => wpAny_pure (wpAny_pure ?_))
    obtain ⟨o4, rfl⟩ := e3
    refine wpAny_pure ⟨.ref s.heap.objs.size, _, I3, rfl, q _ _ _ ?_ ⟨_, rfl, hfr, n2, o3⟩⟩
    obtain ⟨u2, eu2, nu2⟩ := own_code own2
    exact Ext.grow (x1.trans x2) hfr n2 eu2 nu2
theorem sx_dict0 (f : Fits c X) : PE X (.Dict [] [] pos) (tO c W (.dict .nil)) := ⟨fun pins s σ H Q I h => by
  obtain ⟨env, F, r, h⟩ := h
  have hfr : H s.heap.objs.size = none := I.hok.fresh (Nat.le_refl _)
  obtain ⟨o, I1, own1⟩ := new_dict (c := c) (D := s.heap.objs.size) (t' := s.toks) f I r.s (fun b u e => Heap.get?_push_of_some _ e) (Nat.le_refl _) (Heap.get?_push_size _ rfl)
  exact wpAny_Dict_empty ⟨.ref s.heap.objs.size, _, I1, rfl, h _ _ _ (Ext.newO r.s hfr) ⟨_, rfl, hfr, r.s.no hfr, own1⟩⟩⟩
end
end SH

set_option Elab.async false
set_option linter.all false
set_option maxRecDepth 100000
set_option maxHeartbeats 4000000
/-! Dict comprehensions, keys of any kind that the evaluator serves. -/
namespace SH
open PySem PySem.Spec PyProof.Rows L2
variable [Tb]
/-- a turn's store: what must stand, what is reached -/
abbrev RSt := Addr → V → V → Hp → (Hp → Prop) → Prop
def StOk (rs : RSt) (X : Cx) : Prop := ∀ (pins : List (Addr × Obj)) (s : Shared) (σ : L2.St) (H : Hp) (p : Addr) (y z : V) (u r : Value) (Nx : Hp → Prop) (Q : Unit → Shared → Prop) (E : Value → Shared → Prop), Inv X pins σ H s → RelV y u → RelV z r → rs p y z H Nx →
  (∀ s' H', Inv X pins σ H' s' → Nx H' → Q () s') → wpAny (model X.prog X.w) X.A (dictSet p u r) Q E s
def tDcG (P : Program) (w : World) (rs : RSt) (wi : TI) (g : TG) (tt : TT) (tk tv : TE) (vs : List Nat) : TE := fun σ H Q => wi σ H fun J H1 => ∀ p o, H1 p = none → (p == sysModules) = false → DK1 P w o [] → ∃ W : Nat → Nat → Hp → Prop, (∃ m, W 0 m (upd H1 p (RawO p o))) ∧ ∀ i m H, W i m H →
  (J.stop i H ∧ Q (.ref p) H) ∨ (J.go i H ∧ ∃ Nx : Hp → Prop, (∀ H', Nx H' → ∃ m', m' < m ∧ W (i + 1) m' H') ∧ ∀ x H', J.yld i H x H' → g x (wipe σ vs) H' fun σ2 H2 => wipe σ2 vs = wipe σ vs ∧ tt σ2 H2 fun b H3 =>
    if b = true then tk σ2 H3 fun y H4 => tv σ2 H4 fun z H5 => rs p y z H5 Nx else Nx H3)
section
variable {X : Cx}
theorem pe_dcG {kx vx tg iter : Expr} {ifs : List Expr} {scope : Scope} {own : List (Str × Nat)} {pos : Pos} {wi : TI} {g : TG} {tt : TT} {tk tv : TE} {rs : RSt} (hc : X.calm = true) (hN : X.N.Nodup) (hi : PI X tg iter wi) (ok : BlkOk X.N X.env.scope scope own)
    (hst : ∀ (s : Shared) (H : Hp) (ce : Env) (fp : List Addr), StOk rs (X.blk s H scope ce fp))
    (hg : ∀ (s : Shared) (H : Hp) (C : Addr) (cl : List (Str × Addr)) (fp : List Addr), PG (X.blk s H scope (compEnvC scope cl C X.env) fp) tg g) (ht : ∀ (s : Shared) (H : Hp) (C : Addr) (cl : List (Str × Addr)) (fp : List Addr), PTs (X.blk s H scope (compEnvC scope cl C X.env) fp) ifs tt)
    (hk : ∀ (s : Shared) (H : Hp) (C : Addr) (cl : List (Str × Addr)) (fp : List Addr), PE (X.blk s H scope (compEnvC scope cl C X.env) fp) kx tk)
    (he : ∀ (s : Shared) (H : Hp) (C : Addr) (cl : List (Str × Addr)) (fp : List Addr), PE (X.blk s H scope (compEnvC scope cl C X.env) fp) vx tv) (hs : ∀ x, foldedSetIterable iter X.env x = pure x) :
    PE X (.DictComp kx vx [⟨tg, iter, ifs, 0⟩] scope pos) (tDcG X.prog X.w rs wi g tt tk tv (own.map (·.2))) := by
  refine ⟨fun pins s σ H Q I h => ?_⟩
  rw [arm_eval_DictComp]
  have hfree : ∀ y ∈ scope.names, y.2 = .free → ∃ c, X.env.cells.lookup y.1 = some c := fun y hy e => by
    rcases ok.free y hy e with k | k
    · exact I.ok.has _ (.inl k)
    · exact I.ok.has _ (.inr k)
  refine wpAny_comprehension_free (use := none) rfl hs (closure_ok hfree) ok.kind (fun y hy e => by rw [ok.uniq y hy, e])
    (thn (hi.run pins s σ H _ I h) fun xv s1 hx => thn hx fun itv s2 h2 => ?_)
  obtain ⟨it, fp, tn, J, H2, e, I2, T, st2, f2, q⟩ := h2
  subst e
  refine wpAny_newObj_type (newEnv_comp ?_)
  generalize hD : s2.heap.objs.size = p
  have hDn : H2 p = none := I2.hok.fresh (Nat.le_of_eq hD)
  have hsm : (p == sysModules) = false := beq_eq_false_iff_ne.mpr (Ne.symm (Nat.ne_of_lt (Nat.lt_of_lt_of_le I2.big (Nat.le_of_eq hD))))
  generalize hob : ({ cls := .type "dict", data := .dict #[] } : Obj) = ob
  have dk : DK1 X.prog X.w ob [] := by
    rw [← hob]
    exact ⟨⟨rfl, rfl, rfl⟩, ⟨#[], 0, [], rfl, fun e he => by simp at he, .nil, List.nodup_nil, .nil⟩, Nat.zero_le _⟩
  obtain ⟨W, ⟨m0, w0⟩, turn⟩ := q p ob hDn hsm dk
  rw [← hob]
  generalize hs3 : ({ s2 with heap := s2.heap.push { cls := .type "dict", data := .dict #[] } } : Shared) = s3
  have I3 : Inv X pins σ (upd H2 p (RawO p ob)) s3 := by
    rw [← hs3]
    refine I2.laid (t' := s2.toks) (fun b o e => Heap.get?_push_of_some _ e) (Nat.le_of_eq hD) (raw_ok ?_)
    rw [← hD, ← hob]
    exact Heap.get?_push_size _ rfl
  have h3 : s3.heap = s2.heap.push { cls := .type "dict", data := .dict #[] } := by rw [← hs3]
  have sz : ∀ b ∈ fp, b < s2.heap.objs.size := fun b hb => by
    obtain ⟨o, e, _⟩ := T.obj _ _ st2 b hb
    exact Heap.lt_size e
  have f3 : ∀ b ∈ fp, FpOk X pins (upd H2 p (RawO p ob)) b ∧ b < s3.heap.objs.size := fun b hb => by
    have hlt := sz b hb
    refine ⟨⟨?_, (f2 b hb).2⟩, by rw [h3, Heap.size_push]; exact Nat.lt_succ_of_lt hlt⟩
    rw [upd_ne (by rw [← hD]; exact Nat.ne_of_lt hlt)]
    exact (f2 b hb).1
  have st3 : tn 0 s3.heap := T.keep _ _ _ st2 fun b _ o e => by rw [h3]; exact Heap.get?_push_of_some _ e
  have I4 := block_start I3 ok hN f3
  generalize hH3 : upd H2 p (RawO p ob) = H3 at I3 I4 w0 f3
  have pg := hg s3 H3 s3.heap.objs.size (cellsFrom (s3.heap.objs.size + 1) scope.names (cloFrom X.env.cells scope.names [])) fp
  have pt := ht s3 H3 s3.heap.objs.size (cellsFrom (s3.heap.objs.size + 1) scope.names (cloFrom X.env.cells scope.names [])) fp
  have pk := hk s3 H3 s3.heap.objs.size (cellsFrom (s3.heap.objs.size + 1) scope.names (cloFrom X.env.cells scope.names [])) fp
  have pe := he s3 H3 s3.heap.objs.size (cellsFrom (s3.heap.objs.size + 1) scope.names (cloFrom X.env.cells scope.names [])) fp
  have nfp : ∀ b ∈ fp, H3 b = none := fun b hb => (f3 b hb).1.1
  show codeAny _ _ (.compStart (.DictComp kx vx [⟨tg, iter, ifs, 0⟩] scope pos) 0 (.ref it) (.ref p) (compEnvC scope (cellsFrom (s3.heap.objs.size + 1) scope.names (cloFrom X.env.cells scope.names [])) s3.heap.objs.size X.env)) (compPost (model X.prog X.w) X.A X.xe none _ (.ref p) s3.heap.objs.size) { s3 with heap := pushCells (s3.heap.push { cls := .type "dict", data := .dict #[] }) scope.names }
  generalize hce : compEnvC scope (cellsFrom (s3.heap.objs.size + 1) scope.names (cloFrom X.env.cells scope.names [])) s3.heap.objs.size X.env = ce at I4 pg pt pk pe ⊢
  have cL : ce.locals = s3.heap.objs.size := by subst hce; rfl
  generalize hs4 : ({ s3 with heap := pushCells (s3.heap.push { cls := .type "dict", data := .dict #[] }) scope.names } : Shared) = s4 at I4 ⊢
  have st4 : tn 0 s4.heap := T.keep _ _ _ st3 fun b _ o e => by rw [← hs4]; exact pushCells_keeps _ _ _ _ (Heap.get?_push_of_some _ e)
  have stat : ∀ {σ' : L2.St} {H' : Hp} {s' : Shared}, Inv (X.blk s3 H3 scope ce fp) [] σ' H' s' → (∀ b ∈ fp, H' b = none) → ∀ b ∈ fp, FpOk (X.blk s3 H3 scope ce fp) [] H' b := fun {σ' H' s'} I' hn b hb =>
    ⟨hn b hb, (I'.ok.exf b hb).1, I'.ok.exfs b hb, .inl hb, fun x c e => (I'.ok.exf b hb).2 x c e, fun p hp => absurd (show p ∈ ([] : List (Addr × Obj)) ++ [] from hp) (by simp)⟩
  have loop : codeAny (model X.prog X.w) X.A (.compLoop (.DictComp kx vx [⟨tg, iter, ifs, 0⟩] scope pos) 0 (.ref it) (.ref p) ce) (compPost (model X.prog X.w) X.A X.xe none (EP X pins σ Q) (.ref p) s3.heap.objs.size) s4 := by
    refine compLoop_anyD (fun n s' => ∃ i H', Inv (X.blk s3 H3 scope ce fp) [] (wipe σ (own.map (·.2))) H' s' ∧ tn i s'.heap ∧ (∀ b ∈ fp, H' b = none) ∧ W i n H') ?_ m0 ⟨0, H3, I4, st4, nfp, w0⟩
    rintro n s5 ⟨i, H5, I5, st5, n5, w5⟩
    rcases turn i n H5 w5 with ⟨stop, qq⟩ | ⟨go, Nx, hNx, step⟩
    · have td := T.done (X.blk s3 H3 scope ce fp) rfl rfl rfl hc i [] s5 _ H5 (fun _ _ => False) I5 (stat I5 n5) st5 stop
      refine thnF td fun r s6 ⟨hr, I6⟩ => ?_
      subst hr
      have I7 : Inv X pins σ H5 s6 := I3.call' (ch := fp) I6.os I6.base I6.hok I6.bare fun b hb => ⟨(f3 b hb).1.2.2.2.1, (f3 b hb).1.2.1, (f3 b hb).1.2.2.2.2.1, (f3 b hb).1.2.2.2.2.2⟩
      have nC : H5 s3.heap.objs.size = none := by
        have z : H5 ce.locals = none := I6.free
        rw [cL] at z
        exact z
      obtain ⟨m, hn, _⟩ := I6.loc
      have hn : s6.heap.Ns ce.locals m := hn
      rw [cL] at hn
      obtain ⟨f0, f1, f2, f3, f4, f5⟩ := I3.fpOk (Nat.le_refl _) nC
      exact ⟨m, hn, fun h'' sb => ⟨.ref p, H5, I7.turned (t' := s6.toks) (fun b o hb e => (sb.2 b hb).trans e) f0 f1 f3 f4 f5, rfl, qq⟩⟩
    · have ti := T.item (X.blk s3 H3 scope ce fp) rfl rfl rfl hc i [] s5 _ H5 (fun _ _ => False) I5 (stat I5 n5) st5 go
      refine thnF ti fun r s6 ⟨u, hr, h6⟩ => ?_
      subst hr
      refine thnF h6 fun _ s7 ⟨x, H7, I7, r7, y7, st7, n7⟩ => ?_
      have I7' := I7.pinned (stat I7 n7) (T.obj _ _ st7)
      refine thnF (pg.run _ s7 _ H7 x u _ I7' r7 (step x H7 y7)) fun _ s8 ⟨σ8, H8, I8, hw8, q8⟩ => ?_
      refine thnF (pt.run _ s8 σ8 H8 _ I8 q8) fun b s9 ⟨H9, I9, q9⟩ => ?_
      have fin : ∀ {s' : Shared} {H' : Hp}, Inv (X.blk s3 H3 scope ce fp) ([] ++ pinsAt fp s7.heap) σ8 H' s' → Nx H' → ∃ m, m < n ∧ ∃ i H', Inv (X.blk s3 H3 scope ce fp) [] (wipe σ (own.map (·.2))) H' s' ∧ tn i s'.heap ∧ (∀ b ∈ fp, H' b = none) ∧ W i m H' := fun {s' H'} I' nx => by
        obtain ⟨m', hm, w'⟩ := hNx H' nx
        have pin' : ∀ b ∈ fp, ∀ o, s7.heap.get? b = some o → s'.heap.get? b = some o ∧ H' b = none := fun b hb o e =>
          let z := I'.pin (b, o) (List.mem_append_right _ (List.mem_append_right _ (mem_pinsAt hb e)))
          ⟨z.1, z.2.1⟩
        have hl : (wipe σ (own.map (·.2))).length = σ8.length := by rw [← hw8, wipe_length]
        refine ⟨m', hm, i + 1, H', (I'.unpinned (pins := [])).weak hl (fun j v e => ?_), T.keep _ _ _ st7 fun b hb o e => (pin' b hb o e).1, fun b hb => ?_, w'⟩
        · rw [← hw8] at e
          exact (wipe_some e).1
        · obtain ⟨o, e, _⟩ := T.obj _ _ st7 b hb
          exact (pin' b hb o e).2
      cases b with
      | false =>
        simp only [Bool.false_eq_true, if_false] at q9 ⊢
        exact fin I9 q9
      | true =>
        simp only [if_true] at q9 ⊢
        refine thnF (pk.run _ s9 σ8 H9 _ I9 q9) fun z s10 ⟨yk, H10, I10, r10, q10⟩ => ?_
        refine thnF (pe.run _ s10 σ8 H10 _ I10 q10) fun z2 s11 ⟨yv, H11, I11, r11, nx⟩ => ?_
        exact hst s3 H3 ce fp _ s11 σ8 H11 p yk yv z z2 Nx _ _ I11 r10 r11 nx fun s12 H12 I12 n12 => fin I12 n12
  exact codeAny_compStart_dict loop (T.self X.A 0 _ _ _ st4 loop)
end
section
variable {c : Cn} {W : WX} {X : Cx}
def rPut (c : Cn) : RSt := fun p y z H Nx => ∃ F kvs kd d, Sub F H ∧ F p = none ∧ c.Own F H p (.dict kvs) ∧ c.Dt F y kd ∧ c.Dt F z d ∧ keyFits kd kvs = true ∧ kvs.length < lim ∧ ∀ o', c.Own F (upd H p (RawO p o')) p (.dict (dput kvs kd d)) → Nx (upd H p (RawO p o'))
theorem st_put (f : Fits c X) (hu : X.A.units + 70 < cLine) : StOk (rPut c) X := fun pins s σ H p y z u r Nx Q E I ry rz h q => by
  obtain ⟨F, kvs, kd, d, sb, nD, own, hy, hz, hf, hl, n⟩ := h
  exact put_dictSet f hu I sb nD own ry rz hy hz hf hl fun o' s' I' own' => q s' _ I' (n o' own')
theorem dcLoop_length {f : D → R (Option (D × D))} : ∀ {ds : List D} {acc r : List (D × D)}, dcLoop f ds acc = .ok r → acc.length ≤ r.length
  | [], acc, r, h => by cases h; exact Nat.le_refl _
  | d :: ds, acc, r, h => by
    obtain ⟨o, e, h⟩ := bind_ok_inv h
    cases o with
    | none => exact dcLoop_length h
    | some kv =>
      obtain ⟨k, v⟩ := kv
      have h : (if keyFits k acc = true then dcLoop f ds (dput acc k v) else .bad) = .ok r := h
      by_cases hf : keyFits k acc = true
      · rw [if_pos hf] at h
        have := dcLoop_length h
        have e2 : acc.length ≤ (dput acc k v).length := by unfold dput; split <;> simp
        omega
      · rw [if_neg hf] at h; cases h
theorem sx_dc {kx vx tg iter : Expr} {ifs : List Expr} {scope : Scope} {own : List (Str × Nat)} {pos : Pos} {t : Tg} {it : SH.It} {mi : Es} {mk mv : E} {pr : Bool} (f : Fits c X) (hu : X.A.units + 70 < cLine) (hc : X.calm = true) (hN : X.N.Nodup) (hi : PI X tg iter (tI c W pr it)) (ok : BlkOk X.N X.env.scope scope own)
    (hpr : pr = true → tgPr t = true) (hin : tgIn (own.map (·.2)) t = true)
    (hg : ∀ (s : Shared) (H : Hp) (C : Addr) (cl : List (Str × Addr)) (fp : List Addr), PG (X.blk s H scope (compEnvC scope cl C X.env) fp) tg (tgG X.K t))
    (ht : ∀ (s : Shared) (H : Hp) (C : Addr) (cl : List (Str × Addr)) (fp : List Addr), PTs (X.blk s H scope (compEnvC scope cl C X.env) fp) ifs (tTs c W0 mi))
    (hk : ∀ (s : Shared) (H : Hp) (C : Addr) (cl : List (Str × Addr)) (fp : List Addr), PE (X.blk s H scope (compEnvC scope cl C X.env) fp) kx (tE c W0 mk))
    (he : ∀ (s : Shared) (H : Hp) (C : Addr) (cl : List (Str × Addr)) (fp : List Addr), PE (X.blk s H scope (compEnvC scope cl C X.env) fp) vx (tE c W0 mv)) (hs : ∀ x, foldedSetIterable iter X.env x = pure x) :
    PE X (.DictComp kx vx [⟨tg, iter, ifs, 0⟩] scope pos) (tO c W (.dc (own.map (·.2)) mk mv t it mi)) :=
  (pe_dcG hc hN hi ok (fun s H ce fp => st_put (X := X.blk s H scope ce fp) ⟨f.p, f.w, f.k⟩ hu) hg ht hk he hs).mono fun σ H Q ⟨env, F, r, h⟩ => by
    refine ⟨env, F, r, h.bind.imp fun ds _ k J H1 F1 x1 wd p o hD hsm dk => ?_⟩
    obtain ⟨rs, e1, k⟩ := k.bind.calm
    have r1 := r.ext x1
    let step : D → R (Option (D × D)) := fun d => (R.of (bindT t d (wipeE (own.map (·.2)) env))).bind fun e => (evIfs c.C c.G mi e).bind fun b => if b = true then (evE c.C c.G mk e).bind fun x => (evE c.C c.G mv e).bind fun y => .ok (some (x, y)) else .ok none
    have e1 : dcLoop step ds [] = .ok rs := e1
    let P : Nat → Hp → Prop := fun i H => ∃ F acc, Ext H1 F1 H F ∧ F p = none ∧ c.Own F H p (.dict acc) ∧ acc.length ≤ i ∧ dcLoop step (ds.drop i) acc = .ok rs
    refine ⟨fun i n H => n = ds.length - i ∧ i ≤ ds.length ∧ P i H, ⟨ds.length, by simp, Nat.zero_le _, F1, [], Ext.newO x1.s hD, x1.s.no hD, ⟨o, upd_same, hsm, .inl ⟨[], by rw [f.p, f.w]; exact dk, .nil⟩⟩, Nat.zero_le _, e1⟩, ?_⟩
    rintro i n H ⟨rfl, hile, pp⟩
    have hsub : Sub F1 H := by obtain ⟨F, _, x, _⟩ := pp; exact x.f.trans x.s
    by_cases hlt : i < ds.length
    · refine .inr ⟨wd.goes i H hlt hsub, P (i + 1), fun H' p' => ⟨ds.length - (i + 1), by omega, rfl, hlt, p'⟩, fun x H' y => ?_⟩
      obtain ⟨d, ed, iv⟩ := wd.yields i H x H' hlt hsub y
      obtain ⟨F2, acc, x2, n2, ow, hb, el⟩ := pp
      rw [List.drop_eq_getElem_cons hlt] at el
      have ed2 : ds[i] = d := by rw [List.getElem?_eq_getElem hlt] at ed; exact Option.some.inj ed
      rw [ed2] at el
      obtain ⟨oo, e3, el⟩ := bind_ok_inv el
      obtain ⟨env2, e5, e3⟩ := bind_ok_inv e3
      obtain ⟨b, e6, e3⟩ := bind_ok_inv e3
      have r2 : c.RelE (wipeE (own.map (·.2)) env) (L2.wipe σ (own.map (·.2))) H F2 := RelE.wipe (r1.ext x2)
      refine bind_go (F0 := F1) (F := F2) f r2 x2.f hpr iv (of_ok_inv e5) fun σ2 xa up hag hlen => ⟨wipe_same (by rw [hlen, wipe_length]) (fun i hi => hag _ hin i hi), env2, F2, up _ _ (r2.ext xa) Sub.refl, Wants.ok0 e6 fun H3 F3 x3 => ?_⟩
      have ra := up _ _ (r2.ext xa) Sub.refl
      have xa3 := xa.trans x3
      have ow3 : c.Own F3 H3 p (.dict acc) := Own.ext xa3 ow
      have n3 : F3 p = none := Own.free xa3 ow n2
      cases b with
      | false =>
        simp only [Bool.false_eq_true, if_false]
        rw [if_neg Bool.false_ne_true] at e3
        cases e3
        exact ⟨F3, acc, x2.trans xa3, n3, ow3, by omega, el⟩
      | true =>
        simp only [if_true]
        rw [if_pos rfl] at e3
        obtain ⟨kd, e7, e3⟩ := bind_ok_inv e3
        obtain ⟨vd, e8, e3⟩ := bind_ok_inv e3
        cases e3
        have el : (if keyFits kd acc = true then dcLoop step (ds.drop (i + 1)) (dput acc kd vd) else .bad) = .ok rs := el
        by_cases hf : keyFits kd acc = true
        · rw [if_pos hf] at el
          refine ⟨env2, F3, ra.ext x3, Wants.ok0 e7 fun v H4 F4 x4 y4 => ⟨env2, F4, (ra.ext x3).ext x4, Wants.ok0 e8 fun z H5 F5 x5 y5 => ?_⟩⟩
          have ow5 : c.Own F5 H5 p (.dict acc) := Own.ext (x4.trans x5) ow3
          have n5 : F5 p = none := Own.free (x4.trans x5) ow3 n3
          refine ⟨F5, acc, kd, vd, x5.s, n5, ow5, Dt.mono x5.f y4, y5, hf, ?_, fun o' own' => ?_⟩
          · have := wd.big
            rw [lim_eq]; omega
          · obtain ⟨u5, eu5, nu5⟩ := own_code ow5
            refine ⟨F5, _, Ext.grow (x2.trans (xa3.trans (x4.trans x5))) hD n5 eu5 nu5, n5, own', ?_, el⟩
            have := dput_length acc kd vd
            omega
        · rw [if_neg hf] at el; cases el
    · have e : i = ds.length := by omega
      subst e
      refine .inl ⟨wd.stops H hsub, ?_⟩
      obtain ⟨F2, acc, x2, n2, ow, hb, el⟩ := pp
      have e0 : acc = rs := by
        have : ds.drop ds.length = [] := by simp
        rw [this] at el
        cases el; rfl
      subst e0
      exact k _ _ _ (x1.trans x2) ⟨p, rfl, x1.h.no hD, n2, ow⟩
end
end SH

set_option Elab.async false
set_option linter.all false
set_option maxRecDepth 100000
set_option maxHeartbeats 4000000
/-! Sorting. -/
namespace SH
open PySem PySem.Spec PyProof.Rows L2
variable [Tb]
/-! ### insertion is merging -/
section
variable {A B : Type} {le : A → A → Bool}
theorem insD_mem {x z : A} : ∀ {ys : List A}, z ∈ insD le x ys ↔ z = x ∨ z ∈ ys
  | [] => by simp [insD]
  | y :: ys => by
    simp only [insD]
    split
    · simp
    · simp [insD_mem (ys := ys)]
      constructor
      · rintro (h | h | h)
        · exact .inr (.inl h)
        · exact .inl h
        · exact .inr (.inr h)
      · rintro (h | h | h)
        · exact .inr (.inl h)
        · exact .inl h
        · exact .inr (.inr h)
theorem isort_mem {z : A} : ∀ {ys : List A}, z ∈ isort le ys ↔ z ∈ ys
  | [] => by simp [isort]
  | y :: ys => by simp [isort, insD_mem, isort_mem (ys := ys)]
theorem insD_sorted (T : W.TotalLe le) {x : A} : ∀ {ys : List A}, ys.Pairwise (fun a b => le a b = true) → (insD le x ys).Pairwise (fun a b => le a b = true)
  | [], _ => by simp [insD]
  | y :: ys, h => by
    obtain ⟨h1, h2⟩ := List.pairwise_cons.mp h
    simp only [insD]
    split
    · rename_i hx
      refine List.pairwise_cons.mpr ⟨fun z hz => ?_, h⟩
      rcases List.mem_cons.mp hz with rfl | hz
      · exact hx
      · exact T.trans _ _ _ hx (h1 z hz)
    · rename_i hx
      have hyx : le y x = true := (T.total x y).resolve_left hx
      refine List.pairwise_cons.mpr ⟨fun z hz => ?_, insD_sorted T h2⟩
      rcases insD_mem.mp hz with rfl | hz
      · exact hyx
      · exact h1 z hz
theorem isort_sorted (T : W.TotalLe le) : ∀ (ys : List A), (isort le ys).Pairwise (fun a b => le a b = true)
  | [] => List.Pairwise.nil
  | y :: ys => insD_sorted T (isort_sorted T ys)
theorem insD_filter (T : W.TotalLe le) (k x : A) : ∀ (ys : List A), (insD le x ys).filter (W.sameRank le k) = (x :: ys).filter (W.sameRank le k)
  | [] => rfl
  | y :: ys => by
    simp only [insD]
    split
    · rfl
    · rename_i hx
      have ih := insD_filter T k x ys
      rw [List.filter_cons, ih]
      cases hk : W.sameRank le k x with
      | false =>
        rw [List.filter_cons (x := x), List.filter_cons (x := x), List.filter_cons (x := y)]
        simp only [hk, Bool.false_eq_true, if_false]
      | true =>
        have hy : W.sameRank le k y = false := by
          cases q : W.sameRank le k y with
          | false => rfl
          | true =>
            exfalso
            unfold W.sameRank at hk q
            rw [Bool.and_eq_true] at hk q
            exact hx (T.trans _ _ _ hk.2 q.1)
        rw [List.filter_cons (x := x), List.filter_cons (x := x), List.filter_cons (x := y)]
        simp only [hk, hy, if_true, Bool.false_eq_true, if_false]
theorem isort_filter (T : W.TotalLe le) (k : A) : ∀ (ys : List A), (isort le ys).filter (W.sameRank le k) = ys.filter (W.sameRank le k)
  | [] => rfl
  | y :: ys => by
    simp only [isort]
    rw [insD_filter T, List.filter_cons, List.filter_cons, isort_filter T k ys]
theorem isort_merge (T : W.TotalLe le) (ys : List A) : isort le ys = ys.mergeSort le := W.sort_unique T (isort_sorted T ys) fun k => isort_filter T k ys
theorem insD_map {le2 : B → B → Bool} (g : A → B) {x : A} : ∀ {ys : List A}, (∀ y ∈ ys, le x y = le2 (g x) (g y)) → (insD le x ys).map g = insD le2 (g x) (ys.map g)
  | [], _ => rfl
  | y :: ys, h => by
    simp only [insD, List.map_cons]
    rw [← h y (by simp)]
    split
    · rfl
    · rw [List.map_cons, insD_map g fun z hz => h z (by simp [hz])]
theorem isort_map {le2 : B → B → Bool} (g : A → B) : ∀ {ys : List A}, (∀ x ∈ ys, ∀ y ∈ ys, le x y = le2 (g x) (g y)) → (isort le ys).map g = isort le2 (ys.map g)
  | [], _ => rfl
  | y :: ys, h => by
    simp only [isort, List.map_cons]
    rw [insD_map g fun z hz => h y (by simp) z (by simp [isort_mem.mp hz]), isort_map g fun a ha b hb => h a (by simp [ha]) b (by simp [hb])]
theorem isort_congr {le2 : A → A → Bool} {ys : List A} (h : ∀ x ∈ ys, ∀ y ∈ ys, le x y = le2 x y) : isort le ys = isort le2 ys := by
  have := isort_map (le := le) (le2 := le2) (fun a : A => a) (ys := ys) h
  simpa using this
end
/-! ### data that may be sorted -/
theorem allAlike_of : ∀ {ds : List D}, allAlike ds = true → W.AllAlike ds
  | [], _ => fun d hd => by simp at hd
  | x :: xs, h => by
    simp only [allAlike, Bool.and_eq_true, List.all_eq_true] at h
    obtain ⟨⟨h1, h2⟩, h3⟩ := h
    have ih := allAlike_of h3
    intro d hd d' hd'
    rcases List.mem_cons.mp hd with e | hd1
    · rcases List.mem_cons.mp hd' with e' | hd2
      · rw [e, e']; exact h2
      · rw [e]; exact (h1 d' hd2).1
    · rcases List.mem_cons.mp hd' with e' | hd2
      · rw [e']; exact (h1 d hd1).2
      · exact ih d hd1 d' hd2
theorem okSort_of {ds : List D} (h : okSort ds = true) : W.AllAlike ds ∧ W.Sortable ds ∧ ∀ d ∈ ds, okEq d = true := by
  unfold okSort at h
  simp only [Bool.and_eq_true, Bool.or_eq_true, List.all_eq_true] at h
  obtain ⟨⟨h1, h2⟩, h3⟩ := h
  refine ⟨allAlike_of h1, ?_, h3⟩
  rcases h2 with h2 | h2
  · refine .inl fun d hd => ?_
    have := h2 d hd
    cases d with
    | tuple xs => cases xs with
      | nil => simp [nonEmptyTup] at this
      | cons x r => exact ⟨x, r, rfl⟩
    | _ => simp [nonEmptyTup] at this
  · refine .inr fun d hd => ?_
    have := h2 d hd
    refine ⟨fun e => ?_, fun xs e => ?_⟩ <;> subst e <;> simp [notTup] at this
theorem leD_eq {a b : D} (h : W.alike b a = true) : leD a b = !W.dataLt b a := by unfold leD; rw [ltD_eq b a h]
theorem dataLe_leD {B : Type} {k : B → D} {bs : List B} (hal : W.AllAlike (bs.map k)) : bs.mergeSort (W.dataLe false k) = isort (fun a b => leD (k a) (k b)) bs := by
  rw [isort_congr (le2 := W.dataLe false k) fun a ha b hb => ?_]
  · exact (isort_merge (W.sortLe_total _ _ _) bs).symm
  · rw [W.dataLe_eq]
    exact leD_eq (hal _ (List.mem_map.mpr ⟨b, hb, rfl⟩) _ (List.mem_map.mpr ⟨a, ha, rfl⟩))
end SH
namespace SH
open PySem PySem.Spec PyProof.Rows L2
variable [Tb]
section
variable {c : Cn} {X : Cx}
theorem each_zip {F : Hp} : ∀ {xs : List V} {its : List Value} {ds : List D}, Vals xs its → c.DtAll F xs ds → W.EachIs (fun v (b : V × D) => RelV b.1 v ∧ c.Dt F b.1 b.2) its (xs.zip ds)
  | _, _, _, .nil, .nil => .nil
  | _, _, _, .cons r t, .cons h u => .cons ⟨r, h⟩ (each_zip t u)
theorem each_back {F : Hp} : ∀ {out : List Value} {bs : List (V × D)}, W.EachIs (fun v (b : V × D) => RelV b.1 v ∧ c.Dt F b.1 b.2) out bs → Vals (bs.map (·.1)) out ∧ c.DtAll F (bs.map (·.1)) (bs.map (·.2))
  | _, _, .nil => ⟨.nil, .nil⟩
  | _, _, .cons r t => let ⟨a, b⟩ := each_back t; ⟨.cons r.1 a, .cons r.2 b⟩
theorem zip_snd : ∀ {xs : List V} {ds : List D}, xs.length = ds.length → (xs.zip ds).map (·.2) = ds
  | [], [], _ => rfl
  | x :: xs, d :: ds, h => by simp [zip_snd (xs := xs) (ds := ds) (by simpa using h)]
theorem Each.imp {A B : Type} {R S : A → B → Prop} (h : ∀ a b, R a b → S a b) : ∀ {as : List A} {bs : List B}, W.EachIs R as bs → W.EachIs S as bs := fun e => e.mono h
theorem Each.memR {A B : Type} {R : A → B → Prop} : ∀ {as : List A} {bs : List B}, W.EachIs R as bs → W.EachIs (fun a b => R a b ∧ b ∈ bs) as bs
  | _, _, .nil => .nil
  | _, _, .cons h t => .cons ⟨h, by simp⟩ ((Each.memR t).mono fun a b ⟨q, m⟩ => ⟨q, by simp [m]⟩)
theorem lay_all : ∀ {ds : List D}, (∀ d ∈ ds, okEq d = true) → PyData.canLayAll0 ds = true
  | [], _ => rfl
  | d :: ds, h => by
    simp only [PyData.canLayAll0, Bool.and_eq_true]
    exact ⟨okEq_lay (h d (by simp)), lay_all fun z hz => h z (by simp [hz])⟩
theorem depth_all : ∀ {ds : List D}, (∀ d ∈ ds, okEq d = true) → PyData.depthAll ds ≤ 64
  | [], _ => by simp [PyData.depthAll]
  | d :: ds, h => by
    simp only [PyData.depthAll]
    exact Nat.max_le.mpr ⟨okEq_depth (h d (by simp)), depth_all fun z hz => h z (by simp [hz])⟩
variable (f : Fits c X) (hu : X.A.units + 70 < cLine)
include f hu
theorem each_reads {pins : List (Addr × Obj)} {s : Shared} {σ : L2.St} {H F : Hp} {xs : List V} {its : List Value} {ds : List D} (I : Inv X pins σ H s) (sb : Sub F H) (rv : Vals xs its) (da : c.DtAll F xs ds) (ok : ∀ d ∈ ds, okEq d = true) :
    W.EachIs (fun v (b : V × D) => ∃ as, Reads s.heap v b.2 as) its (xs.zip ds) := by
  refine (Each.memR (each_zip rv da)).mono fun v b ⟨⟨r, h⟩, m⟩ => ?_
  have hb : b.2 ∈ ds := by
    have : b.2 ∈ (xs.zip ds).map (·.2) := List.mem_map.mpr ⟨b, m, rfl⟩
    rwa [zip_snd da.length] at this
  exact Dp.reads I b.2 b.1 v (f.k ▸ Dt.dp sb h (okEq_lay (ok _ hb))) r
omit f hu in
theorem sortD_some {ds : List D} {r : List D} (h : sortD ds = some r) : okSort ds = true ∧ isort leD ds = r := ite_some h
omit f hu in
/-- the sorted items -/
theorem sorted_data2 {F : Hp} {xs : List V} {ds : List D} {out : List Value} (da : c.DtAll F xs ds) (hal : W.AllAlike ds) (e : W.EachIs (fun v (b : V × D) => RelV b.1 v ∧ c.Dt F b.1 b.2) out ((xs.zip ds).mergeSort (W.dataLe false (·.2)))) :
    ∃ ys, Vals ys out ∧ c.DtAll F ys (isort leD ds) := by
  have z := zip_snd da.length
  rw [dataLe_leD (k := fun b : V × D => b.2) (by rw [z]; exact hal)] at e
  obtain ⟨a, b⟩ := each_back e
  refine ⟨_, a, ?_⟩
  rw [isort_map (le2 := leD) (fun b : V × D => b.2) fun x _ y _ => rfl, z] at b
  exact b
theorem bi_sortedL {pins : List (Addr × Obj)} {s : Shared} {σ : L2.St} {H F : Hp} {a : Addr} {xs : List V} {ds : List D} {r : List D} {Q : VK} (I : Inv X pins σ H s) (sb : Sub F H) (sq : SqL X.K H a xs) (zz : xs.length ≤ sizeLine) (da : c.DtAll F xs ds) (hz : sortD ds = some r)
    (q : ∀ u H' F', Ext H F H' F' → rO c H F' H' u (.list r) → Q u H') : wpAny (model X.prog X.w) X.A (call (.builtin "sorted") [.ref a]) (EP X pins σ Q) X.xe s := by
  obtain ⟨h1, rfl⟩ := sortD_some hz
  obtain ⟨hal, hk, ok⟩ := okSort_of h1
  obtain ⟨its, rv, pl, hzl⟩ := I.list sq
  have z := zip_snd da.length
  have hlen : (xs.zip ds).length = ds.length := by rw [List.length_zip, da.length, Nat.min_self]
  refine W.sorted_data (enc := fun b : V × D => b.2) pl.isList (each_zip rv da) (each_reads f hu I sb rv da ok) (by rw [z]; exact hal) (by rw [z]; exact hk) (by rw [hlen, ← da.length]; exact zz) (fun b hb => ?_) fun out hl e => ?_
  · have hb2 : b.2 ∈ ds := by rw [← z]; exact List.mem_map.mpr ⟨b, hb, rfl⟩
    have := okEq_depth (ok _ hb2)
    omega
  · obtain ⟨ys, ry, dy⟩ := sorted_data2 da hal e
    obtain ⟨ep, he'⟩ := sortedAll_at s.heap its out.toArray
    have hyl : ys.length ≤ sizeLine := by rw [ry.length, hl, hlen, ← da.length]; exact zz
    have hfr : H (s.heap.objs.size + 1) = none := I.hok.fresh (Nat.le_succ _)
    exact ⟨.ref _, upd H (s.heap.objs.size + 1) (.lst ys), I.laid (t' := s.toks) (fun _ _ => sortedAll_old) (Nat.le_succ _) ⟨hyl, out, ep, ry, he'⟩, rfl,
      q _ _ _ (Ext.newO sb hfr) ⟨_, rfl, hfr, sb.no hfr, ys, upd_same, hyl, dy⟩⟩
/-- a list just made is put in order, in place -/
theorem sort_new {pins : List (Addr × Obj)} {s : Shared} {σ : L2.St} {H F : Hp} {a : Addr} {h1 : Heap} {tk : Nat} {A : Around} {xs : List V} {its : List Value} {ds : List D} {r : List D} {P : PySem.Fin → Shared → Prop} {E : Value → Shared → Prop} (hA : A.units + 68 < cLine) (I : Inv X pins σ H s) (sb : Sub F H)
    (keep : ∀ b o, s.heap.get? b = some o → h1.get? b = some o) (ha : s.heap.objs.size ≤ a) (ho : h1.get? a = some (seqObj "list" its.toArray 0)) (rv : Vals xs its) (da : c.DtAll F xs ds) (zz : xs.length ≤ sizeLine) (hz : sortD ds = some r)
    (q : ∀ ys out h2 ep, Vals ys out → c.DtAll F ys r → ys.length ≤ sizeLine → (∀ b o, s.heap.get? b = some o → h2.get? b = some o) → h2.get? a = some (seqObj "list" (List.toArray out) ep) → P (.done (.ret .none)) { s with heap := h2, toks := tk }) :
    wpAny (model X.prog X.w) A (Builtin.«list.sort» ⟨[.ref a], []⟩) P E { s with heap := h1, toks := tk } := by
  obtain ⟨hs, rfl⟩ := sortD_some hz
  obtain ⟨hal, hk, ok⟩ := okSort_of hs
  have z := zip_snd da.length
  have hlen : (xs.zip ds).length = ds.length := by rw [List.length_zip, da.length, Nat.min_self]
  have up : ∀ b o, s.heap.get? b = some o → (W.sortingHeap h1 a its).get? b = some o := fun b o e =>
    W.sortingHeap_old (Nat.ne_of_lt (Nat.lt_of_lt_of_le (Heap.lt_size e) ha)) (keep b o e)
  have er : W.EachIs (fun v (b : V × D) => ∃ as, Reads (W.sortingHeap h1 a its) v b.2 as) its (xs.zip ds) := (each_reads f hu I sb rv da ok).mono fun _ _ ⟨as, r⟩ => ⟨as, PyProof.Rows.Reads.keeps up r⟩
  refine W.list_sort_vals (s := { s with heap := h1, toks := tk }) (κ := W.dataKind (W.sortingHeap h1 a its) ((xs.zip ds).map (·.2))) ho (W.SortsAt.data (s := { s with heap := W.sortingHeap h1 a its, toks := tk }) (W.each_map (R := fun v d => ∃ as, Reads (W.sortingHeap h1 a its) v d as) (fun b : V × D => b.2) er) (by rw [z]; exact hal) (by rw [z]; exact hk) (fun d hd => ?_)) (by rw [← rv.length]; exact zz) ?_
  · rw [z] at hd
    have := okEq_depth (ok d hd)
    omega
  · have e := W.sortVals_data (enc := fun b : V × D => b.2) false (each_zip rv da) er (by rw [z]; exact hal)
    obtain ⟨ys, ry, dy⟩ := sorted_data2 da hal e
    have hl : (W.sortVals (W.dataKind (W.sortingHeap h1 a its) ((xs.zip ds).map (·.2))) false its its).length = its.length := W.sortVals_length false rfl
    refine q ys _ _ _ ry dy (by rw [ry.length, hl, ← rv.length]; exact zz) (fun b o e => ?_) (PyProof.Rows.sortedHeap_at ho).choose_spec
    exact PyProof.Rows.sortedHeap_old (Nat.ne_of_lt (Nat.lt_of_lt_of_le (Heap.lt_size e) ha)) (Heap.lt_size (keep b o e)) |>.trans (keep b o e)
omit f hu in
theorem EnR.keys : ∀ {ps : List (V × V)} {es : List DictEntry}, EnR ps es → Vals (ps.map (·.1)) (es.map (·.key))
  | _, _, .nil => .nil
  | _, _, .cons r t => .cons r.1 (EnR.keys t)
omit f hu in
theorem items_keys {es : Array DictEntry} {acc : Array Value} (h : ItemsOf (fun i v => ∃ hi : i < es.size, v = es[i].key) acc es.size) : acc.toList = es.toList.map (·.key) := by
  apply List.ext_getElem?
  intro i
  by_cases hi : i < es.size
  · have hi2 : i < acc.size := by rw [h.1]; exact hi
    obtain ⟨_, e⟩ := h.2 i acc[i] (Array.getElem?_eq_getElem hi2)
    rw [Array.getElem?_toList, Array.getElem?_eq_getElem hi2, e, List.getElem?_map, Array.getElem?_toList, Array.getElem?_eq_getElem hi]
    rfl
  · rw [Array.getElem?_toList, Array.getElem?_eq_none (by rw [h.1]; omega), List.getElem?_eq_none (by simp; omega)]
theorem bi_sortedC (hc : X.calm = true) {pins : List (Addr × Obj)} {s : Shared} {σ : L2.St} {H F : Hp} {a : Addr} {o : Obj} {kvs : List (D × D)} {r : List D} {Q : VK} (I : Inv X pins σ H s) (sb : Sub F H) (e : H a = some (RawO a o)) (lo : (a == sysModules) = false) (alt : DAlt c.P c.w c.K F o kvs) (hz : sortD (keysOf kvs) = some r)
    (q : ∀ u H' F', Ext H F H' F' → rO c H F' H' u (.list r) → Q u H') : wpAny (model X.prog X.w) X.A (call (.builtin "sorted") [.ref a]) (EP X pins σ Q) X.xe s := by
  obtain ⟨ps, ⟨ex, es, ep, hdt, en⟩, zp, dk, dv⟩ := raw_of alt
  have hr := Inv.raw I e
  have hl : ps.length = es.size := (EnR.length en).trans Array.length_toList
  refine PySem.Calls.call_function_entry kind_sorted plain_sorted entry_sorted (args_sorted1 _) ?_
  unfold Builtin.«sorted»
  refine wpAny_bind (m := checkCount "sorted" 1 1 _) (wpAny_pure ?_)
  refine wpAny_bind (W.kdu_collect (A := X.A.in1) (KdlSrc.rawDict lo) (I.ok.hd hc) ⟨o, hr, ex, hdt⟩ (by rw [← hl]; exact zp) fun h' tk acc hk hacc => ?_)
  have hal : acc.toList.length = es.size := by rw [Array.length_toList]; exact hacc.1
  refine wpAny_bind (wpAny_newList ?_ (by rw [hal, ← hl]; exact zp))
  have I1 : Inv X pins σ H { s with heap := h', toks := tk } := I.kept hk
  have rv : Vals (ps.map (·.1)) acc.toList := by rw [items_keys hacc]; exact EnR.keys en
  have hoL : (h'.push (seqObj "list" acc.toList.toArray 0)).get? h'.objs.size = some (seqObj "list" acc.toList.toArray 0) := Heap.get?_push_size _ rfl
  refine wpAny_bind (wpAny_holding (wpAny_call_entry slot_list_sort ⟨_, hoL, rfl⟩ entry_list_sort (sort_new f hu (A := X.A.in1.in1) (show X.A.units + 1 + 1 + 68 < cLine by omega) I1 sb (fun b o e => Heap.get?_push_of_some _ e) (Nat.le_refl _) hoL rv dk (by rw [List.length_map]; exact zp) hz fun ys out h2 ep2 ry dy hyl keep2 at2 => ⟨_, rfl, ?_⟩) (args_list_sort _)))
  have hfr : H h'.objs.size = none := I1.hok.fresh (Nat.le_refl _)
  exact wpAny_pure ⟨_, rfl, .ref _, upd H h'.objs.size (.lst ys), I1.laid (t' := tk) keep2 (Nat.le_refl _) ⟨hyl, out, ep2, ry, at2⟩, rfl, q _ _ _ (Ext.newO sb hfr) ⟨_, rfl, hfr, sb.no hfr, ys, upd_same, hyl, dy⟩⟩
theorem bi_sorted (hc : X.calm = true) : CallR X (.builtin "sorted") (rBO c (biD .sorted)) := bi_oneO (fun _ _ => rfl) (by
  intro pins s σ H xs us Q I r h
  obtain ⟨F, d, z, v, sb, rfl, hv, hz, q⟩ := h
  obtain ⟨u, rfl, rx⟩ := vals1 r
  cases d with
  | list ds =>
    obtain ⟨r, hz2, rfl⟩ := Option.map_eq_some_iff.mp (show (sortD ds).map PyData.list = some z from hz)
    obtain ⟨a, xs, rfl, sq, zz, da⟩ := hv.list sb
    cases rx
    exact bi_sortedL f hu I sb (f.k ▸ sq) zz da hz2 q
  | dict kvs =>
    obtain ⟨r, hz2, rfl⟩ := Option.map_eq_some_iff.mp (show (sortD (keysOf kvs)).map PyData.list = some z from hz)
    obtain ⟨a, o, rfl, e, lo, alt⟩ := hv.dict sb
    cases rx
    exact bi_sortedC f hu hc I sb e lo alt hz2 q
  | _ => cases hz)
omit f hu in
theorem minBy_eq {lt : D → D → Bool} : ∀ (xs : List D) (x : D), minBy lt x xs = xs.foldl (fun a y => if lt y a = true then y else a) x
  | [], _ => rfl
  | y :: ys, x => by simp only [minBy, List.foldl_cons]; exact minBy_eq ys _
omit f hu in
theorem fold_mem {g : D → D → D} (hg : ∀ a b, g a b = a ∨ g a b = b) : ∀ (xs : List D) (x : D), xs.foldl g x ∈ x :: xs
  | [], x => by simp
  | y :: ys, x => by
    have := fold_mem hg ys (g x y)
    simp only [List.foldl_cons]
    rcases List.mem_cons.mp this with e | e
    · rw [e]
      rcases hg x y with q | q <;> rw [q] <;> simp
    · simp [e]
omit f hu in
theorem fold_congr {g k : D → D → D} {S : D → Prop} (hg : ∀ a b, g a b = a ∨ g a b = b) : ∀ (xs : List D) (x : D), S x → (∀ y ∈ xs, S y) → (∀ a b, S a → S b → g a b = k a b) → xs.foldl g x = xs.foldl k x
  | [], _, _, _, _ => rfl
  | y :: ys, x, hx, hs, e => by
    simp only [List.foldl_cons]
    rw [← e x y hx (hs y (by simp))]
    refine fold_congr hg ys _ ?_ (fun z hz => hs z (by simp [hz])) e
    rcases hg x y with q | q <;> rw [q]
    · exact hx
    · exact hs y (by simp)
omit f hu in
theorem okMin_of {ds : List D} (h : okMin ds = true) : W.AlikeAll ds ∧ ∀ d ∈ ds, okEq d = true := by
  unfold okMin at h
  simp only [Bool.and_eq_true, List.all_eq_true] at h
  obtain ⟨⟨h1, h2⟩, h3⟩ := h
  refine ⟨⟨allAlike_of h1, fun x hx e => ?_⟩, h3⟩
  have := h2 x hx
  subst e
  simp [notNone] at this
theorem bi_min1 (hc : X.calm = true) : CallR X (.builtin "min") (rB c fun ds => match ds with | [a] => bi1 .min1 a | _ => none) := by
  intro pins s σ H xs us Q I r h
  obtain ⟨F, ds, z, sb, hv, hz, q⟩ := h
  match ds, hv, hz with
  | [.list (x :: xs)], hv, hz =>
    obtain ⟨v, ev, hv2⟩ := vw1 hv
    subst ev
    obtain ⟨u, rfl, rx⟩ := vals1 r
    obtain ⟨h1, h2⟩ := ite_some (show (if okMin (x :: xs) = true then some (minBy ltD x xs) else none) = some z from hz)
    obtain ⟨hal, ok⟩ := okMin_of h1
    obtain ⟨a, ys, rfl, sq, zz, da⟩ := hv2.list sb
    cases rx
    obtain ⟨its, rv, pl, hzl⟩ := I.list (f.k ▸ sq)
    have hlay : PyData.canLayAll0 (x :: xs) = true := lay_all ok
    have hxs : DpAll X.K H ys (x :: xs) := f.k ▸ da.dp sb hlay
    obtain ⟨as, ra⟩ := Dp.readsAll I _ _ its hxs rv
    have hdep : PyData.depthAll (x :: xs) ≤ 64 := depth_all ok
    refine W.min_list_data (I.ok.hd hc) pl.isList (vs := its.toArray) (by simpa using ra) hal (by omega) fun i v h' tk bs hi hr keep => ?_
    have hi2 : its[i]? = some v := by simpa using hi
    obtain ⟨y, ey, ry⟩ := Vals.at rv hi2
    obtain ⟨d, ed, dy⟩ := da.at ey
    have hd : d ∈ x :: xs := List.mem_of_getElem? ed
    obtain ⟨as2, r2⟩ := Dp.reads I d y v (f.k ▸ Dt.dp sb dy (okEq_lay (ok d hd))) ry
    have e1 : W.minD x xs = z := by
      rw [← h2, minBy_eq]
      unfold W.minD
      refine (fold_congr (S := fun d => d ∈ x :: xs) (fun a b => ?_) xs x (by simp) (fun y hy => by simp [hy]) fun a b ha hb => ?_).symm
      · by_cases q : ltD b a = true
        · rw [if_pos q]; exact .inr rfl
        · rw [if_neg q]; exact .inl rfl
      · rw [ltD_eq b a (hal.1 b hb a ha)]
    have hz1 : z ∈ x :: xs := by
      rw [← h2, minBy_eq]
      refine fold_mem (fun a b => ?_) xs x
      by_cases q : ltD b a = true
      · rw [if_pos q]; exact .inr rfl
      · rw [if_neg q]; exact .inl rfl
    rw [e1] at hr
    have e2 : d = z := by
      have a1 := SeqAt.readOf_eq (okEq_lay (ok z hz1)) hr
      have a2 := SeqAt.readOf_eq (okEq_lay (ok d hd)) (PyProof.Rows.Reads.keeps keep r2)
      rw [a1] at a2; exact a2.symm
    subst e2
    exact ⟨y, H, I.kept (t' := tk) keep, ry, q _ _ _ (Ext.refl sb) dy⟩
  | [], _, hz => cases hz
  | _ :: _ :: _, _, hz => cases hz
  | [.none], _, hz => cases hz
  | [.bool _], _, hz => cases hz
  | [.int _], _, hz => cases hz
  | [.str _], _, hz => cases hz
  | [.list []], _, hz => cases hz
  | [.tuple _], _, hz => cases hz
  | [.dict _], _, hz => cases hz
end
end SH

set_option Elab.async false
set_option linter.all false
set_option maxRecDepth 100000
set_option maxHeartbeats 4000000
/-! Sorting by a key. -/
namespace SH
open PySem PySem.Spec PyProof.Rows L2
variable [Tb]
/-- what a call of a key gives -/
abbrev Pre := List (Addr × Obj) → Hp → Prop
def Pre.mono (pre : Pre) : Prop := ∀ pins pins' H H', Grows H H' → (∀ p ∈ pins, p ∈ pins') → pre pins H → pre pins' H'
def KeyOk (c : Cn) (X : Cx) (fv : Value) (pre : Pre) (g : D → R D) : Prop :=
  ∀ (pins : List (Addr × Obj)) (s : Shared) (σ : L2.St) (H F : Hp) (v : V) (u : Value) (d k : D), Inv X pins σ H s → pre pins H → TabF F H → Sub F H → c.Dt F v d → RelV v u → g d = .ok k →
    wpAny (model X.prog X.w) X.A.in1.in1 (call fv [u]) (fun r s' => ∃ kv H' F', Inv X pins σ H' s' ∧ Ext H F H' F' ∧ RelV kv r ∧ c.Dt F' kv k) (fun _ _ => False) s
theorem freed_none (h : Heap) (a : Addr) : (h.update a (fun o => { o with data := .freed })).get? a = none := by
  cases h with
  | mk objs l =>
    simp only [Heap.update, Heap.get?, Array.getElem?_modify]
    cases objs[a]? with
    | none => simp
    | some o => simp
theorem keysBy_len {g : D → R D} : ∀ {ds : List D} {kds : List (D × D)}, keysBy g ds = .ok kds → kds.map (·.2) = ds ∧ ∀ (i : Nat) (d : D), ds[i]? = some d → ∃ k, (kds.map (·.1))[i]? = some k ∧ g d = .ok k
  | [], kds, h => by cases h; exact ⟨rfl, fun i d e => by simp at e⟩
  | d :: ds, kds, h => by
    obtain ⟨k, e, h⟩ := bind_ok_inv h
    obtain ⟨r, e2, h⟩ := bind_ok_inv h
    cases h
    obtain ⟨a, b⟩ := keysBy_len e2
    refine ⟨by simp [a], fun i d' hi => ?_⟩
    cases i with
    | zero => simp at hi; subst hi; exact ⟨k, by simp, e⟩
    | succ i => simpa using b i d' (by simpa using hi)
theorem each_mapG {A B C' : Type} {R : A → C' → Prop} (g : B → C') : ∀ {as : List A} {bs : List B}, W.EachIs (fun v b => R v (g b)) as bs → W.EachIs R as (bs.map g)
  | _, _, .nil => .nil
  | _, _, .cons h t => .cons h (each_mapG g t)
theorem zip_snd2 {A B : Type} : ∀ {xs : List A} {ds : List B}, xs.length = ds.length → (xs.zip ds).map (·.2) = ds
  | [], [], _ => rfl
  | x :: xs, d :: ds, h => by simp [zip_snd2 (xs := xs) (ds := ds) (by simpa using h)]
theorem zip_fst2 {A B : Type} : ∀ {xs : List A} {ds : List B}, xs.length = ds.length → (xs.zip ds).map (·.1) = xs
  | [], [], _ => rfl
  | x :: xs, d :: ds, h => by simp [zip_fst2 (xs := xs) (ds := ds) (by simpa using h)]
theorem map_zip2 {A B C' : Type} : ∀ (bs : List ((A × B) × C')), bs.map (fun b => (b.2, b.1.2)) = (bs.map (·.2)).zip ((bs.map (·.1)).map (·.2))
  | [] => rfl
  | b :: bs => by simp only [List.map_cons, List.zip_cons_cons]; rw [map_zip2 bs]
theorem zip_self {A B : Type} : ∀ (l : List (A × B)), (l.map (·.1)).zip (l.map (·.2)) = l
  | [] => rfl
  | b :: bs => by simp only [List.map_cons, List.zip_cons_cons]; rw [zip_self bs]
section
variable {c : Cn} {X : Cx}
variable (f : Fits c X) (hu : X.A.units + 70 < cLine)
include f hu
/-- the list at a, just made, is put in order by its items' keys -/
theorem key_tree {pins : List (Addr × Obj)} {s : Shared} {σ : L2.St} {H F : Hp} {a q : Addr} {xs : List V} {its : List Value} {ds : List D} {kds : List (D × D)} {r : List D} {g : D → R D} {P : PySem.Fin → Shared → Prop} {E : Value → Shared → Prop} {n0 : Nat}
    (I : Inv X pins σ (upd H a (.lst xs)) s) (sb : Sub F H) (ha : H a = none) (ho : s.heap.get? a = some (seqObj "list" its.toArray n0)) (rv : Vals xs its) (da : c.DtAll F xs ds) (zz : xs.length ≤ sizeLine) {pre : Pre} (hk : KeyOk c X (.ref q) pre g) (pm : pre.mono) (hpre : pre pins H) (tf : TabF F H) (hg : keysBy g ds = .ok kds) (hr : sortK kds = some r)
    (fin : ∀ ys s' H' F', Inv X pins σ (upd H' a (.lst ys)) s' → Ext H F H' F' → F' a = none → (∃ u, H' a = some u ∧ NotCode a u) → c.DtAll F' ys r → ys.length ≤ sizeLine → P (.done (.ret .none)) s') :
    wpAny (model X.prog X.w) X.A.in1.in1 (ksk_tree a (.ref q) false) P E s := by
  obtain ⟨hs, hr⟩ := ite_some hr
  obtain ⟨hal, hsk, ok⟩ := okSort_of hs
  obtain ⟨kd1, kd2⟩ := keysBy_len hg
  have hkl : kds.length = ds.length := by rw [← kd1, List.length_map]
  have hil : its.length = ds.length := by rw [← rv.length, da.length]
  have hnf := I.nofrz upd_same True.intro
  have hsb : Sub F (upd H a (.lst xs)) := sb.upd (sb.no ha)
  have hal0 : a < s.heap.objs.size := Heap.lt_size ho
  obtain ⟨e1, ho1⟩ : ∃ e1, (s.heap.update a (Obj.mapSeq fun _ => (#[] : Array Value))).get? a = some (seqObj "list" #[] e1) := ⟨_, get?_update_seq ho fun _ => #[]⟩
  have I1 : Inv X pins σ (upd (upd H a (.lst xs)) a (.lst [])) { s with heap := s.heap.update a (Obj.mapSeq fun _ => (#[] : Array Value)) } :=
    d_write (t' := s.toks) I (by rw [upd_same]; exact True.intro) (Heap.SameBut.update ..) ⟨_, ho1⟩ ⟨Nat.zero_le _, [], e1, .nil, ho1⟩
  rw [upd_upd] at I1
  unfold ksk_tree
  refine wpAny_bind (listItems_at ho rfl ?_)
  refine wpAny_bind (listUpdate_at ho rfl ?_ (by rw [List.size_toArray, ← rv.length]; exact zz) (Nat.zero_le _))
  refine wpAny_bind (seqEpoch_at ho1 rfl ?_)
  refine wpAny_bind (wpAny_newTuple ?_ (by show its.length ≤ _; rw [← rv.length]; exact zz))
  refine wpAny_bind (wpAny_newList ?_ (Nat.zero_le _))
  refine wpAny_holding ?_
  generalize hh1 : s.heap.update a (Obj.mapSeq fun _ => (#[] : Array Value)) = h1 at I1 ho1 ⊢
  have I2 : Inv X pins σ (upd H a (.lst [])) { s with heap := h1.push (seqObj "tuple" its.toArray 0) } := I1.kept (t' := s.toks) fun b o e => Heap.get?_push_of_some _ e
  have I3 : Inv X pins σ (upd H a (.lst [])) { s with heap := (h1.push (seqObj "tuple" its.toArray 0)).push (seqObj "list" #[] 0) } := I2.kept (t' := s.toks) fun b o e => Heap.get?_push_of_some _ e
  have hkf : FpOk X pins (upd H a (.lst [])) (h1.push (seqObj "tuple" its.toArray 0)).objs.size := I2.fpOk (Nat.le_refl _) (I2.hok.fresh (Nat.le_refl _))
  obtain ⟨od, I4⟩ := I3.lock upd_same True.intro
  rw [upd_upd] at I4
  have ho3 : ((h1.push (seqObj "tuple" its.toArray 0)).push (seqObj "list" #[] 0)).get? a = some (seqObj "list" #[] e1) := Heap.get?_push_of_some _ (Heap.get?_push_of_some _ ho1)
  have eod : od = seqObj "list" #[] e1 := by
    have z := (I4.hok a _ upd_same).1
    have z : ((h1.push (seqObj "tuple" its.toArray 0)).push (seqObj "list" #[] 0)).get? a = some od := z
    rw [ho3] at z; cases z; rfl
  subst eod
  have nk0 : ((h1.push (seqObj "tuple" its.toArray 0)).push (seqObj "list" #[] 0)).get? (h1.push (seqObj "tuple" its.toArray 0)).objs.size = some (seqObj "list" #[] 0) := Heap.get?_push_size _ rfl
  generalize hkS : (h1.push (seqObj "tuple" its.toArray 0)).objs.size = kS at hkf nk0 ⊢
  have hka : kS ≠ a := by
    rw [← hkS, size_push']
    have : h1.objs.size = s.heap.objs.size := by rw [← hh1, Heap.size_update]
    rw [this]
    exact Nat.ne_of_gt (Nat.lt_succ_of_lt hal0)
  have fpk : ∀ {H' : Hp}, H' kS = none → FpOk X pins H' kS := fun {H'} h => ⟨h, hkf.2⟩
  generalize hs3 : ({ s with heap := (h1.push (seqObj "tuple" its.toArray 0)).push (seqObj "list" #[] 0) } : Shared) = s3 at I4 ⊢
  have hH3 : s3.heap = (h1.push (seqObj "tuple" its.toArray 0)).push (seqObj "list" #[] 0) := by rw [← hs3]
  have hn0 : (upd H a (.frz (seqObj "list" #[] e1) (.lst []))) kS = none := by
    rw [upd_ne hka]
    have := hkf.1
    rw [upd_ne hka] at this; exact this
  unfold ksk_rest
  refine wpAny_bind (wpAny_rule ?_)
  first
    | rw [List.forIn_toArray]
    | (rw [← Array.forIn_toList]; simp only [List.toList_toArray])
    | rw [← Array.forIn_toList]
  refine wpAny_bind (ksk_fold (fun i s' => ∃ H' F' ks kA e, Inv X pins σ H' s' ∧ Ext H F H' F' ∧ F' a = none ∧ H' a = some (.frz (seqObj "list" #[] e1) (.lst [])) ∧ H' kS = none ∧ s'.heap.get? kS = some (seqObj "list" kA e) ∧ Vals ks kA.toList ∧ c.DtAll F' ks ((kds.map (·.1)).take i)) its 0 s3
    ⟨_, F, [], #[], 0, I4, Ext.newO sb ha, sb.no ha, upd_same, hn0, by rw [hH3]; exact nk0, .nil, by rw [List.take_zero]; exact .nil⟩ ?step ?done)
  case step =>
    rintro j u s' hx ⟨H', F', ks, kA, e, I5, x5, n5, a5, k5, nk, rk, dk⟩
    simp only [Nat.zero_add] at dk ⊢
    obtain ⟨v, ev, rvu⟩ := Vals.at rv hx
    obtain ⟨d, ed, dv⟩ := da.at ev
    obtain ⟨k, ek, hgk⟩ := kd2 j d ed
    have hz : kA.size ≤ sizeLine := by
      have l1 : ks.length = kA.size := rk.length.trans Array.length_toList
      have l2 := dk.length
      rw [List.length_take, List.length_map] at l2
      have l3 := da.length
      omega
    have Ip := I5.pinned (fp := [kS]) (fun b hb => by rw [List.mem_singleton.mp hb]; exact fpk k5) (fun b hb => by rw [List.mem_singleton.mp hb]; exact ⟨_, nk, fun v q => nomatch q⟩)
    refine wpAny_bind (wpAny_attempt (wpAny_mono (hk _ s' σ H' F' v u d k Ip (pm _ _ _ _ x5.h (fun p hp => List.mem_append_left _ hp) hpre) (tf.ext x5) x5.s (Dt.mono x5.f dv) rvu hgk) (fun w s'' he => ?_) fun _ _ hF => hF.elim))
    obtain ⟨kv, H6, F6, I6, x6, rw6, d6⟩ := he
    try dsimp only
    obtain ⟨nk6, k6, _⟩ := I6.pin (kS, seqObj "list" kA e) (List.mem_append_right _ (List.mem_append_right _ (mem_pinsAt (by simp) nk)))
    have nk6 : s''.heap.get? kS = some (seqObj "list" kA e) := nk6
    have k6 : H6 kS = none := k6
    have I7 : Inv X pins σ H6 s'' := I6.unpinned
    obtain ⟨c2, hc2⟩ : ∃ c2, (s''.heap.update kS (Obj.mapSeq (·.push w))).get? kS = some (seqObj "list" (kA.push w) c2) := ⟨_, get?_update_seq nk6 (·.push w)⟩
    refine wpAny_bind (listUpdate_at nk6 rfl ?_ hz (Nat.le_trans (Nat.le_of_eq (Array.size_push ..)) (Nat.succ_le_succ hz)))
    obtain ⟨f0, f1, f2, f3, f4, f5⟩ := fpk k6
    have I8 : Inv X pins σ H6 { s'' with heap := s''.heap.update kS (Obj.mapSeq (·.push w)) } := I7.turned (t' := s''.toks) (fun b o hb e => ((Heap.SameBut.update s''.heap kS (Obj.mapSeq (·.push w))).2 b hb).trans e) f0 f1 f3 f4 f5
    have ea : (kA.push w).toList = kA.toList ++ [w] := by simp
    have et : (kds.map (·.1)).take (j + 1) = (kds.map (·.1)).take j ++ [k] := by rw [List.take_add_one, ek]; simp
    refine wpAny_pure ⟨rfl, H6, F6, ks ++ [kv], kA.push w, c2, I8, x5.trans x6, Ext.apart x6 a5 n5, x6.h.get a5 (fun _ h => nomatch h), k6, hc2, by rw [ea]; exact rk.append (.cons rw6 .nil), ?_⟩
    rw [et]
    exact (dk.mono x6.f).append (.cons d6 .nil)
  case done =>
    rintro s' ⟨H', F', ks, kA, e, I5, x5, n5, a5, k5, nk, rk, dk⟩
    simp only [Nat.zero_add] at dk
    have etk : (kds.map (·.1)).take its.length = kds.map (·.1) := List.take_of_length_le (by rw [List.length_map]; omega)
    rw [etk] at dk
    try dsimp only
    refine wpAny_bind (listItems_at nk rfl ?_)
    have hks : kA.size = its.length := by
      have l1 : ks.length = kA.size := rk.length.trans Array.length_toList
      have l2 := dk.length
      rw [List.length_map] at l2
      omega
    have na : s'.heap.get? a = some (seqObj "list" #[] e1) := (I5.hok a _ a5).1
    have er : W.EachIs (fun v k => ∃ as, Reads s'.heap v k as) kA.toList (kds.map (·.1)) := by
      have := each_reads f hu I5 x5.s rk dk ok
      have z := W.each_map (R := fun v d => ∃ as, Reads s'.heap v d as) (fun b : V × D => b.2) this
      rwa [zip_snd dk.length] at z
    have kp : W.KeepsBut a (s'.heap.update kS (fun o => { o with data := .freed })) s'.heap := fun b o hb e => by
      by_cases hbk : b = kS
      · subst hbk; rw [freed_none] at e; cases e
      · rw [Heap.get?_update_ne _ _ _ _ hbk] at e; exact e
    refine W.keyH_end (κ := W.dataKind s'.heap (kds.map (·.1))) kp (freed_none _ _) nk na hka (W.SortsAt.data (s := s') er hal hsk (fun d hd => ?_)) hks (by rw [← rv.length]; exact zz) fun h' tk c' k3 n3 => ?_
    · have := okEq_depth (ok d hd)
      show X.A.units + 1 + 1 + d.depth < cLine
      omega
    · obtain ⟨f0, f1, f2, f3, f4, f5⟩ := fpk k5
      have I6 : Inv X pins σ H' { s' with heap := s'.heap.update kS (fun o => { o with data := .freed }) } := I5.turned (t' := s'.toks) (fun b o hb e => by rw [Heap.get?_update_ne _ _ _ _ hb]; exact e) f0 f1 f3 f4 f5
      have I7 := I6.unlock a5 hnf
      -- the items with their keys
      let bs : List ((V × D) × D) := (xs.zip ds).zip (kds.map (·.1))
      have ebs : bs.map (·.2) = kds.map (·.1) := zip_snd2 (by rw [List.length_zip, da.length, Nat.min_self, List.length_map]; omega)
      have ebs1 : bs.map (·.1) = xs.zip ds := zip_fst2 (by rw [List.length_zip, da.length, Nat.min_self, List.length_map]; omega)
      have hR : W.EachIs (fun v (b : (V × D) × D) => RelV b.1.1 v ∧ c.Dt F b.1.1 b.1.2) its bs := W.each_of_map (R := fun v (b : V × D) => RelV b.1 v ∧ c.Dt F b.1 b.2) (fun b : (V × D) × D => b.1) (by rw [ebs1]; exact each_zip rv da)
      have hout := W.keyedOut_each (rev := false) (fun b : (V × D) × D => b.2) (out := W.sortVals (W.dataKind s'.heap (kds.map (·.1))) false kA.toList its) (vs := its) ⟨s'.heap, kA.toList, by rw [ebs]; exact hal, by rw [ebs], by rw [ebs]; exact er⟩ hR
      rw [dataLe_leD (k := fun b : (V × D) × D => b.2) (by rw [ebs]; exact hal)] at hout
      have h2 : W.EachIs (fun v (b : V × D) => RelV b.1 v ∧ c.Dt F b.1 b.2) (W.sortVals (W.dataKind s'.heap (kds.map (·.1))) false kA.toList its) ((isort (fun a b : (V × D) × D => leD a.2 b.2) bs).map (·.1)) := each_mapG (R := fun v (b : V × D) => RelV b.1 v ∧ c.Dt F b.1 b.2) (fun b : (V × D) × D => b.1) hout
      obtain ⟨ry, dy⟩ := each_back h2
      have ekd : bs.map (fun b => (b.2, b.1.2)) = kds := by
        have : bs.map (fun b => (b.2, b.1.2)) = (bs.map (·.2)).zip ((bs.map (·.1)).map (·.2)) := map_zip2 bs
        rw [this, ebs, ebs1, zip_snd da.length, ← kd1]
        exact zip_self kds
      have edata : ((isort (fun a b : (V × D) × D => leD a.2 b.2) bs).map (·.1)).map (·.2) = r := by
        rw [← hr, ← ekd, List.map_map]
        rw [← isort_map (le := fun a b : (V × D) × D => leD a.2 b.2) (le2 := fun a b : D × D => leD a.1 b.1) (fun b : (V × D) × D => (b.2, b.1.2)) fun _ _ _ _ => rfl, List.map_map]
        rfl
      rw [edata] at dy
      have hyl : (((isort (fun a b : (V × D) × D => leD a.2 b.2) bs).map (·.1)).map (·.1)).length ≤ sizeLine := by
        rw [ry.length, W.sortVals_length false (by rw [Array.length_toList]; exact hks), ← rv.length]; exact zz
      have I8 := I7.write (t' := tk) (h' := h') (x := a) (e := a) (o := .lst _) (by rw [upd_same]; exact True.intro) (.inl rfl) (fun b u hb q => k3 b u hb q) ⟨_, n3⟩ ⟨hyl, _, c', ry, n3⟩
      rw [upd_upd] at I8
      exact fin _ _ H' F' I8 x5 n5 ⟨_, a5, notCode_frz⟩ (dy.mono x5.f) hyl
/-- sorted(x, key=f) -/
theorem key_run (hc : X.calm = true) {pins : List (Addr × Obj)} {s : Shared} {σ : L2.St} {H F : Hp} {v : V} {u : Value} {d : D} {ds : List D} {kds : List (D × D)} {rs : List D} {q : Addr} {pre : Pre} {g : D → R D} {Q : VK} (I : Inv X pins σ H s) (sb : Sub F H) (rx : RelV v u) (hv : c.Vw F H v d)
    (hi : keysIn d = some ds) (hg : keysBy g ds = .ok kds) (hr : sortK kds = some rs) (hk : KeyOk c X (.ref q) pre g) (pm : pre.mono) (hp : pre pins H) (tf : TabF F H) (q0 : ∀ u H' F', Ext H F H' F' → rO c H F' H' u (.list rs) → Q u H') :
    wpAny (model X.prog X.w) X.A (call (.builtin "sorted") [u] [(Str.ofString "key", .ref q)]) (EP X pins σ Q) X.xe s := by
  cases d with
  | list ds' =>
    cases hi
    obtain ⟨a, xs, rfl, sq, zz, da⟩ := hv.list sb
    cases rx
    obtain ⟨its, rv, pl, hzl⟩ := I.list (f.k ▸ sq)
    refine W.sorted_of_sort pl.isList (by rw [← rv.length]; exact zz) (ksk_s1 _ _) (fun _ => ksk_l1 _ _) fun E' => ?_
    rw [ksk_t1]
    have hfr : H (s.heap.objs.size + 1) = none := I.hok.fresh (Nat.le_succ _)
    have I1 : Inv X pins σ (upd H (s.heap.objs.size + 1) (.lst xs)) { s with heap := W.copyHeap s.heap its } := I.laid (t' := s.toks) (fun _ _ e => W.copyHeap_old e) (Nat.le_succ _) ⟨zz, its, 0, rv, W.copyHeap_at s.heap its⟩
    refine key_tree f hu I1 sb hfr (W.copyHeap_at s.heap its) rv da zz hk pm hp tf hg hr fun ys s' H' F' I' x n nc dy hyl => ⟨rfl, .ref _, _, I', rfl, q0 _ _ _ (Ext.grow x hfr n nc.choose_spec.1 nc.choose_spec.2) ⟨_, rfl, hfr, n, ys, upd_same, hyl, dy⟩⟩
  | dict kvs =>
    cases hi
    obtain ⟨a, o, rfl, e, lo, alt⟩ := hv.dict sb
    cases rx
    obtain ⟨ps, ⟨ex, es, ep, hdt, en⟩, zp, dk, dv⟩ := raw_of alt
    have hr0 := Inv.raw I e
    have hl : ps.length = es.size := (EnR.length en).trans Array.length_toList
    refine call_function_entry_kw kind_sorted plain_sorted entry_sorted (ksk_s1 _ _) ?_
    unfold Builtin.«sorted»
    refine wpAny_bind (m := checkCount "sorted" 1 1 _) (wpAny_pure ?_)
    refine wpAny_bind (W.kdu_collect (A := X.A.in1) (KdlSrc.rawDict lo) (I.ok.hd hc) ⟨o, hr0, ex, hdt⟩ (by rw [← hl]; exact zp) fun h' tk acc hk0 hacc => ?_)
    have hal : acc.toList.length = es.size := by rw [Array.length_toList]; exact hacc.1
    refine wpAny_bind (wpAny_newList ?_ (by rw [hal, ← hl]; exact zp))
    have I1 : Inv X pins σ H { s with heap := h', toks := tk } := I.kept hk0
    have rv : Vals (ps.map (·.1)) acc.toList := by rw [items_keys hacc]; exact EnR.keys en
    have zp2 : (ps.map (·.1)).length ≤ sizeLine := by rw [List.length_map]; exact zp
    have hoL : (h'.push (seqObj "list" acc.toList.toArray 0)).get? h'.objs.size = some (seqObj "list" acc.toList.toArray 0) := Heap.get?_push_size _ rfl
    have hfr : H h'.objs.size = none := I1.hok.fresh (Nat.le_refl _)
    have I2 : Inv X pins σ (upd H h'.objs.size (.lst (ps.map (·.1)))) { s with heap := h'.push (seqObj "list" acc.toList.toArray 0), toks := tk } := I1.laid (t' := tk) (fun _ _ e => Heap.get?_push_of_some _ e) (Nat.le_refl _) ⟨zp2, _, 0, rv, hoL⟩
    refine wpAny_bind (wpAny_holding (wpAny_call_entry_kw slot_list_sort ⟨_, hoL, rfl⟩ entry_list_sort ?_ (ksk_l1 _ _)))
    show wpAny _ X.A.in1.in1 (Builtin.«list.sort» ⟨[.ref h'.objs.size], [(Str.ofString "key", .ref q)]⟩) _ _ _
    rw [ksk_t1]
    refine key_tree f hu I2 sb hfr hoL rv dk zp2 hk pm hp tf hg hr fun ys s' H' F' I' x n nc dy hyl => ⟨_, rfl, ?_⟩
    exact wpAny_pure ⟨_, rfl, .ref _, _, I', rfl, q0 _ _ _ (Ext.grow x hfr n nc.choose_spec.1 nc.choose_spec.2) ⟨_, rfl, hfr, n, ys, upd_same, hyl, dy⟩⟩
  | _ => cases hi
/-- one's own def as a key -/
theorem key_fn {k i : Nat} {fa : Addr} {fd : FuncData} {ps : List Str} (FN : FnOk X.prog X.w X.K X.mg X.base (L2.CX X.prog X.w) k fa fd ps (spF c i 1)) (hr : Room k X.A.in1.in1) (hb : Binds X.K fd ps []) : KeyOk c X (.ref fa) (fun _ _ => True) (fun d => c.C i [d]) := by
  intro pins s σ H F v u d k' I _ hp sb hv rv hg
  have sp : spF c i 1 [v] H (fun kv H' => ∃ F', Ext H F H' F' ∧ c.Dt F' kv k') (fun _ _ _ => False) := ⟨F, [d], hp, sb, .cons hv .nil, rfl, by rw [show c.C i [d] = R.ok k' from hg]; exact fun v H' F' x y => ⟨F', x, y⟩⟩
  have hl := FN.len _ _ _ _ sp
  refine wpAny_call (codeAny_mono (FN.run X.A.in1.in1 X.stack s H ⟨[u], []⟩ [u] [v] _ (fun _ _ _ => False) hr I.env0.in1.in1 (hb s [u] I.kIn (by simpa using hl)) (.cons rv .nil) sp) fun r s' hq => ?_)
  cases r with
  | error e =>
    obtain ⟨_, _, _, _, _, _, _, _, _, _, _, _, z⟩ := hq
    exact z.elim
  | ok fl =>
    cases fl with
    | ret u =>
      obtain ⟨kv, H', I', r', F', x, y⟩ := I.after hq
      exact ⟨kv, H', F', I', x, r', y⟩
    | next => exact False.elim hq
    | brk => exact False.elim hq
    | cont => exact False.elim hq
omit f hu in
theorem tabs_mono : Pre.mono (fun _ _ => True) := fun _ _ _ _ _ _ h => h
def rKeyF (c : Cn) (i : Nat) (fa : Addr) : List V → List V → Hp → VK → Prop := fun vs zs H Q => ∃ F d ds kds rs v, TabF F H ∧ Sub F H ∧ vs = [v] ∧ zs = [.ref fa] ∧ c.Vw F H v d ∧ keysIn d = some ds ∧ keysBy (fun d => c.C i [d]) ds = .ok kds ∧ sortK kds = some rs ∧
  ∀ u H' F', Ext H F H' F' → rO c H F' H' u (.list rs) → Q u H'
theorem cr_keyF (hc : X.calm = true) {k i : Nat} {fa : Addr} {fd : FuncData} {ps : List Str} (FN : FnOk X.prog X.w X.K X.mg X.base (L2.CX X.prog X.w) k fa fd ps (spF c i 1)) (hr : Room k X.A.in1.in1) (hb : Binds X.K fd ps []) : CallRK X (.builtin "sorted") [Str.ofString "key"] (rKeyF c i fa) := by
  intro pins s σ H vs zs us ws Q I r rz h
  obtain ⟨F, d, ds, kds, rs, v, tb, sb, rfl, rfl, hv, hi, hg, hs, q⟩ := h
  obtain ⟨u, rfl, rx⟩ := vals1 r
  obtain ⟨w1, rfl, e1⟩ := vals1 rz
  cases e1
  exact key_run f hu hc I sb rx hv hi hg hs (key_fn f hu FN hr hb) tabs_mono trivial tb q
/-- sorted(x, key=f), f a def of the text -/
theorem sx_srtk (hc : X.calm = true) {W : WX} {e : Expr} {a : E} {x : Str} {p p2 pos kpos : Pos} {k i : Nat} {fa : Addr} {fd : FuncData} {ps : List Str} (FN : FnOk X.prog X.w X.K X.mg X.base (L2.CX X.prog X.w) k fa fd ps (spF c i 1)) (hr : Room k X.A.in1.in1) (hb : Binds X.K fd ps [])
    (hgs : Gl X "sorted") (hms : X.mg "sorted" = none) (hg : Gl X x) (hm : X.mg x = some (.ref fa)) (hdb : (x == ("__debug__" : Str)) = false) (ha : PA X [e] (tVs c W (.cons a .nil))) (hs : starEach [e] X.env = (false, eval e X.env) :: starEach [] X.env) :
    PE X (.Call (.Name "sorted" p) [e] [⟨some "key", .Name x p2, kpos⟩] pos) (tO c W (.srtk a i)) :=
  (pe_callBK (cr_keyF f hu hc FN hr hb) hgs hms (by decide +kernel) ha (pk_cons (pe_glob (v := .ref fa) hg hm rfl hdb) pk_nil) (by decide) (by decide) (by rw [hs]; rfl) (by rw [hs]; rfl) rfl rfl rfl).mono fun σ H Q ⟨env, F, r, h⟩ => by
    refine ⟨env, F, r, ?_⟩
    have e1 : evE c.C c.G (.srtk a i) env = (evEs c.C c.G (.cons a .nil) env).bind fun xs => match xs with
      | [x] => (R.of (keysIn x)).bind fun ds => (keysBy (fun d => c.C i [d]) ds).calm.bind fun kds => (R.of (sortK kds)).bind fun r => .ok (.list r)
      | _ => .bad := by
      simp only [evE, evEs, Wants.assoc, R.bind_ok]
    rw [e1] at h
    refine h.bind.imp fun xs _ k vs H1 F1 x1 y1 => ?_
    match xs, k, vs, y1 with
    | [d], k, [v], y1 =>
      obtain ⟨ds, e2, k⟩ := k.bind.of
      obtain ⟨kds, e3, k⟩ := k.bind.calm
      obtain ⟨rs, e4, k⟩ := k.bind.of
      exact ⟨F1, d, ds, kds, rs, v, r.t.ext x1, x1.s, rfl, rfl, y1.1, e2, e3, e4, fun u H' F' x y => k u H' F' (x1.trans x) (rO.back x1.h y)⟩
    | [], k, _, _ => exact k.elim
    | _ :: _ :: _, k, _, _ => exact k.elim
end
end SH

set_option Elab.async false
set_option linter.all false
set_option maxRecDepth 100000
set_option maxHeartbeats 4000000
/-! A lambda of one parameter as a key. -/
namespace SH
open PySem PySem.Spec PyProof.Rows L2
variable [Tb]
theorem cloFrom_nil (cells : List (Str × Addr)) : ∀ (names : List (Str × NameKind)) (acc : List (Str × Addr)), (∀ y ∈ names, y.2 ≠ .free) → cloFrom cells names acc = acc
  | [], _, _ => rfl
  | (n, k) :: r, acc, h => by
    have hk : (k == NameKind.free) = false := beq_eq_false_iff_ne.mpr (h (n, k) (by simp))
    simp only [cloFrom, hk, Bool.false_eq_true, if_false]
    exact cloFrom_nil cells r acc fun y hy => h y (by simp [hy])
section
variable {X : Cx} {pins : List (Addr × Obj)} {σ : L2.St} {H : Hp} {s : Shared}
/-- a lambda is made; what is known of the heap behind it -/
theorem lam_mk {c P : Addr} {params : Arguments} {body : Expr} {scope : Scope} {pos : Pos} {E : Value → Shared → Prop} {Q : Value → Shared → Prop} (I : Inv X pins σ H s) (TB : LamX.TabB X.base X.mg c P) (hcode : X.env.code = .ref c)
    (hm : (P, X.env.qual ++ "<lambda>") ∈ Tb.T) (hu : ∀ p ∈ Tb.T, p.1 = P → p.2 = X.env.qual ++ "<lambda>") (hT : LamX.Tabs Tb.T H) (hdef : defaultsOf params X.env = ([], [])) (hnf : ∀ y ∈ scope.names, y.2 ≠ .free)
    (h : ∀ (f c' : Addr) (pm ctv : Value) (H1 : Hp) (s' : Shared), Inv X pins σ H1 s' → Grows H H1 → (∀ b o, H b = some o → b ≠ P → H1 b = some o) → s'.heap.get? f = some (PySem.W.kla_obj "<lambda>" (X.env.qual ++ "<lambda>") params body scope [] pm c' ctv) → H1 f = none → f ∉ frs X.stack → H1 c' = some (LamX.CodeO c' (X.env.qual ++ "<lambda>")) → Q (.ref f) s') :
    wpAny (model X.prog X.w) X.A (eval (.Lambda params body scope pos) X.env) Q E s := by
  obtain ⟨ps, hP, ht, ha⟩ := hT _ hm
  refine PySem.W.kla_eval hdef ?_
  have bP : s.heap.BuiltinsAt X.mg P := TB.bm.keeps I.bk
  have hP' : s.heap.get? P = some { cls := .none, data := .fields ps } := I.hok P _ hP
  have hfree : ∀ y ∈ scope.names, y.2 = .free → ∃ c, X.env.cells.lookup y.1 = some c := fun y hy e => absurd e (hnf y hy)
  have ecl : cloFrom X.env.cells scope.names [] = [] := cloFrom_nil _ _ _ hnf
  have nofr : ∀ f, s.heap.objs.size ≤ f → f ∉ frs X.stack := fun f hf z => by
    rcases List.mem_cons.mp (I.stkSub _ z) with e | e
    · have h1 := I.lt
      rw [← e] at h1
      exact Nat.lt_irrefl _ (Nat.lt_of_lt_of_le h1 hf)
    · exact I.nofs hf e
  cases hc : codeAmong pos ps.toList with
  | none =>
    refine PySem.W.kla_makeFunction (mg := X.mg) (c := c) (P := P) (ps := ps) (closure_ok hfree) I.ok.glob (I.mod.glob.keeps I.bk) hcode (TB.code.keeps I.bk) hP' ht hc TB.gP bP fun c' ctv h' tk hx hge hlt hrec htb => ?_
    obtain ⟨c2, oc, vs, t, e2, hoc, hd, hv⟩ := hrec
    cases e2
    have hsz : s.heap.objs.size ≤ h'.objs.size := Nat.le_trans hge (Nat.le_of_lt hlt)
    have nC : H c' = none := I.hok.fresh hge
    have I1 := LamX.inv_table (t' := tk) (more := #[rawInt pos.line, rawInt pos.col, .ref c']) (h' := h'.push (PySem.W.kla_obj "<lambda>" (X.env.qual ++ "<lambda>") params body scope (cloFrom X.env.cells scope.names []) ((X.mg "__name__").getD .none) c' ctv)) I hP
      (fun b o hb e => Heap.get?_push_of_some _ (hx b o hb e)) (Heap.get?_push_of_some _ htb) hge ⟨oc, vs, t, Heap.get?_push_of_some _ hoc, hd, hv⟩
    have keepN : ∀ b o, H b = some o → (∀ ps, o ≠ .tbl ps) → upd (upd H P (.tbl (ps ++ #[rawInt pos.line, rawInt pos.col, .ref c']))) c' (LamX.CodeO c' (X.env.qual ++ "<lambda>")) b = some o := fun b o e n => by
      rw [upd_ne (ne_of_none e nC), upd_ne (fun z => n ps (Option.some.inj (e.symm.trans (by rw [z]; exact hP))))]
      exact e
    have eL : (ps ++ #[rawInt pos.line, rawInt pos.col, .ref c']).toList = ps.toList ++ [rawInt pos.line, rawInt pos.col, .ref c'] := by simp
    refine h h'.objs.size c' ((X.mg "__name__").getD .none) ctv _ _ I1 ⟨fun b o e => ?_, fun _ p hp => ?_⟩ (fun b o e hb => by rw [upd_ne (ne_of_none e nC), upd_ne hb]; exact e) (by rw [ecl]; exact Heap.get?_push_size _ rfl) ?_ (nofr _ hsz) upd_same
    · by_cases hb : b = P
      · subst hb
        rw [hP] at e
        cases e
        exact .inr ⟨_, _, rfl, by rw [upd_ne (ne_of_none hP nC), upd_same]⟩
      · exact .inl (by rw [upd_ne (ne_of_none e nC), upd_ne hb]; exact e)
    · by_cases hb : p.1 = P
      · rw [hu p hp hb, hb]
        refine ⟨_, by rw [upd_ne (ne_of_none hP nC), upd_same], by rw [eL]; exact PySem.TriplesOk_snoc _ _ _ _ ht, fun p' cv hcv => ?_⟩
        rw [eL] at hcv
        rcases LamX.among_app _ ht hcv with z | z
        · obtain ⟨c0, e1, e2⟩ := ha p' cv z
          exact ⟨c0, e1, keepN _ _ e2 LamX.codeO_ne⟩
        · exact ⟨c', z, upd_same⟩
      · obtain ⟨ps', a1, a2, a3⟩ := hT p hp
        refine ⟨ps', by rw [upd_ne (ne_of_none a1 nC), upd_ne hb]; exact a1, a2, fun p' cv hcv => ?_⟩
        obtain ⟨c0, e1, e2⟩ := a3 p' cv hcv
        exact ⟨c0, e1, keepN _ _ e2 LamX.codeO_ne⟩
    · have n1 : h'.objs.size ≠ c' := Nat.ne_of_gt hlt
      have n2 : h'.objs.size ≠ P := Nat.ne_of_gt (Nat.lt_of_lt_of_le (Heap.lt_size hP') hsz)
      rw [upd_ne n1, upd_ne n2]
      exact I.hok.fresh hsz
  | some cv =>
    obtain ⟨c', e, hco⟩ := ha pos cv hc
    subst e
    refine PySem.W.kla_makeFunctionHit (mg := X.mg) (c := c) (P := P) (ps := ps) (closure_ok hfree) I.ok.glob (I.mod.glob.keeps I.bk) hcode (TB.code.keeps I.bk) hP' ht hc bP fun ctv h' tk hx hsz => ?_
    have I1 : Inv X pins σ H { s with heap := h'.push (PySem.W.kla_obj "<lambda>" (X.env.qual ++ "<lambda>") params body scope (cloFrom X.env.cells scope.names []) ((X.mg "__name__").getD .none) c' ctv), toks := tk } := I.kept fun b o e => Heap.get?_push_of_some _ (hx b o e)
    exact h h'.objs.size c' ((X.mg "__name__").getD .none) ctv H _ I1 Grows.refl (fun _ _ e _ => e) (by rw [ecl]; exact Heap.get?_push_size _ rfl) (I.hok.fresh hsz) (nofr _ hsz) hco
end
section
variable {c : Cn} {X : Cx}
/-- what stands of a lambda that was made -/
structure LamAt (q : Str) (params : Arguments) (body : Expr) (scope : Scope) (f c' : Addr) (pm ctv : Value) (pins : List (Addr × Obj)) (H : Hp) : Prop where
  pin : (f, PySem.W.kla_obj "<lambda>" q params body scope [] pm c' ctv) ∈ pins
  code : H c' = some (LamX.CodeO c' q)
theorem lamAt_mono {q : Str} {params : Arguments} {body : Expr} {scope : Scope} {f c' : Addr} {pm ctv : Value} : Pre.mono (LamAt q params body scope f c' pm ctv) :=
  fun _ _ _ _ g s h => ⟨s _ h.pin, g.get h.code LamX.codeO_ne⟩
variable (f : Fits c X) (hu : X.A.units + 70 < cLine)
include f hu
theorem key_lam {q : Str} {params : Arguments} {body : Expr} {scope : Scope} {fa c' : Addr} {pm ctv : Value} {pn : Str} {mb : E} {k : Nat} (S : FnScope [pn] [pn] scope)
    (hbind : ∀ (cl : List (Str × Addr)) (pm cv ctv u : Value), bindArgs (PySem.W.kla_fn "<lambda>" q params body scope cl pm cv ctv) ⟨[u], []⟩ = pure [(pn, u)])
    (hr : Room (k + 1) X.A.in1.in1)
    (hbody : ∀ (A : Around) (outer : List Env) (s : Shared) (H : Hp) (E : XK) (f c' : Addr), Room k (A.deeper (envOfC q scope s.heap.objs.size f (.ref c'))) → PE (cxOf (L2.CX X.prog X.w) X.prog X.w X.K X.mg X.base [pn] q scope f (.ref c') A outer s H E) body (tE c W0 mb)) :
    KeyOk c X (.ref fa) (LamAt q params body scope fa c' pm ctv) (fun d => evE c.C c.G mb [some (.fz d)]) := by
  intro pins s σ H F v u d kd I hp tf sb hv rv hg
  have hg : evE c.C c.G mb [some (.fz d)] = .ok kd := hg
  have of1 : s.heap.get? fa = some (PySem.W.kla_obj "<lambda>" q params body scope [] pm c' ctv) := (I.pin _ (List.mem_append_right _ hp.pin)).1
  obtain ⟨⟨oc, vs, t, hoc, hdc, hvc⟩, _, _⟩ := I.hok c' _ hp.code
  have e0 : Env0 X.prog X.w X.K X.mg X.base X.A.in1.in1 X.stack s H := I.env0.in1.in1
  have lim : s.heap.NoLimit := e0.mod.nolimit.keeps fun b o e => (e0.bs b o e).1
  let Q : VK := fun kv H' => ∃ F', Ext H F H' F' ∧ c.Dt F' kv kd
  let E : XK := fun _ _ _ => False
  have hkind : ∀ y ∈ [(pn, u)], scope.names.lookup y.1 = some .local ∨ (scope.names.lookup y.1 = some .cell ∧ ((cellsFrom (s.heap.objs.size + 1) scope.names []).lookup y.1).isSome = true) := fun y hy => by
    have ey : y = (pn, u) := by simpa using hy
    subst ey
    rcases S.par pn (by simp) with z | z
    · exact .inl z
    · exact .inr ⟨z, PySem.W.cellsFrom_some _ _ _ (.inl z)⟩
  have rc : codeAny (model X.prog X.w) X.A.in1.in1 (.call (.ref fa) ⟨[u], []⟩) (CR (L2.CX X.prog X.w) X.stack X.prog X.w H s Q E) s := by
    refine PySem.W.kla_callFunE hr.depth of1 rfl S.co S.gen rfl ⟨c', oc, vs, t, rfl, hoc, hdc, hvc⟩ ?_
    rw [hbind]
    refine wpAny_pure ?_
    refine wpAny_newFunctionEnv_cells S.kind hkind fun env he s1 x => ?_
    subst he
    refine ⟨lim.keeps x.toInCall.keep, ?_⟩
    have J : Inv (cxOf (L2.CX X.prog X.w) X.prog X.w X.K X.mg X.base [pn] q scope fa (.ref c') X.A.in1.in1 X.stack s H E) [] (L2.start [pn] [v]) H s1 := inv_start (us := [u]) S hr.hd e0 rfl (.cons rv .nil) x
    refine PySem.W.kla_codeExpr (wpAny_mono ((hbody X.A.in1.in1 X.stack s H E fa c' (hr.deeper _)).run [] s1 _ H Q J ⟨[some (.fz d)], F, ⟨sb, rfl, fun i cl e => ?_, tf⟩, Wants.ok0 hg fun v H' F' x y => ⟨F', x, y⟩⟩) (fun v s' hq => ?_) fun e s' hq => hq)
    · cases i with
      | zero => cases e; exact ⟨v, rfl, hv⟩
      | succ i => simp at e
    · obtain ⟨w', H', J', rv', q'⟩ := hq
      exact ⟨w', H', J'.os, J'.bare, J'.base, J'.hok, rv', q'⟩
  refine wpAny_call (codeAny_mono rc fun r s' hq => ?_)
  cases r with
  | error e =>
    obtain ⟨_, _, _, _, _, _, _, _, _, _, _, _, z⟩ := hq
    exact z.elim
  | ok fl =>
    cases fl with
    | ret u =>
      obtain ⟨kv, H', I', r', F', x, y⟩ := I.after hq
      exact ⟨kv, H', F', I', x, r', y⟩
    | next => exact False.elim hq
    | brk => exact False.elim hq
    | cont => exact False.elim hq
/-- sorted(x, key=lambda p: ..) -/
theorem sx_srtl (hc : X.calm = true) {W : WX} {e : Expr} {a mb : E} {p pos lpos kpos : Pos} {k : Nat} {cc P : Addr} {params : Arguments} {body : Expr} {scope : Scope} {pn : Str} (TB : LamX.TabB X.base X.mg cc P) (hcode : X.env.code = .ref cc)
    (hmT : (P, X.env.qual ++ "<lambda>") ∈ Tb.T) (huT : ∀ p ∈ Tb.T, p.1 = P → p.2 = X.env.qual ++ "<lambda>") (hdef : defaultsOf params X.env = ([], [])) (S : FnScope [pn] [pn] scope)
    (hbind : ∀ (cl : List (Str × Addr)) (pm cv ctv u : Value), bindArgs (PySem.W.kla_fn "<lambda>" (X.env.qual ++ "<lambda>") params body scope cl pm cv ctv) ⟨[u], []⟩ = pure [(pn, u)]) (hr : Room (k + 1) X.A.in1.in1)
    (hbody : ∀ (A : Around) (outer : List Env) (s : Shared) (H : Hp) (E : XK) (f c' : Addr), Room k (A.deeper (envOfC (X.env.qual ++ "<lambda>") scope s.heap.objs.size f (.ref c'))) → PE (cxOf (L2.CX X.prog X.w) X.prog X.w X.K X.mg X.base [pn] (X.env.qual ++ "<lambda>") scope f (.ref c') A outer s H E) body (tE c W0 mb))
    (hgs : Gl X "sorted") (hms : X.mg "sorted" = none) (ha : PE X e (tV c W a)) (hs : starEach [e] X.env = (false, eval e X.env) :: starEach [] X.env) :
    PE X (.Call (.Name "sorted" p) [e] [⟨some "key", .Lambda params body scope lpos, kpos⟩] pos) (tO c W (.srtl a mb)) := by
  refine ⟨fun pins s σ H Q I h => ?_⟩
  obtain ⟨env, F, r, h⟩ := h
  refine wpAny_Call_Name_kw (ld_blt (u := .builtin "sorted") I hgs hms (by decide +kernel) ?_)
  refine PyProof.Rows.callWith_kw ?_ (by rw [hs]; rfl) (by rw [hs]; rfl) rfl rfl
  refine args_cons (thn (ha.run pins s σ H (fun v H1 => ∃ F1 d ds kds rs, Ext H F H1 F1 ∧ c.Vw F1 H1 v d ∧ keysIn d = some ds ∧ keysBy (fun d => evE c.C c.G mb [some (.fz d)]) ds = .ok kds ∧ sortK kds = some rs ∧ ∀ u H' F', Ext H F H' F' → rO c H F' H' u (.list rs) → Q u H') I
    ⟨env, F, r, h.bind.imp fun d _ k v H' F' x y => ?_⟩) fun v s1 ⟨x, H1, I1, r1, F1, d, ds, kds, rs, x1, hv, hi, hg, hsr, q⟩ => args_nil ?_) hs
  · obtain ⟨ds, e2, k⟩ := k.bind.of
    obtain ⟨kds, e3, k⟩ := k.bind.calm
    obtain ⟨rs, e4, k⟩ := k.bind.of
    exact ⟨F', d, ds, kds, rs, x, y, e2, e3, e4, k⟩
  · show wpAny _ _ (evalAll [do let v ← eval (.Lambda params body scope lpos) X.env; standAt pos; pure v]) _ _ _
    have hnf : ∀ y ∈ scope.names, y.2 ≠ .free := S.nofree
    refine wpAny_evalAll_cons (wpAny_bind (lam_mk I1 TB hcode hmT huT (r.t.ext x1).1 hdef hnf fun fa c' pm ctv H2 s2 I2 gN gN2 hfo hfn hfr hco => wpAny_bind (wpAny_standAt (wpAny_pure (wpAny_evalAll_nil ?_)))))
    show wpAny _ _ (call (.builtin "sorted") [v] [(Str.ofString "key", .ref fa)]) _ _ _
    have hL : fa ≠ X.env.locals := fun z => by
      obtain ⟨m, ⟨ob, es, ep, ho, hx⟩, _⟩ := I2.loc
      rw [← z, hfo] at ho
      cases ho
      exact absurd hx.1 (by intro q; cases q)
    have hfs : fa ∉ X.fs := fun z => by
      refine hfr ?_
      rcases I2.ok.stk with e | ⟨e, _⟩
      · rw [e]; exact z
      · rw [e]
        unfold frs
        rw [List.filterMap_cons]
        split
        · exact z
        · exact List.mem_cons_of_mem _ z
    have I3 : Inv X (pins ++ [(fa, PySem.W.kla_obj "<lambda>" (X.env.qual ++ "<lambda>") params body scope [] pm c' ctv)]) σ H2 s2 := I2.pins_of fun p hp => by
      rcases List.mem_append.mp hp with hp | hp
      · exact I2.pin p (List.mem_append_right _ hp)
      · have ep : p = _ := List.mem_singleton.mp hp
        subst ep
        exact ⟨hfo, hfn, hL, hfs, fun v z => nomatch z⟩
    have x2 : Ext H1 F1 H2 F1 := ⟨gN, Sub.refl, fun b o e => gN2 b o (x1.s b o e) (fun z => by have := (r.t.ext x1).2 _ hmT; rw [← z, e] at this; cases this), fun _ h => .inl h⟩
    refine thn (key_run f hu hc I3 x2.s r1 (Vw.ext x2 hv) hi hg hsr (key_lam f hu S hbind hr hbody) lamAt_mono ⟨List.mem_append_right _ (List.mem_singleton.mpr rfl), hco⟩ ((r.t.ext x1).ext x2) fun u H' F' x y => q u H' F' ((x1.trans x2).trans x) (rO.back (x1.h.trans gN) y)) fun u s3 ⟨w, H3, I4, rw4, q4⟩ => ⟨w, H3, I4.unpinned, rw4, q4⟩
end
end SH

set_option Elab.async false
set_option linter.all false
set_option maxRecDepth 100000
set_option maxHeartbeats 4000000
/-! Statements. -/
namespace SH
open PySem PySem.Spec PyProof.Rows L2
variable [Tb]
section
variable (c : Cn)
/-- what is wanted of a statement's end; H0: the heap at the def's entry -/
def WS {A : Type} (r : R A) (E : XK) (cl : Nat → Value) (H0 : Hp) (k : A → Prop) : Prop :=
  match r with
  | .ok a => k a
  | .exc i => ∀ H', Grows H0 H' → E (cl i) none H'
  | .bad => False
def FlK (H0 F0 : Hp) (D : Ends) : Fl → Prop
  | .nx env => ∀ σ H F, c.Rel H0 F0 env σ H F → D.nx σ H
  | .ct env => ∀ σ H F, c.Rel H0 F0 env σ H F → D.ct σ H
  | .rt d => ∀ v H F, Ext H0 F0 H F → c.Dt F v d → D.rt v H
def tS (E : XK) (H0 F0 : Hp) (m : S) : TS := fun D σ H => ∃ env F, c.Rel H0 F0 env σ H F ∧ WS (exS c.C c.G m env) E c.cl H0 (FlK c H0 F0 D)
def tB (E : XK) (H0 F0 : Hp) (ms : List S) : TS := fun D σ H => ∃ env F, c.Rel H0 F0 env σ H F ∧ WS (exB c.C c.G ms env) E c.cl H0 (FlK c H0 F0 D)
/-- the wish of expressions within -/
abbrev wE (E : XK) : WX := fun cls d _ H => E cls d H
end
section
variable {c : Cn} {X : Cx} {E : XK} {H0 F0 : Hp} {pos : Pos}
theorem WS.bind {A B : Type} {r : R A} {f : A → R B} {cl : Nat → Value} {k : B → Prop} (h : WS (r.bind f) E cl H0 k) : WS r E cl H0 fun a => WS (f a) E cl H0 k := by
  cases r <;> exact h
/-- a part that is an expression -/
theorem WS.wants {A : Type} {r : R A} {cl : Nat → Value} {σ : L2.St} {H : Hp} {k k' : A → Prop} (h : WS r E cl H0 k) (g : Grows H0 H) (q : ∀ a, r = .ok a → k a → k' a) : Wants r (wE E) cl σ H k' := by
  cases r with
  | ok a => exact q a rfl h
  | exc i => exact fun H' g' => h H' (g.trans g')
  | bad => exact h
theorem WS.of {A : Type} {o : Option A} {cl : Nat → Value} {k : A → Prop} (h : WS (R.of o) E cl H0 k) : ∃ a, o = some a ∧ k a := by
  cases o with
  | none => exact h.elim
  | some a => exact ⟨a, rfl, h⟩
theorem WS.imp {A : Type} {r : R A} {cl : Nat → Value} {k k' : A → Prop} (h : WS r E cl H0 k) (q : ∀ a, r = .ok a → k a → k' a) : WS r E cl H0 k' := by
  cases r with
  | ok a => exact q a rfl h
  | exc i => exact h
  | bad => exact h
/-! ### names set -/
theorem Rel.setF {env : En} {σ : L2.St} {H F : Hp} {i : Nat} {v : V} {d : D} (r : c.Rel H0 F0 env σ H F) (h : c.Dt F v d) : c.Rel H0 F0 (env.set i (some (.fz d))) (σ.set i (some v)) H F := by
  have key : ∀ j d', (env.set i (some (.fz d)))[j]? = some (some (.ow d')) → i ≠ j ∧ env[j]? = some (some (.ow d')) := fun j d' e => by
    by_cases hj : i = j
    · subst hj
      have hl : i < env.length := by have := (List.getElem?_eq_some_iff.mp e).1; simpa using this
      rw [List.getElem?_set_self hl] at e
      cases e
    · rw [List.getElem?_set_ne hj] at e; exact ⟨hj, e⟩
  refine ⟨RelE.set r.e (cl := .fz d) h, r.x, fun j d' a e1 e2 => ?_, fun j l d' d2 a hjl e1 e2 e3 e4 => ?_⟩
  · obtain ⟨hj, e⟩ := key j d' e1
    rw [List.getElem?_set_ne hj] at e2
    exact r.own j d' a e e2
  · obtain ⟨hj, e⟩ := key j d' e1
    obtain ⟨hl, e'⟩ := key l d2 e2
    rw [List.getElem?_set_ne hj] at e3
    rw [List.getElem?_set_ne hl] at e4
    exact r.dis j l d' d2 a hjl e e' e3 e4
theorem Rel.setO {env : En} {σ : L2.St} {H F : Hp} {i : Nat} {a : Addr} {d : D} (r : c.Rel H0 F0 env σ H F) (n0 : H0 a = none) (nF : F a = none) (o : c.Own F H a d)
    (hd : ∀ j d', j ≠ i → env[j]? = some (some (.ow d')) → σ[j]? ≠ some (some (.ref a))) : c.Rel H0 F0 (env.set i (some (.ow d))) (σ.set i (some (.ref a))) H F := by
  have key : ∀ j d', (env.set i (some (.ow d)))[j]? = some (some (.ow d')) → (j = i ∧ d' = d ∧ i < env.length) ∨ (i ≠ j ∧ env[j]? = some (some (.ow d'))) := fun j d' e => by
    by_cases hj : i = j
    · subst hj
      have hl : i < env.length := by have := (List.getElem?_eq_some_iff.mp e).1; simpa using this
      rw [List.getElem?_set_self hl] at e
      cases e
      exact .inl ⟨rfl, rfl, hl⟩
    · rw [List.getElem?_set_ne hj] at e; exact .inr ⟨hj, e⟩
  have hself : ∀ b, i < env.length → (σ.set i (some (V.ref a)))[i]? = some (some (.ref b)) → b = a := fun b hl e => by
    rw [List.getElem?_set_self (by rw [← r.e.len]; exact hl)] at e
    cases e; rfl
  refine ⟨RelE.set r.e (cl := .ow d) ⟨a, rfl, nF, o⟩, r.x, fun j d' b e1 e2 => ?_, fun j l d' d2 b hjl e1 e2 e3 e4 => ?_⟩
  · rcases key j d' e1 with ⟨rfl, _, hl⟩ | ⟨hj, e⟩
    · rw [hself b hl e2]; exact n0
    · rw [List.getElem?_set_ne hj] at e2; exact r.own j d' b e e2
  · rcases key j d' e1 with ⟨rfl, _, hl⟩ | ⟨hj, e⟩
    · rcases key l d2 e2 with ⟨rfl, _, _⟩ | ⟨hl2, e'⟩
      · exact hjl rfl
      · rw [hself b hl e3] at e4
        rw [List.getElem?_set_ne hl2] at e4
        exact hd l d2 (Ne.symm hl2) e' e4
    · rcases key l d2 e2 with ⟨rfl, _, hl⟩ | ⟨hl2, e'⟩
      · rw [hself b hl e4] at e3
        rw [List.getElem?_set_ne hj] at e3
        exact hd j d' hjl e e3
      · rw [List.getElem?_set_ne hj] at e3
        rw [List.getElem?_set_ne hl2] at e4
        exact r.dis j l d' d2 b hjl e e' e3 e4
/-- a fresh thing of one's own -/
theorem Rel.fresh {env : En} {σ : L2.St} {H F H' F' : Hp} {i : Nat} {v : V} {d : D} (r : c.Rel H0 F0 env σ H F) (x : Ext H F H' F') (h : rO c H F' H' v d) : c.Rel H0 F0 (env.set i (some (.ow d))) (σ.set i (some v)) H' F' := by
  obtain ⟨a, rfl, n, nF, o⟩ := h
  refine Rel.setO (r.ext x) (r.x.h.no n) nF o fun j d' hj e1 e2 => ?_
  obtain ⟨u, e3, a', e4, _, o'⟩ := r.e.cell j _ e1
  rw [e3] at e2
  cases e2
  cases e4
  obtain ⟨w, ew⟩ := Own.some o'
  rw [ew] at n
  cases n
theorem ss_set {i : Nat} {x : Str} {e : Expr} {m : SH.E} {pos' : Pos} (hN : X.N.Nodup) (hi : X.N[i]? = some x) (hx : Loc X.env.scope x) (he : PE X e (tE c (wE E) m)) (hs : swapsWith e (some (.Name x pos')) pos.line X.env = pure false) (hf : X.fn x = true ∨ X.env.scope.names.lookup x = some .local) :
    PS X (.Assign [.Name x pos'] e pos) (tS c E H0 F0 (.set i m)) :=
  (ps_set hN hi hx he hs hf).mono fun D σ H ⟨env, F, r, h⟩ => ⟨env, F, r.e, h.bind.wants r.x.h fun d _ k v H' F' x y => k _ _ _ (Rel.setF (r.ext x) y)⟩
theorem ss_setO {i : Nat} {x : Str} {e : Expr} {m : SH.E} {pos' : Pos} (hN : X.N.Nodup) (hi : X.N[i]? = some x) (hx : Loc X.env.scope x) (he : PE X e (tO c (wE E) m)) (hs : swapsWith e (some (.Name x pos')) pos.line X.env = pure false) (hf : X.fn x = true ∨ X.env.scope.names.lookup x = some .local) :
    PS X (.Assign [.Name x pos'] e pos) (tS c E H0 F0 (.setO i m)) :=
  (ps_set hN hi hx he hs hf).mono fun D σ H ⟨env, F, r, h⟩ => ⟨env, F, r.e, h.bind.wants r.x.h fun d _ k v H' F' x y => k _ _ _ (Rel.fresh r x y)⟩
theorem ss_drop {e : Expr} {m : SH.E} (he : PE X e (tE c (wE E) m)) (hs : swapsWith e none pos.line X.env = pure false) : PS X (.Expr e pos) (tS c E H0 F0 (.drop m)) :=
  (ps_expr he hs).mono fun D σ H ⟨env, F, r, h⟩ => ⟨env, F, r.e, h.bind.wants r.x.h fun d _ k v H' F' x y => k _ _ _ (r.ext x)⟩
theorem ss_ret {e : Expr} {m : SH.E} (he : PE X e (tE c (wE E) m)) : PS X (.Return (some e) pos) (tS c E H0 F0 (.ret m)) :=
  (ps_ret he).mono fun D σ H ⟨env, F, r, h⟩ => ⟨env, F, r.e, h.bind.wants r.x.h fun d _ k v H' F' x y => k _ _ _ (r.x.trans x) y⟩
theorem ss_cont : PS X (.Continue pos) (tS c E H0 F0 .cont) := ps_continue.mono fun D σ H ⟨env, F, r, h⟩ => h _ _ _ r
theorem ss_if {t : Expr} {a b : List Stmt} {m : SH.E} {ma mb : List S} (ht : PT X t (tT c (wE E) m)) (ha : PSs X a (tB c E H0 F0 ma)) (hb : PSs X b (tB c E H0 F0 mb)) : PS X (.If t a b pos) (tS c E H0 F0 (.ifs m ma mb)) :=
  (ps_if ht ha hb).mono fun D σ H ⟨env, F, r, h⟩ => by
    have e : exS c.C c.G (.ifs m ma mb) env = ((evE c.C c.G m env).bind fun d => R.of (boolD d)).bind fun k => if k = true then exB c.C c.G ma env else exB c.C c.G mb env := by
      simp only [exS, Wants.assoc]
    rw [e] at h
    refine ⟨env, F, r.e, h.bind.wants r.x.h fun b _ k H' F' x => ?_⟩
    cases b with
    | true => exact ⟨env, F', r.ext x, k⟩
    | false => exact ⟨env, F', r.ext x, k⟩
theorem sb_nil : PSs X [] (tB c E H0 F0 []) := pss_nil.mono fun D σ H ⟨env, F, r, h⟩ => h _ _ _ r
theorem sb_cons {st : Stmt} {rest : List Stmt} {m : S} {ms : List S} (h1 : PS X st (tS c E H0 F0 m)) (h2 : PSs X rest (tB c E H0 F0 ms)) : PSs X (st :: rest) (tB c E H0 F0 (m :: ms)) :=
  (pss_cons h1 h2).mono fun D σ H ⟨env, F, r, h⟩ => ⟨env, F, r, by
    have h : WS ((exS c.C c.G m env).bind (Fl.then fun e => exB c.C c.G ms e)) E c.cl H0 (FlK c H0 F0 D) := by simpa [exB] using h
    refine h.bind.imp fun fl _ k => ?_
    cases fl with
    | nx env' => exact fun σ' H' F' r' => ⟨env', F', r', k⟩
    | rt d => exact k
    | ct env' => exact k⟩
/-- a thing of one's own is frozen -/
theorem sb_frz {sts : List Stmt} {i : Nat} {ms : List S} (h : PSs X sts (tB c E H0 F0 ms)) : PSs X sts (tB c E H0 F0 (.frz i :: ms)) :=
  h.mono fun D σ H ⟨env, F, r, h⟩ => by
    have h : WS ((exS c.C c.G (.frz i) env).bind (Fl.then fun e => exB c.C c.G ms e)) E c.cl H0 (FlK c H0 F0 D) := by simpa [exB] using h
    simp only [exS] at h
    cases q : cellAny env[i]? with
    | none => rw [q] at h; exact h.elim
    | some d =>
      rw [q] at h
      have h : WS (exB c.C c.G ms (env.set i (some (.fz d)))) E c.cl H0 (FlK c H0 F0 D) := h
      rcases cellAny_some q with e | e
      · refine ⟨_, F, ?_, h⟩
        have eq : env.set i (some (.fz d)) = env := by
          apply List.ext_getElem?
          intro j
          by_cases hj : i = j
          · subst hj
            rw [List.getElem?_set_self (List.getElem?_eq_some_iff.mp e).1, e]
          · rw [List.getElem?_set_ne hj]
        rw [eq]; exact r
      · obtain ⟨v, ev, a, rfl, nF, o⟩ := r.e.cell i _ e
        obtain ⟨u, hu⟩ := Own.some o
        have n0 := r.own i d a e ev
        have x1 : Ext H0 F0 H (upd F a u) := r.x.fz n0 hu
        have sF : Sub F (upd F a u) := Sub.self nF
        have key : ∀ j cl, (env.set i (some (.fz d)))[j]? = some (some cl) → (j = i ∧ cl = .fz d) ∨ (i ≠ j ∧ env[j]? = some (some cl)) := fun j cl e => by
          by_cases hj : i = j
          · subst hj
            have hl : i < env.length := by have := (List.getElem?_eq_some_iff.mp e).1; simpa using this
            rw [List.getElem?_set_self hl] at e
            cases e
            exact .inl ⟨rfl, rfl⟩
          · rw [List.getElem?_set_ne hj] at e; exact .inr ⟨hj, e⟩
        refine ⟨_, upd F a u, ⟨⟨x1.s, by simp [r.e.len], fun j cl e1 => ?_, r.e.t.1, fun p hp => ?_⟩, x1, fun j d' b e1 e2 => ?_, fun j l d' d2 b hjl e1 e2 e3 e4 => ?_⟩, h⟩
        · rcases key j cl e1 with ⟨rfl, rfl⟩ | ⟨hj, e2⟩
          · exact ⟨_, ev, Own.dt (o := u) o sF (by rw [upd_same, hu])⟩
          · obtain ⟨w, ew, ck⟩ := r.e.cell j cl e2
            refine ⟨w, ew, ?_⟩
            cases cl with
            | fz d' => exact Dt.mono sF ck
            | ow d' =>
              obtain ⟨b, rfl, nb, ob⟩ := ck
              have hab : b ≠ a := fun z => by subst z; exact r.dis i j d d' b hj e e2 ev ew
              refine ⟨b, rfl, by rw [upd_ne hab]; exact nb, ?_⟩
              cases d' with
              | list ds => obtain ⟨xs, q1, q2, q3⟩ := ob; exact ⟨xs, q1, q2, q3.mono sF⟩
              | dict kvs =>
                obtain ⟨o', q1, q2, q3⟩ := ob
                refine ⟨o', q1, q2, ?_⟩
                rcases q3 with ⟨ks, t1, t2⟩ | ⟨y, ys, t1, t2⟩
                · exact .inl ⟨ks, t1, t2.mono sF⟩
                · exact .inr ⟨y, ys, t1, t2.mono sF⟩
              | _ => exact ob.elim
        · obtain ⟨ps, ep, _⟩ := r.e.t.1 p hp
          have hpa : p.1 ≠ a := fun z => by
            rw [z, hu] at ep
            obtain ⟨w, ew, nw⟩ := own_code o
            rw [hu] at ew
            cases ew
            exact nw.1 ps (Option.some.inj ep)
          rw [upd_ne hpa]; exact r.e.t.2 p hp
        · rcases key j _ e1 with ⟨_, z⟩ | ⟨hj, e3⟩
          · cases z
          · exact r.own j d' b e3 e2
        · rcases key j _ e1 with ⟨_, z⟩ | ⟨hj, e5⟩
          · cases z
          · rcases key l _ e2 with ⟨_, z⟩ | ⟨hl, e6⟩
            · cases z
            · exact r.dis j l d' d2 b hjl e5 e6 e3 e4
end
end SH

set_option Elab.async false
set_option linter.all false
set_option maxRecDepth 100000
set_option maxHeartbeats 4000000
/-! Statements that change things; loops. -/
namespace SH
open PySem PySem.Spec PyProof.Rows L2
variable [Tb]
section
variable {c : Cn} {X : Cx} {E : XK} {H0 F0 : Hp} {pos : Pos}
theorem Own.other {P : Program} {w : World} {K : PySem.W.Frag} {F H : Hp} {a b : Addr} {d : D} {o : HO} (h : Own P w K F H b d) (n : b ≠ a) : Own P w K F (upd H a o) b d := by
  cases d with
  | list ds => obtain ⟨xs, e, q⟩ := h; exact ⟨xs, by rw [upd_ne n]; exact e, q⟩
  | dict kvs => obtain ⟨o', e, q⟩ := h; exact ⟨o', by rw [upd_ne n]; exact e, q⟩
  | _ => exact h.elim
/-- a thing of one's own is changed -/
theorem Rel.mut {env : En} {σ : L2.St} {H F : Hp} {i : Nat} {a : Addr} {d d' : D} {o : HO} (r : c.Rel H0 F0 env σ H F) (e : env[i]? = some (some (.ow d))) (ev : σ[i]? = some (some (.ref a))) (ow : c.Own F (upd H a o) a d') : c.Rel H0 F0 (env.set i (some (.ow d'))) σ (upd H a o) F := by
  obtain ⟨v, ev', a', rfl, nF, ow0⟩ := r.e.cell i _ e
  rw [ev] at ev'
  cases ev'
  have n0 := r.own i d a e ev
  obtain ⟨u, eu, nu⟩ := own_code ow0
  have hl : i < env.length := (List.getElem?_eq_some_iff.mp e).1
  have key : ∀ j cl, (env.set i (some (.ow d')))[j]? = some (some cl) → (j = i ∧ cl = .ow d') ∨ (i ≠ j ∧ env[j]? = some (some cl)) := fun j cl e => by
    by_cases hj : i = j
    · subst hj
      rw [List.getElem?_set_self hl] at e
      cases e
      exact .inl ⟨rfl, rfl⟩
    · rw [List.getElem?_set_ne hj] at e; exact .inr ⟨hj, e⟩
  have x := r.x.grow (o := o) n0 nF eu nu
  have old : ∀ (j : Nat) (d2 : D), (env.set i (some (.ow d')))[j]? = some (some (Cell.ow d2)) → ∃ d3 : D, env[j]? = some (some (Cell.ow d3)) := fun j d2 e1 => by
    rcases key j _ e1 with ⟨rfl, _⟩ | ⟨_, e2⟩
    · exact ⟨d, e⟩
    · exact ⟨d2, e2⟩
  refine ⟨⟨x.s, by simp [r.e.len], fun j cl e1 => ?_, ?_, r.e.t.2⟩, x, fun j d2 b e1 e2 => ?_, fun j l d2 d3 b hjl e1 e2 e3 e4 => ?_⟩
  · rcases key j cl e1 with ⟨rfl, rfl⟩ | ⟨hj, e2⟩
    · exact ⟨_, ev, a, rfl, nF, ow⟩
    · obtain ⟨w, ew, ck⟩ := r.e.cell j cl e2
      refine ⟨w, ew, ?_⟩
      cases cl with
      | fz d2 => exact ck
      | ow d2 =>
        obtain ⟨b, rfl, nb, ob⟩ := ck
        exact ⟨b, rfl, nb, Own.other ob fun z => by subst z; exact r.dis i j d d2 b hj e e2 ev ew⟩
  · have g : Grows H (upd H a o) → True := fun _ => trivial
    intro p hp
    obtain ⟨ps, p1, p2, p3⟩ := r.e.t.1 p hp
    have ne : ∀ b w, H b = some w → (w = u → b = a → False) → b ≠ a := fun b w e q z => by
      have : w = u := by rw [z, eu] at e; exact (Option.some.inj e).symm
      exact q this z
    refine ⟨ps, by rw [upd_ne (ne _ _ p1 fun q _ => nu.1 ps q.symm)]; exact p1, p2, fun pos cv hc => ?_⟩
    obtain ⟨cc, ec, hcc⟩ := p3 pos cv hc
    exact ⟨cc, ec, by rw [upd_ne (ne _ _ hcc fun q z => nu.2 p.2 (by subst z; exact q.symm))]; exact hcc⟩
  · obtain ⟨d3, e3⟩ := old j d2 e1
    exact r.own j d3 b e3 e2
  · obtain ⟨d4, e5⟩ := old j d2 e1
    obtain ⟨d5, e6⟩ := old l d3 e2
    exact r.dis j l d4 d5 b hjl e5 e6 e3 e4
theorem Wants.one {A B : Type} {r : R A} {f : A → B} {W : WX} {cl : Nat → Value} {σ : L2.St} {H : Hp} {k : A → Prop} {k' : B → Prop} (h : Wants r W cl σ H k) (q : ∀ a, k a → k' (f a)) : Wants (r.bind fun a => .ok (f a)) W cl σ H k' := by
  cases r with
  | ok a => exact q a h
  | exc i => exact h
  | bad => exact h
/-- reading a name's own thing -/
def tOw (c : Cn) (i : Nat) (a : Addr) : TE := fun σ H Q => σ[i]? = some (some (.ref a)) ∧ Q (.ref a) H
theorem ss_app {i : Nat} {x : Str} {e : Expr} {m : SH.E} {p1 apos cpos : Pos} (hN : X.N[i]? = some x) (hv : Vis X.env.scope x) (hd : (x == ("__debug__" : Str)) = false) (hcd : (x == ("__classdict__" : Str)) = false) (ha : PA X [e] (tAs c (wE E) (.cons m .nil)))
    (hbase : attributeBase (.Name x p1) "append" X.env (eval (.Name x p1) X.env) = eval (.Name x p1) X.env)
    (hfew : ((backTo cpos (starEach [e] X.env)).all (fun x => !x.1) && (backToKw cpos (keywordEach [] X.env)).all (fun x => x.1.isSome) && decide (([e] : List Expr).length + ([] : List Keyword).length + (if ([] : List Keyword).isEmpty then 0 else 1) < 30)) = true)
    (hline : (apos.endLine == cpos.line) = true) (hs : starEach [e] X.env = (false, eval e X.env) :: starEach [] X.env) (hpl : (backTo cpos (starEach [] X.env)).any (·.1) = false)
    (hsw : swapsWith (.Call (.Attribute (.Name x p1) "append" apos) [e] [] cpos) none pos.line X.env = pure false) :
    PS X (.Expr (.Call (.Attribute (.Name x p1) "append" apos) [e] [] cpos) pos) (tS c E H0 F0 (.app i m)) :=
  (ps_expr (pe_bm PySem.F.plainAttrs_list PySem.F.slot_list_append PySem.F.type_list_append mt_append (pe_var hN hv hd hcd) ha hbase hfew hline hs hpl) hsw).mono fun D σ H ⟨env, F, r, h⟩ => by
    obtain ⟨o, e1, h1⟩ := h.bind.of
    obtain ⟨xs, e2, h2⟩ := h1.bind.of
    cases listOfD_some e2
    have e1 := cellOw_some e1
    obtain ⟨v, ev, a, rfl, nF, ys, eh, hz, da⟩ := r.e.cell i _ e1
    refine ⟨.ref a, ev, .inl ⟨rfl, ys, SqL.of eh⟩, env, F, r.e, ?_⟩
    have e3 : evEs c.C c.G (.cons m .nil) env = (evE c.C c.G m env).bind fun d => .ok [d] := by simp only [evEs, R.bind_ok]
    rw [e3]
    refine Wants.one (h2.bind.wants r.x.h fun d _ k => k) fun d k vs H' F' x y => ?_
    match vs, y with
    | [v], .cons hv .nil =>
      by_cases hl : xs.length < lim
      · rw [if_pos hl] at k
        have eh' : H' a = some (.lst ys) := x.h.get eh (fun _ h => nomatch h)
        have r' := r.ext x
        refine ⟨a, ys, v, rfl, rfl, eh', by rw [da.length, ← lim_eq]; exact hl, k _ _ _ (Rel.mut r' e1 ev ⟨ys ++ [v], upd_same, ?_, (da.mono x.f).append (.cons hv .nil)⟩)⟩
        rw [List.length_append, List.length_singleton, da.length, ← lim_eq]; omega
      · rw [if_neg hl] at k; exact k.elim
end
end SH

set_option Elab.async false
set_option linter.all false
set_option maxRecDepth 100000
set_option maxHeartbeats 4000000
/-! extend, item stores, raise, loops. -/
namespace SH
open PySem PySem.Spec PyProof.Rows L2
variable [Tb]
section
variable {c : Cn} {X : Cx} {E : XK} {H0 F0 : Hp} {pos : Pos}
theorem DtAll.set {P : Program} {w : World} {K : PySem.W.Frag} {F : Hp} : ∀ {xs : List V} {ds : List D} {v : V} {d : D}, DtAll P w K F xs ds → Dt P w K F v d → ∀ n, DtAll P w K F (xs.set n v) (ds.set n d)
  | _, _, _, _, .nil, _, n => by simp; exact .nil
  | _, _, _, _, .cons h t, q, 0 => .cons q t
  | _, _, _, _, .cons h t, q, n + 1 => .cons h (DtAll.set t q n)
theorem ss_ext {i : Nat} {x : Str} {e : Expr} {m : SH.E} {p1 apos cpos : Pos} (hN : X.N[i]? = some x) (hv : Vis X.env.scope x) (hd : (x == ("__debug__" : Str)) = false) (hcd : (x == ("__classdict__" : Str)) = false) (ha : PE X e (tO c (wE E) m))
    (hbase : attributeBase (.Name x p1) "extend" X.env (eval (.Name x p1) X.env) = eval (.Name x p1) X.env)
    (hfew : ((backTo cpos (starEach [e] X.env)).all (fun x => !x.1) && (backToKw cpos (keywordEach [] X.env)).all (fun x => x.1.isSome) && decide (([e] : List Expr).length + ([] : List Keyword).length + (if ([] : List Keyword).isEmpty then 0 else 1) < 30)) = true)
    (hline : (apos.endLine == cpos.line) = true) (hs : starEach [e] X.env = (false, eval e X.env) :: starEach [] X.env) (hpl : (backTo cpos (starEach [] X.env)).any (·.1) = false)
    (hsw : swapsWith (.Call (.Attribute (.Name x p1) "extend" apos) [e] [] cpos) none pos.line X.env = pure false) :
    PS X (.Expr (.Call (.Attribute (.Name x p1) "extend" apos) [e] [] cpos) pos) (tS c E H0 F0 (.ext i m)) :=
  (ps_expr (pe_bm PySem.F.plainAttrs_list PySem.F.slot_list_extend PySem.F.type_list_extend mt_extend (pe_var hN hv hd hcd) (pa_cons ha pa_nil hs) hbase hfew hline hs hpl) hsw).mono fun D σ H ⟨env, F, r, h⟩ => by
    obtain ⟨o, e1, h1⟩ := h.bind.of
    obtain ⟨xs, e2, h2⟩ := h1.bind.of
    cases listOfD_some e2
    have e1 := cellOw_some e1
    obtain ⟨v, ev, a, rfl, nF, ys, eh, hz, da⟩ := r.e.cell i _ e1
    refine ⟨.ref a, ev, .inl ⟨rfl, ys, SqL.of eh⟩, env, F, r.e, h2.bind.wants r.x.h fun d _ k v H' F' x y => ?_⟩
    obtain ⟨b, rfl, nb, nFb, ob⟩ := y
    obtain ⟨zs, e3, k2⟩ := k.bind.of
    cases listOfD_some e3
    obtain ⟨us, eb, hzb, db⟩ := ob
    by_cases hl : xs.length + zs.length < lim
    · rw [if_pos hl] at k2
      have eh' : H' a = some (.lst ys) := x.h.get eh (fun _ h => nomatch h)
      have r' := r.ext x
      have hl2 : ys.length + us.length ≤ sizeLine := by rw [da.length, db.length, ← lim_eq]; omega
      refine ⟨a, b, ys, us, rfl, rfl, eh', eb, hl2, k2 _ _ _ (Rel.mut r' e1 ev ⟨ys ++ us, upd_same, by rw [List.length_append]; exact hl2, (da.mono x.f).append db⟩)⟩
    · rw [if_neg hl] at k2; exact k2.elim
/-- o[k] = v on one's own -/
def rPutE (c : Cn) : V → V → V → Hp → (Hp → Prop) → Prop := fun o k v H Q => ∃ F a d x y d', Sub F H ∧ o = .ref a ∧ F a = none ∧ c.Own F H a d ∧ c.Dt F k x ∧ c.Dt F v y ∧ putD d x y = some d' ∧ ∀ u, c.Own F (upd H a u) a d' → Q (upd H a u)
theorem set_own (f : Fits c X) (hu : X.A.units + 70 < cLine) : PSet X (rPutE c) := by
  intro pins s σ H o k v ov kv u Q I ro rk rv h
  obtain ⟨F, a, d, x, y, d', sb, rfl, nF, ow, hk, hv, hp, q⟩ := h
  cases ro
  cases d with
  | dict kvs =>
    obtain ⟨h1, rfl⟩ := ite_some (show (if (keyFits x kvs && decide (kvs.length < lim)) = true then some (PyData.dict (dput kvs x y)) else none) = some d' by cases x <;> exact hp)
    rw [Bool.and_eq_true, decide_eq_true_eq] at h1
    exact put_setItem f hu I sb nF ow rk rv hk hv h1.1 h1.2 fun o' s' I' own' => ⟨_, I', q _ own'⟩
  | list ds =>
    cases x with
    | int j =>
      obtain ⟨n, hn, rfl⟩ := Option.map_eq_some_iff.mp (show (SH.ixN ds.length j).map (fun n => PyData.list (ds.set n y)) = some d' from hp)
      obtain ⟨xs, e, hz, da⟩ := ow
      refine set_list pins s σ H (.ref a) k v _ kv u _ I rfl rk rv ⟨a, xs, j, n, rfl, Dt.int_inv hk, e, by rw [ixN_eq, da.length]; exact hn, ?_⟩
      exact q _ ⟨xs.set n v, upd_same, by rw [List.length_set]; exact hz, DtAll.set da hv n⟩
    | _ => cases hp
  | _ => cases x <;> cases hp
theorem ss_put (f : Fits c X) (hu : X.A.units + 70 < cLine) {i : Nat} {x : Str} {e k : Expr} {mk mv : SH.E} {p1 p2 : Pos} (hN : X.N[i]? = some x) (hv : Vis X.env.scope x) (hd : (x == ("__debug__" : Str)) = false) (hcd : (x == ("__classdict__" : Str)) = false) (he : PE X e (tE c (wE E) mv)) (hk : PE X k (tE c (wE E) mk))
    (hs : swapsWithSole [.Subscript (.Name x p1) k p2] e pos.line X.env = pure false) (hw : swappedStores [.Subscript (.Name x p1) k p2] e X.env = pure none)
    (h1 : (assignEach [.Subscript (.Name x p1) k p2] X.env).map (·.2) = [assign (.Subscript (.Name x p1) k p2) X.env])
    (ha : ∀ v, assign (.Subscript (.Name x p1) k p2) X.env v = (do
      let ov ← holding [v] (eval (.Name x p1) X.env)
      let iv ← holding [v, ov] (eval k X.env)
      standAt p2
      holding [v, ov, iv] (setItem ov iv v)
      release [v, ov, iv] [])) :
    PS X (.Assign [.Subscript (.Name x p1) k p2] e pos) (tS c E H0 F0 (.put i mk mv)) :=
  (ps_asg he (pg_sub (pe_var hN hv hd hcd) hk (set_own f hu) ha) hs hw h1).mono fun D σ H ⟨env, F, r, h⟩ => by
    refine ⟨env, F, r.e, h.bind.wants r.x.h fun y _ k v H1 F1 x1 y1 => ?_⟩
    have r1 := r.ext x1
    obtain ⟨o, e1, k⟩ := k.bind.of
    have e1 := cellOw_some e1
    obtain ⟨u, eu, a, rfl, nF, ow⟩ := r1.e.cell i _ e1
    refine ⟨.ref a, eu, env, F1, r1.e, k.bind.wants r1.x.h fun x _ k2 w H2 F2 x2 y2 => ?_⟩
    obtain ⟨o', e2, k3⟩ := k2.bind.of
    have r2 := r1.ext x2
    exact ⟨F2, a, o, x, y, o', x2.s, rfl, Own.free x2 ow nF, ow.ext x2, y2, Dt.mono x2.f y1, e2, fun u own' => k3 _ _ _ (Rel.mut r2 e1 eu own')⟩
theorem ss_raise {k : Nat} {e : Expr} (hc : X.calm = true) (tk : Takes X (wE E)) {C : Value} (he : PMk X e (fun _ H Q => Q C none H)) (hC : c.cl k = C) : PS X (.Raise (some e) none pos) (tS c E H0 F0 (.raise k)) :=
  (ps_raise hc tk he).mono fun D σ H ⟨env, F, r, h⟩ => by
    show E C none H
    rw [← hC]
    exact h H r.x.h
/-! ### loops -/
theorem Rel.setsF : ∀ {js : List Nat} {vs : List V} {ds : List D} {env : En} {σ : L2.St} {H F : Hp}, c.Rel H0 F0 env σ H F → c.DtAll F vs ds → c.Rel H0 F0 (setsC js ds env) (setsV js vs σ) H F
  | [], _, _, _, _, _, _, r, _ => by simpa [setsC, setsV] using r
  | _ :: _, _, _, _, _, _, _, r, .nil => by simpa [setsC, setsV] using r
  | j :: js, _, _, _, _, _, _, r, .cons h t => by
    simp only [setsC, setsV]
    exact Rel.setsF (Rel.setF r h) t
theorem bind_goR {pr : Bool} {t : Tg} {x : V} {d : D} {env env2 : En} {σ : L2.St} {H F F1 H' : Hp} {Q : L2.St → Hp → Prop} (f : Fits c X) (r : c.Rel H0 F0 env σ H F) (s0 : Sub F1 F) (hp : pr = true → tgPr t = true) (iv : ItV c pr F1 H x H' d) (hb : bindT t d env = some env2)
    (q : ∀ σ2, c.Rel H0 F0 env2 σ2 H' F → Q σ2 H') : tgG X.K t x σ H' Q := by
  cases t with
  | one i =>
    rcases iv with ⟨e, h⟩ | ⟨e, _⟩
    · subst e
      cases hb
      exact q _ (Rel.setF r (Dt.mono s0 h))
    · exact absurd (hp e) (by simp [tgPr])
  | tup js =>
    have fin : ∀ ds, d = .tuple ds → ∃ xs a, x = .ref a ∧ SqT X.K H' a xs ∧ c.DtAll F xs ds ∧ Ext H F H' F := fun ds e => by
      rcases iv with ⟨e1, h⟩ | ⟨_, T, y, z, dy, dz, e1, e2, e3, e4, q1, q2⟩
      · subst e e1
        cases h with
        | tup sq z da => exact ⟨_, _, rfl, f.k ▸ SqT.mono r.e.s (SqT.mono s0 sq.1), da.mono s0, Ext.refl r.e.s⟩
      · subst e e3
        cases e4
        exact ⟨[y, z], T, e1, .inl (.inl upd_same), .cons (Dt.mono s0 q1) (.cons (Dt.mono s0 q2) .nil), Ext.newO r.e.s e2⟩
    cases d with
    | tuple ds =>
      obtain ⟨xs, a, rfl, sq, da, x1⟩ := fin ds rfl
      have hb : (if js.length = ds.length then some ((js.zip ds).foldl (fun e p => e.set p.1 (some (.fz p.2))) env) else none) = some env2 := hb
      by_cases hl : js.length = ds.length
      · rw [if_pos hl, setsC_eq] at hb
        cases hb
        have hl2 : js.length = xs.length := by rw [hl, da.length]
        exact ⟨a, xs, rfl, sq, hl2.symm, gNames_go hl2 (q _ (Rel.setsF (r.ext x1) da))⟩
      · rw [if_neg hl] at hb; cases hb
    | _ => cases hb
theorem Ext.less {H F1 H' F' H1 : Hp} {F : Hp} (x : Ext H F H1 F1) (y : Ext H F1 H' F') : Ext H F H' F' := ⟨y.h, x.f.trans y.f, y.s, fun a h => by
  rcases y.n a h with q | q
  · exact x.n a q
  · exact .inr q⟩
theorem Ext.more {H F H' F' F1 H1 : Hp} (x : Ext H F H' F') (x1 : Ext H F H1 F1) (s : Sub F1 F') : Ext H F1 H' F' := ⟨x.h, s, x.s, fun a h => by
  rcases x.n a h with q | q
  · refine .inl fun z => q ?_
    cases e : F a with
    | none => rfl
    | some o => rw [x1.f a o e] at z; cases z
  · exact .inr q⟩
theorem ss_for (f : Fits c X) {tg iter : Expr} {body : List Stmt} {t : Tg} {it : SH.It} {mb : List S} {pr : Bool} (hp : PassesOwn (model X.prog X.w) X.A X.env X.xe) (hc : X.calm = true) (hi : PI X tg iter (tI c (wE E) pr it)) (hg : PG X tg (tgG X.K t)) (hb : ∀ F0, PSs X body (tB c E H0 F0 mb)) (hpr : pr = true → tgPr t = true)
    (hs : ∀ x, foldedSetIterable iter X.env x = pure x) : PS X (.For tg iter body [] pos) (tS c E H0 F0 (.fors t it mb)) :=
  (ps_for hp hc hi hg (tb := fun D σ H => ∃ F0, tB c E H0 F0 mb D σ H) ⟨fun pins s σ H D I ⟨F0, h⟩ => (hb F0).run pins s σ H D I h⟩ hs).mono fun D σ H ⟨env, F, r, h⟩ => by
    refine ⟨env, F, r.e, h.bind.wants r.x.h fun ds _ k J H1 F1 x1 wd => ?_⟩
    have hw : Walk J ds.length (fun H => Sub F1 H) (fun i H x H' => ∃ d, ds[i]? = some d ∧ ItV c pr F1 H x H' d) := ⟨wd.goes, wd.stops, wd.yields⟩
    have x01 : Ext H0 F0 H1 F1 := r.x.trans x1
    refine for_it hw (g := tgG X.K t) (tb := fun D σ H => ∃ F0, tB c E H0 F0 mb D σ H) (D := D) (fun i σ H => ∃ env F, c.Rel H0 F0 env σ H F ∧ Sub F1 F ∧ WS (forLoop (fun d e => (R.of (bindT t d e)).bind fun e1 => exB c.C c.G mb e1) (ds.drop i) env) E c.cl H0 (FlK c H0 F0 D)) ⟨env, F1, r.ext x1, Sub.refl, k⟩ (fun i σ H _ p => let ⟨_, F, r, s, _⟩ := p; s.trans r.e.s) (fun i x σ H H' hi p y => ?_) (fun σ H p => ?_)
    · obtain ⟨env2, F2, r2, s2, k2⟩ := p
      obtain ⟨d, ed, iv⟩ := y
      rw [List.drop_eq_getElem_cons hi] at k2
      have ed2 : ds[i] = d := by rw [List.getElem?_eq_getElem hi] at ed; exact Option.some.inj ed
      rw [ed2] at k2
      simp only [forLoop, Wants.assoc] at k2
      obtain ⟨env3, eb, k3⟩ := k2.bind.of
      refine bind_goR f r2 s2 hpr iv eb fun σ2 r3 => ⟨F1, env3, F2, ⟨r3.e, r3.x.more x01 s2, r3.own, r3.dis⟩, k3.bind.imp fun fl _ k4 => ?_⟩
      cases fl with
      | nx e' => exact fun σ' H' F' r' => ⟨e', F', ⟨r'.e, x01.less r'.x, r'.own, r'.dis⟩, r'.x.f, k4⟩
      | ct e' => exact fun σ' H' F' r' => ⟨e', F', ⟨r'.e, x01.less r'.x, r'.own, r'.dis⟩, r'.x.f, k4⟩
      | rt d => exact fun v H' F' x y => k4 v H' F' (x01.less x) y
    · obtain ⟨env2, F2, r2, s2, k2⟩ := p
      have : ds.drop ds.length = [] := by simp
      rw [this] at k2
      exact k2 _ _ _ r2
theorem ss_while {t : Expr} {body : List Stmt} {m : SH.E} {mb : List S} (hp : PassesOwn (model X.prog X.w) X.A X.env X.xe) (ht : PT X t (tT c (wE E) m)) (hb : PSs X body (tB c E H0 F0 mb)) : PS X (.While t body [] pos) (tS c E H0 F0 (.whiles m mb)) :=
  (ps_while hp ht hb).mono fun D σ H ⟨env, F, r, h⟩ => by
    refine ⟨fun n σ H => ∃ env F, c.Rel H0 F0 env σ H F ∧ WS (whileLoop (fun e => (evE c.C c.G m e).bind fun x => R.of (boolD x)) (fun e => exB c.C c.G mb e) n env) E c.cl H0 (FlK c H0 F0 D), ⟨1000000, env, F, r, h⟩, ?_⟩
    rintro n σ H ⟨env, F, r, h⟩
    cases n with
    | zero => exact h.elim
    | succ n =>
      refine ⟨env, F, r.e, WS.wants (k' := fun b => ∀ H' F', Ext H F H' F' → _) h.bind r.x.h fun b _ k H' F' x => ?_⟩
      have r' := r.ext x
      cases b with
      | false => exact k _ _ _ r'
      | true =>
        refine ⟨fun σ H => ∃ env F, c.Rel H0 F0 env σ H F ∧ WS (whileLoop (fun e => (evE c.C c.G m e).bind fun x => R.of (boolD x)) (fun e => exB c.C c.G mb e) n env) E c.cl H0 (FlK c H0 F0 D), fun σ' H' p => ⟨n, Nat.lt_succ_self _, p⟩, env, F', r', ?_⟩
        have k : WS ((exB c.C c.G mb env).bind (forThen fun e => whileLoop (fun e => (evE c.C c.G m e).bind fun x => R.of (boolD x)) (fun e => exB c.C c.G mb e) n e)) E c.cl H0 (FlK c H0 F0 D) := k
        refine k.bind.imp fun fl _ k4 => ?_
        cases fl with
        | nx e' => exact fun σ' H' F' r' => ⟨e', F', r', k4⟩
        | ct e' => exact fun σ' H' F' r' => ⟨e', F', r', k4⟩
        | rt d => exact k4
end
end SH

set_option Elab.async false
set_option linter.all false
set_option maxRecDepth 100000
set_option maxHeartbeats 4000000
/-! comprehensions stored at once; several names at once; unpacking. -/
namespace SH
open PySem PySem.Spec PyProof.Rows L2
variable [Tb]
section
variable {c : Cn} {X : Cx} {E : XK} {H0 F0 : Hp} {pos : Pos}
theorem tO_E {W : WX} {m : SH.E} {σ : L2.St} {H : Hp} {Q : VK} (h : tE c W m σ H Q) : tO c W m σ H Q := by
  obtain ⟨env, F, r, q⟩ := h
  refine ⟨env, F, r, q.imp fun d _ k v H' F' x y => ?_⟩
  obtain ⟨a, e1, n, f, o⟩ := y
  obtain ⟨u, hu⟩ := Own.some o
  refine k v H' _ (x.fz n hu) ?_
  subst e1
  exact Own.dt (o := u) o (Sub.self f) (by rw [upd_same, hu])
theorem ss_asgO {i : Nat} {st : Stmt} {m : SH.E} {te : TE} (h : PS X st (tAsg te (gName i))) (q : ∀ σ H Q, tO c (wE E) m σ H Q → te σ H Q) : PS X st (tS c E H0 F0 (.setO i m)) :=
  h.mono fun D σ H ⟨env, F, r, h⟩ => q σ H _ ⟨env, F, r.e, h.bind.wants r.x.h fun d _ k v H' F' x y => k _ _ _ (Rel.fresh r x y)⟩
theorem ss_asgF {i : Nat} {st : Stmt} {m : SH.E} {te : TE} (h : PS X st (tAsg te (gName i))) (q : ∀ σ H Q, tO c (wE E) m σ H Q → te σ H Q) : PS X st (tS c E H0 F0 (.set i m)) :=
  h.mono fun D σ H ⟨env, F, r, h⟩ => q σ H _ (tO_E ⟨env, F, r.e, h.bind.wants r.x.h fun d _ k v H' F' x y => k _ _ _ (Rel.setF (r.ext x) y)⟩)
/-! ### several names at once -/
def OwnsIn : List Bool → List V → Addr → Prop
  | true :: os, v :: vs, a => v = .ref a ∨ OwnsIn os vs a
  | false :: os, _ :: vs, a => OwnsIn os vs a
  | _, _, _ => False
def Rs (c : Cn) (H F' H' : Hp) : List Bool → List V → List D → Prop
  | [], [], [] => True
  | false :: os, v :: vs, d :: ds => c.Dt F' v d ∧ Rs c H F' H' os vs ds
  | true :: os, v :: vs, d :: ds => (∃ a, v = .ref a ∧ H a = none ∧ F' a = none ∧ c.Own F' H' a d ∧ ¬ OwnsIn os vs a) ∧ Rs c H F' H' os vs ds
  | _, _, _ => False
theorem Rs.none {H F' H' : Hp} : ∀ {os : List Bool} {vs : List V} {ds : List D}, Rs c H F' H' os vs ds → ∀ a, OwnsIn os vs a → H a = none
  | [], [], [], _, _, h => h.elim
  | false :: os, v :: vs, d :: ds, h, a, k => Rs.none h.2 a k
  | true :: os, v :: vs, d :: ds, h, a, k => by
    obtain ⟨⟨b, e, n, _⟩, t⟩ := h
    rcases k with k | k
    · rw [e] at k; cases k; exact n
    · exact Rs.none t a k
theorem Rs.back {H H1 F' H' : Hp} (g : Grows H H1) : ∀ {os : List Bool} {vs : List V} {ds : List D}, Rs c H1 F' H' os vs ds → Rs c H F' H' os vs ds
  | [], [], [], _ => trivial
  | false :: os, v :: vs, d :: ds, h => ⟨h.1, Rs.back g h.2⟩
  | true :: os, v :: vs, d :: ds, ⟨⟨a, e, n, f, o, z⟩, t⟩ => ⟨⟨a, e, g.no n, f, o, z⟩, Rs.back g t⟩
theorem Rel.setsR {H H' F' : Hp} (g : Grows H0 H) : ∀ {os : List Bool} {js : List Nat} {vs : List V} {ds : List D} {env env' : En} {σ : L2.St}, c.Rel H0 F0 env σ H' F' → setAll js os ds env = some env' → Rs c H F' H' os vs ds →
    (∀ (j : Nat) (d : SH.D) (a : Addr), env[j]? = some (some (Cell.ow d)) → σ[j]? = some (some (V.ref a)) → ¬ OwnsIn os vs a) → c.Rel H0 F0 env' (setsV js vs σ) H' F'
  | [], [], [], [], env, env', σ, r, h, _, _ => by cases h; exact r
  | false :: os, j :: js, v :: vs, d :: ds, env, env', σ, r, h, k, z => by
    refine Rel.setsR g (os := os) (js := js) (env := env.set j (some (.fz d))) (Rel.setF r k.1) h k.2 fun l d' a e1 e2 q => ?_
    by_cases hl : j = l
    · subst hl
      have hlt : j < env.length := by have := (List.getElem?_eq_some_iff.mp e1).1; simpa using this
      rw [List.getElem?_set_self hlt] at e1
      cases e1
    · rw [List.getElem?_set_ne hl] at e1 e2
      exact z l d' a e1 e2 q
  | true :: os, j :: js, v :: vs, d :: ds, env, env', σ, r, h, ⟨⟨a, e, n, f, o, nz⟩, t⟩, z => by
    subst e
    refine Rel.setsR g (os := os) (js := js) (env := env.set j (some (.ow d))) (Rel.setO r (g.no n) f o fun l d' hl e1 e2 => z l d' a e1 e2 (.inl rfl)) h t fun l d' b e1 e2 q => ?_
    by_cases hl : j = l
    · subst hl
      have hlt : j < env.length := by have := (List.getElem?_eq_some_iff.mp e1).1; simpa using this
      rw [List.getElem?_set_self (by rw [← r.e.len]; exact hlt)] at e2
      cases e2
      exact nz q
    · rw [List.getElem?_set_ne hl] at e1 e2
      exact z l d' b e1 e2 (.inr q)
def tPs (c : Cn) (W : WX) (os : List Bool) (ms : List SH.E) : TA := fun σ H Q => ∃ env F, c.RelE env σ H F ∧ Wants (evEl c.C c.G ms env) W c.cl σ H fun ds => ∀ vs H' F', Ext H F H' F' → Rs c H F' H' os vs ds → Q vs H'
theorem spl_nil {W : WX} : PA X [] (tPs c W [] []) := pa_nil.mono fun σ H Q ⟨env, F, r, h⟩ => h [] H F (Ext.refl r.s) trivial
theorem spl_e {W : WX} {e : Expr} {es : List Expr} {m : SH.E} {os : List Bool} {ms : List SH.E} (he : PE X e (tE c W m)) (hes : PA X es (tPs c W os ms)) (hs : starEach (e :: es) X.env = (false, eval e X.env) :: starEach es X.env) : PA X (e :: es) (tPs c W (false :: os) (m :: ms)) :=
  (pa_cons he hes hs).mono fun σ H Q ⟨env, F, r, h⟩ => by
    refine ⟨env, F, r, h.bind.imp fun d _ h1 v H1 F1 x1 y1 => ⟨env, F1, r.ext x1, (h1.sub x1.h).bind.imp fun ds _ h2 vs H2 F2 x2 y2 => ?_⟩⟩
    exact h2 _ H2 F2 (x1.trans x2) ⟨Dt.mono x2.f y1, Rs.back x1.h y2⟩
theorem spl_o {W : WX} {e : Expr} {es : List Expr} {m : SH.E} {os : List Bool} {ms : List SH.E} (he : PE X e (tO c W m)) (hes : PA X es (tPs c W os ms)) (hs : starEach (e :: es) X.env = (false, eval e X.env) :: starEach es X.env) : PA X (e :: es) (tPs c W (true :: os) (m :: ms)) :=
  (pa_cons he hes hs).mono fun σ H Q ⟨env, F, r, h⟩ => by
    refine ⟨env, F, r, h.bind.imp fun d _ h1 v H1 F1 x1 y1 => ⟨env, F1, r.ext x1, (h1.sub x1.h).bind.imp fun ds _ h2 vs H2 F2 x2 y2 => ?_⟩⟩
    obtain ⟨a, rfl, n, f, o⟩ := y1
    refine h2 _ H2 F2 (x1.trans x2) ⟨⟨a, rfl, n, Own.free x2 o f, o.ext x2, fun k => ?_⟩, Rs.back x1.h y2⟩
    obtain ⟨u, hu⟩ := Own.some o
    rw [Rs.none y2 a k] at hu
    cases hu
theorem Rs.len {H F' H' : Hp} : ∀ {os : List Bool} {js : List Nat} {vs : List V} {ds : List D} {env env' : En}, Rs c H F' H' os vs ds → setAll js os ds env = some env' → vs.length = js.length
  | [], [], [], [], _, _, _, _ => rfl
  | false :: os, j :: js, v :: vs, d :: ds, env, env', h, e => congrArg (· + 1) (Rs.len (js := js) h.2 e)
  | true :: os, j :: js, v :: vs, d :: ds, env, env', h, e => congrArg (· + 1) (Rs.len (js := js) h.2 e)
theorem par_go {js : List Nat} {os : List Bool} {ms : List SH.E} {N : Ends} {σ : L2.St} {H : Hp} {Q : List V → Hp → Prop} (h : tS c E H0 F0 (.par js os ms) N σ H) (q : ∀ vs H', vs.length = js.length → N.nx (setsV js vs σ) H' → Q vs H') : tPs c (wE E) os ms σ H Q := by
  obtain ⟨env, F, r, h⟩ := h
  refine ⟨env, F, r.e, h.bind.wants r.x.h fun ds e k vs H' F' x y => ?_⟩
  obtain ⟨env', e2, k⟩ := k.bind.of
  refine q vs H' (Rs.len y e2) (k _ _ _ (Rel.setsR r.x.h (r.ext x) e2 y fun j d a e1 e3 z => ?_))
  obtain ⟨u, e4, a', e5, _, o⟩ := r.e.cell j _ e1
  rw [e4] at e3
  cases e3
  cases e5
  obtain ⟨w, ew⟩ := Own.some o
  rw [Rs.none y a z] at ew
  cases ew
theorem ss_par2 {i j : Nat} {x y : Str} {a b : Expr} {px py pt : Pos} {kt k2 : Nat} {pt2 : Pos} {os : List Bool} {ms : List SH.E} (hc : X.calm = true) (hN : X.N.Nodup) (hi : X.N[i]? = some x) (hj : X.N[j]? = some y) (hij : i ≠ j)
    (hx : X.env.scope.names.lookup x = some .local) (hy : X.env.scope.names.lookup y = some .local) (ha : PA X [a, b] (tPs c (wE E) os ms))
    (hw : swappedStores [.Tuple [.Name x px, .Name y py] kt pt] (.Tuple [a, b] k2 pt2) X.env = pure (some [x, y])) :
    PS X (.Assign [.Tuple [.Name x px, .Name y py] kt pt] (.Tuple [a, b] k2 pt2) pos) (tS c E H0 F0 (.par [i, j] os ms)) :=
  (ps_par hc hN hi hj hij hx hy ha hw).mono fun D σ H h => par_go h fun vs H' hl n => by
    match vs, hl with
    | [v, w], _ => exact ⟨v, w, rfl, n⟩
theorem ss_par3 {i j l : Nat} {x y z : Str} {a b d : Expr} {px py pz pt : Pos} {kt k2 : Nat} {pt2 : Pos} {os : List Bool} {ms : List SH.E} (hc : X.calm = true) (hN : X.N.Nodup) (hi : X.N[i]? = some x) (hj : X.N[j]? = some y) (hl : X.N[l]? = some z) (hij : i ≠ j) (hil : i ≠ l) (hjl : j ≠ l)
    (hx : X.env.scope.names.lookup x = some .local) (hy : X.env.scope.names.lookup y = some .local) (hz : X.env.scope.names.lookup z = some .local) (ha : PA X [a, b, d] (tPs c (wE E) os ms))
    (hw : swappedStores [.Tuple [.Name x px, .Name y py, .Name z pz] kt pt] (.Tuple [a, b, d] k2 pt2) X.env = pure (some [x, y, z])) :
    PS X (.Assign [.Tuple [.Name x px, .Name y py, .Name z pz] kt pt] (.Tuple [a, b, d] k2 pt2) pos) (tS c E H0 F0 (.par [i, j, l] os ms)) :=
  (ps_par3 hc hN hi hj hl hij hil hjl hx hy hz ha hw).mono fun D σ H h => par_go h fun vs H' hl n => by
    match vs, hl with
    | [u, v, w], _ => exact ⟨u, v, w, rfl, n⟩
theorem ss_setT (f : Fits c X) {tg e : Expr} {js : List Nat} {m : SH.E} (he : PE X e (tE c (wE E) m)) (hg : PG X tg (tgG X.K (.tup js))) (hs : swapsWithSole [tg] e pos.line X.env = pure false) (hw : swappedStores [tg] e X.env = pure none)
    (h1 : (assignEach [tg] X.env).map (·.2) = [assign tg X.env]) : PS X (.Assign [tg] e pos) (tS c E H0 F0 (.setT js m)) :=
  (ps_asg he hg hs hw h1).mono fun D σ H ⟨env, F, r, h⟩ => ⟨env, F, r.e, h.bind.wants r.x.h fun d _ k v H' F' x y => by
    obtain ⟨env', e2, k⟩ := k.bind.of
    exact bind_goR (pr := false) f (r.ext x) Sub.refl (fun h => nomatch h) (.inl ⟨rfl, y⟩) e2 fun σ2 r2 => k _ _ _ r2⟩
/-! ### a list many times -/
theorem Wants.then {A B : Type} {r : R A} {f : A → R B} {W : WX} {cl : Nat → Value} {σ : L2.St} {H : Hp} {k : B → Prop} (h : Wants r W cl σ H fun a => Wants (f a) W cl σ H k) : Wants (r.bind f) W cl σ H k := by cases r <;> exact h
theorem DtAll.many {P : Program} {w : World} {K : PySem.W.Frag} {F : Hp} {xs : List V} {ds : List D} (h : DtAll P w K F xs ds) : ∀ n, DtAll P w K F (List.replicate n xs).flatten (List.replicate n ds).flatten
  | 0 => .nil
  | n + 1 => by simp only [List.replicate_succ, List.flatten_cons]; exact h.append (DtAll.many h n)
theorem repD_some {ds : List D} {e z : D} (h : repD ds e = some z) : ∃ k : Int, e = .int k ∧ -(2 ^ 63) ≤ k ∧ k < 2 ^ 63 ∧ ds.length * k.toNat ≤ lim ∧ z = .list (List.replicate k.toNat ds).flatten := by
  cases e with
  | int k =>
    obtain ⟨h1, rfl⟩ := ite_some (show (if (k < 9223372036854775808 && decide (-9223372036854775808 <= k) && decide (ds.length * k.toNat <= lim)) = true then some (PyData.list (List.replicate k.toNat ds).flatten) else none) = some z from h)
    simp only [Bool.and_eq_true, decide_eq_true_eq] at h1
    exact ⟨k, rfl, h1.1.2, h1.1.1, h1.2, rfl⟩
  | _ => cases h
theorem sx_rep {W : WX} {es : List Expr} {r : Expr} {ms : Es} {b : SH.E} {p : Pos} (h : PA X es (tAs c W ms)) (hl : ms.length ≤ 10000) (hb : PE X r (tE c W b)) : PE X (.BinOp (.List es p) .Mult r pos) (tO c W (.rep ms b)) :=
  (pe_op op_rep (sx_lst h hl) hb).mono fun σ H Q ⟨env, F, r, q⟩ => by
    have q : Wants ((evEs c.C c.G ms env).bind fun ds => (evE c.C c.G b env).bind fun x => R.of (repD ds x)) W c.cl σ H _ := q
    refine ⟨env, F, r, ?_⟩
    show Wants ((evEs c.C c.G ms env).bind fun ds => R.ok (PyData.list ds)) W c.cl σ H _
    refine Wants.then (q.bind.imp fun ds _ h1 => ?_)
    intro v H1 F1 x1 y1
    refine ⟨env, F1, r.ext x1, (h1.sub x1.h).bind.imp fun e _ h2 u H2 F2 x2 y2 => ?_⟩
    obtain ⟨z, ez, k⟩ := (h2.sub x2.h).of
    obtain ⟨i, rfl, g1, g2, g3, rfl⟩ := repD_some ez
    obtain ⟨a, rfl, n, nF, xs, ea, hz, da⟩ := y1
    have el : xs.length * i.toNat ≤ sizeLine := by rw [da.length, ← lim_eq]; exact g3
    refine ⟨a, i, xs, rfl, Dt.int_inv y2, x2.h.get ea (fun _ h => nomatch h), g1, g2, el, fun p hp => ?_⟩
    refine k _ _ _ ((x1.trans x2).trans (Ext.newO x2.s hp)) ⟨p, rfl, (x1.h.trans x2.h).no hp, x2.s.no hp, _, upd_same, ?_, (da.mono x2.f).many i.toNat⟩
    have : (List.replicate i.toNat xs).flatten.length = xs.length * i.toNat := by rw [List.length_flatten, List.map_replicate, List.sum_replicate_nat, Nat.mul_comm]
    rw [this]; exact el
end
end SH

set_option Elab.async false
set_option linter.all false
set_option maxRecDepth 100000
set_option maxHeartbeats 4000000
/-! The checker's ground: side conditions by tests, views of syntax, the context. -/
namespace SH
open PySem PySem.Spec PyProof.Rows L2
variable [Tb]
/-! ### tests of syntax -/
def notStar : Expr → Bool
  | .Starred .. => false
  | _ => true
theorem star_cons {e : Expr} {es : List Expr} {env : Env} (h : notStar e = true) : starEach (e :: es) env = (false, eval e env) :: starEach es env := by
  cases e <;> first | rfl | cases h
theorem star_any {pos : Pos} {env : Env} : ∀ {es : List Expr}, es.all notStar = true → (backTo pos (starEach es env)).any (·.1) = false
  | [], _ => rfl
  | e :: es, h => by
    rw [List.all_cons, Bool.and_eq_true] at h
    rw [star_cons h.1]
    have ih := star_any (pos := pos) (env := env) h.2
    simp only [backTo, List.map_cons, List.any_cons, Bool.false_or] at ih ⊢
    exact ih
theorem star_all {pos : Pos} {env : Env} : ∀ {es : List Expr}, es.all notStar = true → (backTo pos (starEach es env)).all (fun x => !x.1) = true
  | [], _ => rfl
  | e :: es, h => by
    rw [List.all_cons, Bool.and_eq_true] at h
    rw [star_cons h.1]
    have ih := star_all (pos := pos) (env := env) h.2
    simp only [backTo, List.map_cons, List.all_cons, Bool.not_false, Bool.true_and] at ih ⊢
    exact ih
theorem star_few {pos : Pos} {env : Env} {es : List Expr} (h : es.all notStar = true) (hl : es.length < 20) : ((backTo pos (starEach es env)).all (fun x => !x.1) && (backToKw pos (keywordEach [] env)).all (fun x => x.1.isSome)
      && decide (es.length + ([] : List Keyword).length + (if ([] : List Keyword).isEmpty then 0 else 1) < 30)) = true := by
  rw [star_all h]
  simp [backToKw, keywordEach]
  omega
def notSuper : Expr → Bool
  | .Call _ [] _ _ => false
  | _ => true
theorem base_ok {o : Expr} {a : Str} {env : Env} (h : notSuper o = true) : attributeBase o a env (eval o env) = eval o env := by
  cases o with
  | Call f as ks p =>
    cases as with
    | nil => cases h
    | cons a as => cases f <;> rfl
  | _ => rfl
def notSet : Expr → Bool
  | .Set .. => false
  | _ => true
theorem fold_ok {e : Expr} {env : Env} (h : notSet e = true) (x : Value) : foldedSetIterable e env x = pure x := by
  cases e <;> first | rfl | cases h
def notSlice : Expr → Bool
  | .Slice .. => false
  | _ => true
theorem plain_ok {e : Expr} (h : notSlice e = true) : PlainIx e := by
  intro o i
  cases e <;> first | rfl | cases h
def notComp : Expr → Bool
  | .ListComp .. => false
  | .SetComp .. => false
  | .DictComp .. => false
  | _ => true
theorem swap_no {e : Expr} {t : Option Expr} {l : Nat} {env : Env} (h : notComp e = true) : swapsWith e t l env = pure false := by
  cases e <;> first | rfl | cases h
/-! ### views -/
def asName : Expr → Option (Str × Pos)
  | .Name x p => some (x, p)
  | _ => none
theorem asName_eq {e : Expr} {r : Str × Pos} (h : asName e = some r) : e = .Name r.1 r.2 := by cases e <;> cases h <;> rfl
def asConst : Expr → Option (Const × Nat × Pos)
  | .Constant x k p => some (x, k, p)
  | _ => none
theorem asConst_eq {e : Expr} {r : Const × Nat × Pos} (h : asConst e = some r) : e = .Constant r.1 r.2.1 r.2.2 := by cases e <;> cases h <;> rfl
def asTuple : Expr → Option (List Expr × Nat × Pos)
  | .Tuple x k p => some (x, k, p)
  | _ => none
theorem asTuple_eq {e : Expr} {r : List Expr × Nat × Pos} (h : asTuple e = some r) : e = .Tuple r.1 r.2.1 r.2.2 := by cases e <;> cases h <;> rfl
def asList : Expr → Option (List Expr × Pos)
  | .List x p => some (x, p)
  | _ => none
theorem asList_eq {e : Expr} {r : List Expr × Pos} (h : asList e = some r) : e = .List r.1 r.2 := by cases e <;> cases h <;> rfl
def asBin : Expr → Option (Expr × Operator × Expr × Pos)
  | .BinOp a o b p => some (a, o, b, p)
  | _ => none
theorem asBin_eq {e : Expr} {r : Expr × Operator × Expr × Pos} (h : asBin e = some r) : e = .BinOp r.1 r.2.1 r.2.2.1 r.2.2.2 := by cases e <;> cases h <;> rfl
def asCmp : Expr → Option (Expr × CmpOp × Expr × Pos)
  | .Compare a [o] [b] p => some (a, o, b, p)
  | _ => none
theorem asCmp_eq {e : Expr} {r : Expr × CmpOp × Expr × Pos} (h : asCmp e = some r) : e = .Compare r.1 [r.2.1] [r.2.2.1] r.2.2.2 := by
  unfold asCmp at h
  split at h <;> cases h
  rfl
def asCh : Expr → Option (Expr × CmpOp × CmpOp × Expr × Expr × Pos)
  | .Compare a [o, o'] [b, d] p => some (a, o, o', b, d, p)
  | _ => none
theorem asCh_eq {e : Expr} {r : Expr × CmpOp × CmpOp × Expr × Expr × Pos} (h : asCh e = some r) : e = .Compare r.1 [r.2.1, r.2.2.1] [r.2.2.2.1, r.2.2.2.2.1] r.2.2.2.2.2 := by
  unfold asCh at h
  split at h <;> cases h
  rfl
def asNeg : Expr → Option (Expr × Pos)
  | .UnaryOp .USub a p => some (a, p)
  | _ => none
theorem asNeg_eq {e : Expr} {r : Expr × Pos} (h : asNeg e = some r) : e = .UnaryOp .USub r.1 r.2 := by
  unfold asNeg at h
  split at h <;> cases h
  rfl
def asNot : Expr → Option (Expr × Pos)
  | .UnaryOp .Not a p => some (a, p)
  | _ => none
theorem asNot_eq {e : Expr} {r : Expr × Pos} (h : asNot e = some r) : e = .UnaryOp .Not r.1 r.2 := by
  unfold asNot at h
  split at h <;> cases h
  rfl
def asAnd : Expr → Option (Expr × Expr × List Expr × Pos)
  | .BoolOp .And (a :: b :: l) p => some (a, b, l, p)
  | _ => none
theorem asAnd_eq {e : Expr} {r : Expr × Expr × List Expr × Pos} (h : asAnd e = some r) : e = .BoolOp .And (r.1 :: r.2.1 :: r.2.2.1) r.2.2.2 := by
  unfold asAnd at h
  split at h <;> cases h
  rfl
def asOr : Expr → Option (Expr × Expr × List Expr × Pos)
  | .BoolOp .Or (a :: b :: l) p => some (a, b, l, p)
  | _ => none
theorem asOr_eq {e : Expr} {r : Expr × Expr × List Expr × Pos} (h : asOr e = some r) : e = .BoolOp .Or (r.1 :: r.2.1 :: r.2.2.1) r.2.2.2 := by
  unfold asOr at h
  split at h <;> cases h
  rfl
def asIf : Expr → Option (Expr × Expr × Expr × Pos)
  | .IfExp a b d p => some (a, b, d, p)
  | _ => none
theorem asIf_eq {e : Expr} {r : Expr × Expr × Expr × Pos} (h : asIf e = some r) : e = .IfExp r.1 r.2.1 r.2.2.1 r.2.2.2 := by cases e <;> cases h <;> rfl
def asSub : Expr → Option (Expr × Expr × Pos)
  | .Subscript a b p => some (a, b, p)
  | _ => none
theorem asSub_eq {e : Expr} {r : Expr × Expr × Pos} (h : asSub e = some r) : e = .Subscript r.1 r.2.1 r.2.2 := by cases e <;> cases h <;> rfl
def asSl : Expr → Option (Expr × Option Expr × Option Expr × Pos × Pos)
  | .Subscript a (.Slice lo hi none p2) p => some (a, lo, hi, p2, p)
  | _ => none
theorem asSl_eq {e : Expr} {r : Expr × Option Expr × Option Expr × Pos × Pos} (h : asSl e = some r) : e = .Subscript r.1 (.Slice r.2.1 r.2.2.1 none r.2.2.2.1) r.2.2.2.2 := by
  unfold asSl at h
  split at h <;> cases h
  rfl
def asStp : Expr → Option (Expr × Expr × Pos × Pos)
  | .Subscript a (.Slice none none (some st) p2) p => some (a, st, p2, p)
  | _ => none
theorem asStp_eq {e : Expr} {r : Expr × Expr × Pos × Pos} (h : asStp e = some r) : e = .Subscript r.1 (.Slice none none (some r.2.1) r.2.2.1) r.2.2.2 := by
  unfold asStp at h
  split at h <;> cases h
  rfl
/-- a call of a name -/
def asCN : Expr → Option (Str × Pos × Expr × List Expr × Pos)
  | .Call (.Name x p) (e :: es) [] q => some (x, p, e, es, q)
  | _ => none
theorem asCN_eq {e : Expr} {r : Str × Pos × Expr × List Expr × Pos} (h : asCN e = some r) : e = .Call (.Name r.1 r.2.1) (r.2.2.1 :: r.2.2.2.1) [] r.2.2.2.2 := by
  unfold asCN at h
  split at h <;> cases h
  rfl
/-- a call of a method -/
def asCA : Expr → Option (Expr × Str × Pos × Expr × List Expr × Pos)
  | .Call (.Attribute o x p) (e :: es) [] q => some (o, x, p, e, es, q)
  | _ => none
theorem asCA_eq {e : Expr} {r : Expr × Str × Pos × Expr × List Expr × Pos} (h : asCA e = some r) : e = .Call (.Attribute r.1 r.2.1 r.2.2.1) (r.2.2.2.1 :: r.2.2.2.2.1) [] r.2.2.2.2.2 := by
  unfold asCA at h
  split at h <;> cases h
  rfl
/-- .. without arguments -/
def asC0 : Expr → Option (Expr × Str × Pos × Pos)
  | .Call (.Attribute o x p) [] [] q => some (o, x, p, q)
  | _ => none
theorem asC0_eq {e : Expr} {r : Expr × Str × Pos × Pos} (h : asC0 e = some r) : e = .Call (.Attribute r.1 r.2.1 r.2.2.1) [] [] r.2.2.2 := by
  unfold asC0 at h
  split at h <;> cases h
  rfl
/-- a call with one keyword -/
def asCK : Expr → Option (Str × Pos × Expr × Str × Expr × Pos × Pos)
  | .Call (.Name x p) [e] [⟨some k, v, kp⟩] q => some (x, p, e, k, v, kp, q)
  | _ => none
theorem asCK_eq {e : Expr} {r : Str × Pos × Expr × Str × Expr × Pos × Pos} (h : asCK e = some r) : e = .Call (.Name r.1 r.2.1) [r.2.2.1] [⟨some r.2.2.2.1, r.2.2.2.2.1, r.2.2.2.2.2.1⟩] r.2.2.2.2.2.2 := by
  unfold asCK at h
  split at h <;> cases h
  rfl
def asLam : Expr → Option (Arguments × Expr × Scope × Pos)
  | .Lambda a b s p => some (a, b, s, p)
  | _ => none
theorem asLam_eq {e : Expr} {r : Arguments × Expr × Scope × Pos} (h : asLam e = some r) : e = .Lambda r.1 r.2.1 r.2.2.1 r.2.2.2 := by cases e <;> cases h <;> rfl
def asLC : Expr → Option (Expr × Expr × Expr × List Expr × Scope × Pos)
  | .ListComp elt [⟨tg, it, ifs, 0⟩] s p => some (elt, tg, it, ifs, s, p)
  | _ => none
theorem asLC_eq {e : Expr} {r : Expr × Expr × Expr × List Expr × Scope × Pos} (h : asLC e = some r) : e = .ListComp r.1 [⟨r.2.1, r.2.2.1, r.2.2.2.1, 0⟩] r.2.2.2.2.1 r.2.2.2.2.2 := by
  unfold asLC at h
  split at h <;> cases h
  rfl
def asLC2 : Expr → Option (Expr × Expr × Expr × List Expr × Expr × Expr × List Expr × Scope × Pos)
  | .ListComp elt [⟨tg, it, ifs, 0⟩, ⟨tg1, it1, ifs1, 0⟩] s p => some (elt, tg, it, ifs, tg1, it1, ifs1, s, p)
  | _ => none
theorem asLC2_eq {e : Expr} {r : Expr × Expr × Expr × List Expr × Expr × Expr × List Expr × Scope × Pos} (h : asLC2 e = some r) :
    e = .ListComp r.1 [⟨r.2.1, r.2.2.1, r.2.2.2.1, 0⟩, ⟨r.2.2.2.2.1, r.2.2.2.2.2.1, r.2.2.2.2.2.2.1, 0⟩] r.2.2.2.2.2.2.2.1 r.2.2.2.2.2.2.2.2 := by
  unfold asLC2 at h
  split at h <;> cases h
  rfl
def asDC : Expr → Option (Expr × Expr × Expr × Expr × List Expr × Scope × Pos)
  | .DictComp k v [⟨tg, it, ifs, 0⟩] s p => some (k, v, tg, it, ifs, s, p)
  | _ => none
theorem asDC_eq {e : Expr} {r : Expr × Expr × Expr × Expr × List Expr × Scope × Pos} (h : asDC e = some r) : e = .DictComp r.1 r.2.1 [⟨r.2.2.1, r.2.2.2.1, r.2.2.2.2.1, 0⟩] r.2.2.2.2.2.1 r.2.2.2.2.2.2 := by
  unfold asDC at h
  split at h <;> cases h
  rfl
def asDict : Expr → Option (List (Option Expr) × List Expr × Pos)
  | .Dict k v p => some (k, v, p)
  | _ => none
theorem asDict_eq {e : Expr} {r : List (Option Expr) × List Expr × Pos} (h : asDict e = some r) : e = .Dict r.1 r.2.1 r.2.2 := by cases e <;> cases h <;> rfl
/-! ### the context -/
structure Txt where
  fn : List (Str × Nat)
  con : List Str
  free : List Str
structure Sco where
  N : List Str
  sc : Scope
  fs : List Str
  lm : Bool
  g : Nat
def relabS (scope sc : Scope) : Scope := { scope with names := scope.names.map fun (n, k) => if (k == .free && sc.kind == .function && sc.names.lookup n == some .cell) then (n, .cell) else (n, k) }
theorem relab_eq {scope : Scope} {env : Env} : relabel scope env = relabS scope env.scope := rfl
def Sco.blk (z : Sco) (scope : Scope) : Sco := { z with sc := relabS scope z.sc, fs := (scope.names.filter fun y => scope.names.lookup y.1 == some .cell).map (·.1) }
structure Cal (X : Cx) (c : Cn) (n : Nat) (x : Str) (i np : Nat) : Prop where
  ex : ∃ f fd ps, FnOk X.prog X.w X.K X.mg X.base (L2.CX X.prog X.w) n f fd ps (spF c i np) ∧ X.mg x = some (.ref f) ∧ PySem.W.keepIn X.K (.ref f) = true ∧ Binds X.K fd ps []
structure Ctx (T : Txt) (z : Sco) (c : Cn) (n : Nat) (W : WX) (X : Cx) : Prop where
  fit : Fits c X
  calm : X.calm = true
  hN : X.N = z.N
  nd : z.N.Nodup
  sc : X.env.scope = z.sc
  kd : z.sc.kind = .function
  fn : ∀ x ∈ z.fs, X.fn x = true
  room : Room (n + z.g) X.A
  tk : Takes X W
  cal : ∀ (i : Nat) (x : Str) (np : Nat), T.fn[i]? = some (x, np) → Cal X c n x i np
  free : ∀ x ∈ T.free, X.mg x = none
  con : ∀ (i : Nat) (x : Str) (d : D), T.con[i]? = some x → c.G[i]? = some d → ∃ v u, (∀ F, c.Dt F v d) ∧ X.mg x = some u ∧ RelV v u
  glen : T.con.length = c.G.length
  lam : z.lm = true → ∃ cc P, LamX.TabB X.base X.mg cc P ∧ X.env.code = .ref cc ∧ (P, X.env.qual ++ "<lambda>") ∈ Tb.T ∧ ∀ p ∈ Tb.T, p.1 = P → p.2 = X.env.qual ++ "<lambda>"
section
variable {T : Txt} {z : Sco} {c : Cn} {n : Nat} {W : WX} {X : Cx}
theorem Ctx.units (k : Ctx T z c n W X) : X.A.units + 70 < cLine := by have := k.room.un; omega
theorem takes0 {X : Cx} : Takes X W0 := fun u s' x => by
  obtain ⟨a, B, sI, pins, σ, H, cls, d, e, I, nb, up, sky, na, os, ag, h⟩ := x
  exact h.elim
theorem Ctx.blk (k : Ctx T z c n W X) {scope : Scope} (hk : scope.kind = .function) (s : Shared) (H : Hp) (C : Addr) (cl : List (Str × Addr)) (fp : List Addr) : Ctx T (z.blk scope) c n W0 (X.blk s H scope (compEnvC scope cl C X.env) fp) where
  fit := ⟨k.fit.p, k.fit.w, k.fit.k⟩
  calm := k.calm
  hN := k.hN
  nd := k.nd
  sc := by show relabel scope X.env = relabS scope z.sc; rw [relab_eq, k.sc]
  kd := hk
  fn := fun x hx => by
    show (scope.names.lookup x == some .cell) = true
    obtain ⟨y, hy, rfl⟩ := List.mem_map.mp hx
    exact (List.mem_filter.mp hy).2
  room := k.room
  tk := takes0
  cal := fun i x np h => ⟨(k.cal i x np h).ex⟩
  free := k.free
  con := k.con
  glen := k.glen
  lam := k.lam
end
end SH

set_option Elab.async false
set_option linter.all false
set_option maxRecDepth 100000
set_option maxHeartbeats 4000000
namespace SH
open PySem PySem.Spec PyProof.Rows L2
theorem look_zip : ∀ {xs : List Str} {us : List Value}, us.length = xs.length → ∀ x ∈ xs, ((xs.zip us).lookup x).isNone = false
  | [], _, _, _, h => by cases h
  | x :: xs, [], h, _, _ => by cases h
  | x :: xs, u :: us, h, y, hy => by
    rw [List.zip_cons_cons, List.lookup_cons]
    by_cases e : y == x
    · rw [e]; rfl
    · rw [Bool.eq_false_iff.mpr e]
      rcases List.mem_cons.mp hy with q | q
      · exact absurd (by rw [q]; exact beq_self_eq_true x) e
      · exact look_zip (Nat.succ.inj h) y q
theorem look_all : ∀ {xs : List Str} {us : List Value}, us.length = xs.length → xs.Nodup → ∀ {ys : List (Str × Value)}, (∀ x ∈ xs, ys.lookup x = (xs.zip us).lookup x) → xs.filterMap (fun n => (ys.lookup n).map fun v => (n, v)) = xs.zip us
  | [], [], _, _, _, _ => rfl
  | x :: xs, u :: us, h, nd, ys, hy => by
    rw [List.nodup_cons] at nd
    have e1 : ys.lookup x = some u := by rw [hy x (List.mem_cons_self ..), List.zip_cons_cons, List.lookup_cons, beq_self_eq_true]
    rw [List.filterMap_cons, e1]
    show (x, u) :: _ = (x, u) :: xs.zip us
    congr 1
    refine look_all (Nat.succ.inj h) nd.2 fun y hm => ?_
    rw [hy y (List.mem_cons_of_mem _ hm), List.zip_cons_cons, List.lookup_cons]
    have : (y == x) = false := beq_eq_false_iff_ne.mpr fun e => nd.1 (e ▸ hm)
    rw [this]
theorem bind_plain {fd : FuncData} {as : List Arg} {us : List Value} (hp : fd.params = ⟨[], as, none, [], [], none, []⟩) (hd : fd.defaults = .none) (hl : us.length = as.length) (nd : (as.map (·.arg)).Nodup) : bindArgs fd ⟨us, []⟩ = pure ((as.map (·.arg)).zip us) := by
  have hl' : us.length = (as.map (·.arg)).length := by rw [hl, List.length_map]
  have hm : (as.map (·.arg)).filter (fun n => (((as.map (·.arg)).zip us).lookup n).isNone) = [] := List.filter_eq_nil_iff.mpr fun x hx => by rw [look_zip hl' x hx]; decide
  have hz := look_all hl' nd (ys := (as.map (·.arg)).zip us) fun _ _ => rfl
  unfold bindArgs
  rw [hp, hd]
  have e1 : seqItems? Value.none = pure none := rfl
  rw [e1]
  generalize hx : as.map (·.arg) = xs at *
  simp only [List.map_nil, List.nil_append, List.forIn_nil, pure_bind, Option.getD_none, hx]
  have f1 : (decide (us.length > xs.length)) = false := by rw [hl']; simp
  have f2 : xs.take xs.length = xs := List.take_length
  simp [f1, f2, hm, hz, hl']
end SH

set_option Elab.async false
set_option linter.all false
set_option maxRecDepth 100000
set_option maxHeartbeats 4000000
/-! The checker of expressions. -/
namespace SH
open PySem PySem.Spec PyProof.Rows L2
variable [Tb]
inductive Md where | o | e | v
def nat : E → Md
  | .bor _ => .v
  | .lst _ => .o
  | .lc .. => .o
  | .lc2 .. => .o
  | .dc .. => .o
  | .dict _ => .o
  | .srtk .. => .o
  | .srtl .. => .o
  | .rep .. => .o
  | .bi .list _ => .o
  | .bi .dict _ => .o
  | .bi .sorted _ => .o
  | _ => .e
def Md.isV : Md → Bool
  | .v => true
  | _ => false
def Md.isO : Md → Bool
  | .o => true
  | _ => false
def eB (m : E) : Bool := !(nat m).isV
def tM (c : Cn) (W : WX) : Md → E → TE
  | .o, m => tO c W m
  | .e, m => tE c W m
  | .v, m => tV c W m
theorem tM_e {c : Cn} {W : WX} {X : Cx} {e : Expr} {m : E} (h : PE X e (tM c W (nat m) m)) (b : eB m = true) : PE X e (tE c W m) := by
  unfold eB at b
  cases q : nat m with
  | o => rw [q] at h; exact h.ofO
  | e => rw [q] at h; exact h
  | v => rw [q] at b; cases b
theorem tM_v {c : Cn} {W : WX} {X : Cx} {e : Expr} {m : E} (h : PE X e (tM c W (nat m) m)) : PE X e (tV c W m) := by
  cases q : nat m with
  | o => rw [q] at h; exact h.ofO.toV
  | e => rw [q] at h; exact h.toV
  | v => rw [q] at h; exact h
theorem tM_o {c : Cn} {W : WX} {X : Cx} {e : Expr} {m : E} (h : PE X e (tM c W (nat m) m)) (b : (nat m).isO = true) : PE X e (tO c W m) := by
  cases q : nat m with
  | o => rw [q] at h; exact h
  | e => rw [q] at b; cases b
  | v => rw [q] at b; cases b
def isBO : E → Bool
  | .and .. => true
  | .or .. => true
  | _ => false
def testB : E → Bool
  | .ife .. => false
  | .bor _ => false
  | .and a b => testB a && testB b
  | .or a b => testB a && testB b
  | .not a => testB a
  | _ => true
def visB (z : Sco) (x : Str) : Bool := match z.sc.names.lookup x with
  | some .local => true
  | some .cell => true
  | some .free => true
  | _ => false
def locB (z : Sco) (x : Str) : Bool := match z.sc.names.lookup x with
  | some .local => true
  | some .cell => z.fs.contains x
  | _ => false
def glB (z : Sco) (x : Str) : Bool := match z.sc.names.lookup x with
  | some .globalImplicit => true
  | _ => false
def dbgB (x : Str) : Bool := !(x == ("__debug__" : Str)) && !(x == ("__classdict__" : Str)) && !decide (x = "__name__")
def nmB (z : Sco) (i : Nat) (x : Str) : Bool := decide (z.N[i]? = some x)
def varB (z : Sco) (i : Nat) (x : Str) : Bool := nmB z i x && visB z x && dbgB x
def bltB (T : Txt) (z : Sco) (x : Str) : Bool := glB z x && T.free.contains x && dbgB x
def litB : D → Const → Bool
  | .int i, .int j => decide (i = j)
  | .bool i, .bool j => decide (i = j)
  | .str i, .str j => decide (i = j)
  | .none, .none => true
  | _, _ => false
def opB : Op2 → Operator → Bool
  | .add, .Add => true
  | .sub, .Sub => true
  | .mul, .Mult => true
  | .fdiv, .FloorDiv => true
  | .mod, .Mod => true
  | .pow, .Pow => true
  | _, _ => false
def cmpB : Cmp → CmpOp → Bool
  | .eq, .Eq => true
  | .ne, .NotEq => true
  | .lt, .Lt => true
  | .le, .LtE => true
  | .gt, .Gt => true
  | .ge, .GtE => true
  | .isin, .In => true
  | .notin, .NotIn => true
  | .isnone, .Is => true
  | .notnone, .IsNot => true
  | .isbool, .Is => true
  | .notbool, .IsNot => true
  | _, _ => false
def tailE (o : BoolOp) (b : Expr) (l : List Expr) (p : Pos) : Expr := match l with
  | [] => b
  | x :: l => .BoolOp o (b :: x :: l) p
def isNoneLit : E → Bool
  | .lit .none => true
  | _ => false
/-- a step of a slice -/
def stpB (k : Int) (e : Expr) : Bool := ((asConst e).any fun r => litB (.int k) r.1) || ((asNeg e).any fun r => (asConst r.1).any fun q => litB (.int (-k)) q.1)
def ownL (z : Sco) (own : List Nat) : List (Str × Nat) := own.map fun i => ((z.N[i]?).getD "", i)
theorem ownL_map {z : Sco} {own : List Nat} : (ownL z own).map (·.2) = own := by
  unfold ownL
  rw [List.map_map]
  exact List.map_id _
def nmsB (z : Sco) : List Nat → List Expr → Bool
  | [], [] => true
  | j :: js, e :: es => ((asName e).any fun r => nmB z j r.1 && locB z r.1) && nmsB z js es
  | _, _ => false
def chkT (z : Sco) : Tg → Expr → Bool
  | .one i, e => (asName e).any fun r => nmB z i r.1 && locB z r.1
  | .tup js, e => (asTuple e).any fun r => nmsB z js r.1
def prI : It → Bool
  | .enum _ => true
  | .zip _ => true
  | .items _ => true
  | _ => false
def isTup : Expr → Bool
  | .Tuple .. => true
  | _ => false
def esE : Es → Bool
  | .nil => true
  | .cons m ms => eB m && esE ms
def noElim : Bool := false
def biNm : Bi → Option (Str × Bool)
  | .len => some ("len", false)
  | .all => some ("all", false)
  | .any => some ("any", false)
  | .sum => some ("sum", false)
  | .sorted => some ("sorted", false)
  | .min1 => some ("min", false)
  | .min2 => some ("min", false)
  | .max2 => some ("max", false)
  | .tuple => some ("tuple", true)
  | .list => some ("list", true)
  | .dict => some ("dict", true)
  | _ => none
def isiNm : Bi → Option Str
  | .isTuple => some "tuple"
  | .isList => some "list"
  | .isStr => some "str"
  | .isInt => some "int"
  | .isBool => some "bool"
  | _ => none
def plainA : Arguments → Option (List Arg)
  | ⟨[], as, none, [], [], none, []⟩ => some as
  | _ => none
theorem plainA_eq {a : Arguments} {as : List Arg} (h : plainA a = some as) : a = ⟨[], as, none, [], [], none, []⟩ := by
  unfold plainA at h
  split at h <;> cases h
  rfl
def lam1 (a : Arguments) : Option Arg := match plainA a with
  | some [x] => some x
  | _ => none
theorem lam1_eq {a : Arguments} {x : Arg} (h : lam1 a = some x) : a = ⟨[], [x], none, [], [], none, []⟩ := by
  unfold lam1 at h
  split at h <;> rename_i q
  · cases h; exact plainA_eq q
  · cases h
def nodupB : List Str → Bool
  | [] => true
  | x :: xs => !xs.contains x && nodupB xs
theorem nodupB_ok : ∀ {xs : List Str}, nodupB xs = true → xs.Nodup
  | [], _ => List.nodup_nil
  | x :: xs, h => by
    rw [nodupB, Bool.and_eq_true] at h
    refine List.nodup_cons.mpr ⟨fun q => ?_, nodupB_ok h.2⟩
    have := h.1
    rw [List.contains_iff_mem.mpr q] at this
    cases this
def fnScB (N P : List Str) (sc : Scope) : Bool := (match sc.kind with | .function => true | _ => false) && (!sc.isCoroutine && (!sc.isGenerator && (nodupB N && (decide (N.take P.length = P) &&
  ((P.all fun x => decide (sc.names.lookup x = some .local) || decide (sc.names.lookup x = some .cell)) && (sc.names.all fun y => match y.2 with | .free => false | _ => true))))))
theorem fnScB_ok {N P : List Str} {sc : Scope} (h : fnScB N P sc = true) : FnScope N P sc := by
  unfold fnScB at h
  simp only [Bool.and_eq_true, List.all_eq_true, decide_eq_true_eq, Bool.or_eq_true, Bool.not_eq_true'] at h
  obtain ⟨h1, h2, h3, h4, h5, h6, h7⟩ := h
  refine ⟨?_, h2, h3, nodupB_ok h4, h5, h6, fun y hy e => ?_⟩
  · split at h1
    · assumption
    · cases h1
  · have q := h7 y hy
    rw [e] at q
    cases q
def lamSco (pn : Str) (scope : Scope) : Sco := ⟨[pn], scope, [], false, 0⟩
def isMult : Operator → Bool
  | .Mult => true
  | _ => false
mutual
def chkE (T : Txt) : E → Expr → Sco → Bool
  | .lit d, e, _ => (asConst e).any fun r => litB d r.1
  | .gc i, e, z => (asName e).any fun r => decide (T.con[i]? = some r.1) && (glB z r.1 && dbgB r.1)
  | .var i, e, z => (asName e).any fun r => varB z i r.1
  | .bor i, e, z => (asName e).any fun r => varB z i r.1
  | .tup es, e, z => (asTuple e).any fun r => chkEs T es r.1 z && (esE es && decide (es.length ≤ 10000))
  | .lst es, e, z => (asList e).any fun r => chkEs T es r.1 z && (esE es && decide (es.length ≤ 10000))
  | .op o a b, e, z => (asBin e).any fun r => opB o r.2.1 && (chkE T a r.1 z && chkE T b r.2.2.1 z)
  | .cmp o a b, e, z => (asCmp e).any fun r => cmpB o r.2.1 && (!behindInMarks r.2.1 r.2.2.1 && (chkE T a r.1 z && chkE T b r.2.2.1 z))
  | .chain o o' a b d, e, z => (asCh e).any fun r => (cmpB o r.2.1 && cmpB o' r.2.2.1) && (!lastMarks [r.2.1, r.2.2.1] [r.2.2.2.1, r.2.2.2.2.1] && (chkE T a r.1 z && (chkE T b r.2.2.2.1 z && chkE T d r.2.2.2.2.1 z)))
  | .neg a, e, z => (asNeg e).any fun r => eB a && chkE T a r.1 z
  | .not a, e, z => (asNot e).any fun r => eB a && chkE T a r.1 z
  | .and a b, e, z => (asAnd e).any fun r => (eB a && eB b) && ((r.2.2.1.isEmpty || isBO b) && (chkE T a r.1 z && chkE T b (tailE .And r.2.1 r.2.2.1 r.2.2.2) z))
  | .or a b, e, z => (asOr e).any fun r => (eB a && eB b) && ((r.2.2.1.isEmpty || isBO b) && (chkE T a r.1 z && chkE T b (tailE .Or r.2.1 r.2.2.1 r.2.2.2) z))
  | .ife k a b, e, z => (asIf e).any fun r => (testB k && (eB a && eB b)) && (chkE T k r.1 z && (chkE T a r.2.1 z && chkE T b r.2.2.1 z))
  | .ix a b, e, z => (asSub e).any fun r => notSlice r.2.1 && (chkE T a r.1 z && chkE T b r.2.1 z)
  | .sl a lo hi, e, z => (asSl e).any fun r => chkE T a r.1 z && ((match r.2.1 with | none => isNoneLit lo | some x => eB lo && chkE T lo x z) && (match r.2.2.1 with | none => isNoneLit hi | some x => eB hi && chkE T hi x z))
  | .stp a k, e, z => (asStp e).any fun r => chkE T a r.1 z && stpB k r.2.1
  | .call f es, e, z => (asCN e).any fun r => ((T.fn[f]?).any fun q => decide (q.1 = r.1) && decide (es.length = q.2)) && ((glB z r.1 && dbgB r.1) && (chkEs T es (r.2.2.1 :: r.2.2.2.1) z && esE es))
  | .bi f es, e, z => (asCN e).any fun r => bltB T z r.1 && (((biNm f).any fun q => decide (q.1 = r.1) && chkEs T es (r.2.2.1 :: r.2.2.2.1) z) ||
      ((isiNm f).any fun q => decide (r.1 = ("isinstance" : Str)) && ((match r.2.2.2.1 with | [t] => (asName t).any fun u => decide (u.1 = q) && bltB T z u.1 | _ => false) && chkOne T es r.2.2.1 z)))
  | .me f o es, e, z => (asCA e).any fun r => (match f with | .index => decide (r.2.1 = ("index" : Str)) | _ => false) && ((notSuper r.1 && (r.2.2.1.endLine == r.2.2.2.2.2.line)) && (chkE T o r.1 z && (chkEs T es (r.2.2.2.1 :: r.2.2.2.2.1) z && decide (es.length < 20))))
  | .lc own elt t it ifs, e, z => (asLC e).any fun r => blkC z.N z.sc r.2.2.2.2.1 (ownL z own) && ((notSet r.2.2.1 && ((!prI it || tgPr t) && tgIn own t)) && (chkI T it r.2.1 r.2.2.1 z && (chkT (z.blk r.2.2.2.2.1) t r.2.1 &&
      (chkIf T ifs r.2.2.2.1 (z.blk r.2.2.2.2.1) && (eB elt && chkE T elt r.1 (z.blk r.2.2.2.2.1))))))
  | .lc2 own own1 elt t it ifs t1 it1 ifs1, e, z => (asLC2 e).any fun r => blkC z.N z.sc r.2.2.2.2.2.2.2.1 (ownL z own) && ((notSet r.2.2.1 && notSet r.2.2.2.2.2.1) && ((((!prI it || tgPr t) && tgIn own t) && ((!prI it1 || tgPr t1) && (tgIn own1 t1 && own1.all fun i => own.contains i))) &&
      (chkI T it r.2.1 r.2.2.1 z && (chkT (z.blk r.2.2.2.2.2.2.2.1) t r.2.1 && (chkIf T ifs r.2.2.2.1 (z.blk r.2.2.2.2.2.2.2.1) &&
      (chkI T it1 r.2.2.2.2.1 r.2.2.2.2.2.1 (z.blk r.2.2.2.2.2.2.2.1) && (chkT (z.blk r.2.2.2.2.2.2.2.1) t1 r.2.2.2.2.1 && (chkIf T ifs1 r.2.2.2.2.2.2.1 (z.blk r.2.2.2.2.2.2.2.1) &&
      (eB elt && chkE T elt r.1 (z.blk r.2.2.2.2.2.2.2.1))))))))))
  | .dc own k v t it ifs, e, z => (asDC e).any fun r => blkC z.N z.sc r.2.2.2.2.2.1 (ownL z own) && ((notSet r.2.2.2.1 && ((!prI it || tgPr t) && tgIn own t)) && (chkI T it r.2.2.1 r.2.2.2.1 z && (chkT (z.blk r.2.2.2.2.2.1) t r.2.2.1 &&
      (chkIf T ifs r.2.2.2.2.1 (z.blk r.2.2.2.2.2.1) && ((eB k && chkE T k r.1 (z.blk r.2.2.2.2.2.1)) && (eB v && chkE T v r.2.1 (z.blk r.2.2.2.2.2.1)))))))
  | .dict kvs, e, z => (asDict e).any fun r => chkP T kvs r.1 r.2.1 z && decide (r.1.length ≤ 15)
  | .srtk a f, e, z => (asCK e).any fun r => (decide (r.1 = ("sorted" : Str)) && decide (r.2.2.2.1 = ("key" : Str))) && ((bltB T z r.1 && (notStar r.2.2.1 && decide (1 ≤ z.g))) && (chkE T a r.2.2.1 z && ((asName r.2.2.2.2.1).any fun q => ((T.fn[f]?).any fun u => decide (u.1 = q.1) && decide (u.2 = 1)) && (glB z q.1 && dbgB q.1))))
  | .srtl a b, e, z => (asCK e).any fun r => (decide (r.1 = ("sorted" : Str)) && decide (r.2.2.2.1 = ("key" : Str))) && ((bltB T z r.1 && (notStar r.2.2.1 && (z.lm && decide (2 ≤ z.g)))) && (chkE T a r.2.2.1 z && ((asLam r.2.2.2.2.1).any fun q => (lam1 q.1).any fun u =>
      fnScB [u.arg] [u.arg] q.2.2.1 && (eB b && chkE T b q.2.1 (lamSco u.arg q.2.2.1)))))
  | .rep es k, e, z => (asBin e).any fun r => isMult r.2.1 && ((asList r.1).any fun q => chkEs T es q.1 z && (esE es && (decide (es.length ≤ 10000) && (eB k && chkE T k r.2.2.1 z))))
def chkEs (T : Txt) : Es → List Expr → Sco → Bool
  | .nil, xs, _ => xs.isEmpty
  | .cons m ms, xs, z => match xs with
    | [] => false
    | x :: xs => notStar x && (chkE T m x z && chkEs T ms xs z)
def chkOne (T : Txt) : Es → Expr → Sco → Bool
  | .nil, _, _ => false
  | .cons m ms, x, z => (match ms with | .nil => true | _ => false) && (notStar x && chkE T m x z)
def chkP (T : Txt) : Es → List (Option Expr) → List Expr → Sco → Bool
  | .nil, ks, vs, _ => ks.isEmpty && vs.isEmpty
  | .cons mk (.cons mv ms), ks, vs, z => match ks, vs with
    | some k :: ks, v :: vs => (eB mk && eB mv) && (chkE T mk k z && (chkE T mv v z && chkP T ms ks vs z))
    | _, _ => false
  | _, _, _, _ => false
def chkIf (T : Txt) : Es → List Expr → Sco → Bool
  | .nil, xs, _ => xs.isEmpty
  | .cons m .nil, xs, z => match xs with
    | [x] => testB m && (eB m && chkE T m x z)
    | _ => false
  | _, _, _ => false
def chkI (T : Txt) : It → Expr → Expr → Sco → Bool
  | .e a, _, e, z => eB a && chkE T a e z
  | .range es, _, e, z => (asCN e).any fun r => decide (r.1 = ("range" : Str)) && ((bltB T z r.1 && decide (es.length ≤ 3)) && (esE es && chkEs T es (r.2.2.1 :: r.2.2.2.1) z))
  | .enum a, t, e, z => (asCN e).any fun r => decide (r.1 = ("enumerate" : Str)) && ((isTup t && bltB T z r.1) && (notStar r.2.2.1 && (r.2.2.2.1.isEmpty && (eB a && chkE T a r.2.2.1 z))))
  | .zip es, t, e, z => (asCN e).any fun r => decide (r.1 = ("zip" : Str)) && ((isTup t && (bltB T z r.1 && decide (es.length = 2))) && (esE es && chkEs T es (r.2.2.1 :: r.2.2.2.1) z))
  | .items a, t, e, z => (asC0 e).any fun r => decide (r.2.1 = ("items" : Str)) && ((isTup t && notSuper r.1) && ((r.2.2.1.endLine == r.2.2.2.line) && (eB a && chkE T a r.1 z)))
  | .values a, _, e, z => (asC0 e).any fun r => decide (r.2.1 = ("values" : Str)) && (notSuper r.1 && ((r.2.2.1.endLine == r.2.2.2.line) && (eB a && chkE T a r.1 z)))
end
end SH

set_option Elab.async false
set_option linter.all false
set_option maxRecDepth 100000
set_option maxHeartbeats 4000000
/-! The checker of expressions is right. -/
namespace SH
open PySem PySem.Spec PyProof.Rows L2
variable [Tb]
section
variable {T : Txt} {z : Sco} {c : Cn} {n : Nat} {W : WX} {X : Cx} {e : Expr} {m : E}
structure OkE (c : Cn) (W : WX) (m : E) (e : Expr) (X : Cx) : Prop where
  pe : PE X e (tM c W (nat m) m)
  pt : testB m = true → PT X e (tT c W m)
  pw : testB m = true → isBO m = true → PW X e (tT c W m)
theorem OkE.val (pe : PE X e (tM c W (nat m) m)) (hv : eB m = true) (hb : isBO m = false) (he : ∀ whole, isTrue e X.env whole = (do let v ← whole; standAt e.pos; holding [v] (truthy v))) : OkE c W m e X :=
  ⟨pe, fun _ => st_val (tM_e pe hv) he, fun _ h => by rw [hb] at h; cases h⟩
theorem anyS {α : Type} {o : Option α} {f : α → Bool} (h : o.any f = true) : ∃ a, o = some a ∧ f a = true := by
  cases o with
  | none => cases h
  | some a => exact ⟨a, rfl, h⟩
theorem andS {a b : Bool} (h : (a && b) = true) : a = true ∧ b = true := Bool.and_eq_true_iff.mp h
theorem notS {a : Bool} (h : (!a) = true) : a = false := by cases a <;> first | rfl | cases h
theorem dec {p : Prop} [Decidable p] (h : decide p = true) : p := of_decide_eq_true h
theorem dbg_ok {x : Str} (h : dbgB x = true) : (x == ("__debug__" : Str)) = false ∧ (x == ("__classdict__" : Str)) = false ∧ x ≠ "__name__" := by
  obtain ⟨h, h3⟩ := andS h
  obtain ⟨h1, h2⟩ := andS h
  exact ⟨notS h1, notS h2, fun e => by rw [decide_eq_true e] at h3; cases h3⟩
theorem nm_ok (k : Ctx T z c n W X) {i : Nat} {x : Str} (h : nmB z i x = true) : X.N[i]? = some x := by rw [k.hN]; exact dec h
theorem vis_ok (k : Ctx T z c n W X) {x : Str} (h : visB z x = true) : Vis X.env.scope x := by
  unfold visB at h
  unfold Vis
  rw [k.sc]
  split at h <;> rename_i q
  · exact .inl q
  · exact .inr (.inl q)
  · exact .inr (.inr q)
  · cases h
theorem loc_ok (k : Ctx T z c n W X) {x : Str} (h : locB z x = true) : L2.Loc X.env.scope x ∧ (X.fn x = true ∨ X.env.scope.names.lookup x = some .local) := by
  unfold locB at h
  unfold L2.Loc
  rw [k.sc]
  split at h <;> rename_i q
  · exact ⟨.inl q, .inr q⟩
  · exact ⟨.inr q, .inl (k.fn x (List.contains_iff_mem.mp h))⟩
  · cases h
theorem gl_ok (k : Ctx T z c n W X) {x : Str} (h : glB z x = true) : Gl X x := by
  unfold glB at h
  show X.env.scope.names.lookup x = _
  rw [k.sc]
  split at h <;> rename_i q
  · exact q
  · cases h
theorem var_ok (k : Ctx T z c n W X) {i : Nat} {x : Str} (h : varB z i x = true) : X.N[i]? = some x ∧ Vis X.env.scope x ∧ (x == ("__debug__" : Str)) = false ∧ (x == ("__classdict__" : Str)) = false := by
  obtain ⟨h, h3⟩ := andS h
  obtain ⟨h1, h2⟩ := andS h
  exact ⟨nm_ok k h1, vis_ok k h2, (dbg_ok h3).1, (dbg_ok h3).2.1⟩
theorem blt_ok (k : Ctx T z c n W X) {x : Str} (h : bltB T z x = true) : Gl X x ∧ X.mg x = none ∧ (x == ("__debug__" : Str)) = false ∧ x ≠ "__name__" := by
  obtain ⟨h, h3⟩ := andS h
  obtain ⟨h1, h2⟩ := andS h
  exact ⟨gl_ok k h1, k.free x (List.contains_iff_mem.mp h2), (dbg_ok h3).1, (dbg_ok h3).2.2⟩
theorem op_ok (f : Fits c X) {o : Op2} {p : Operator} (h : opB o p = true) : OpR X (binaryOp p) (r2 c (opD o)) := by
  cases o <;> cases p <;> (try exact absurd h Bool.false_ne_true)
  · exact op_addR f
  · exact op_subR f
  · exact op_mulR f
  · exact op_fdivR f
  · exact op_modR f
  · exact op_powR f
theorem cmp_ok (f : Fits c X) (hu : X.A.units + 70 < cLine) {o : Cmp} {p : CmpOp} (h : cmpB o p = true) : OpR X (compareOp p) (r2b c (cmpD o)) := by
  cases o <;> cases p <;> (try exact absurd h Bool.false_ne_true)
  · exact op_eqR f hu
  · exact op_neR f hu
  · exact op_ltR f hu
  · exact op_leR f hu
  · exact op_gtR f hu
  · exact op_geR f hu
  · exact op_inR f hu
  · exact op_notInR f hu
  · exact op_isNR f
  · exact op_notNR f
  · exact op_isBR f
  · exact op_notBR f
theorem lit_ok {d : D} {x : Const} {j : Nat} {p : Pos} (h : litB d x = true) : PE X (.Constant x j p) (tE c W (.lit d)) := by
  cases d <;> cases x <;> first | exact sx_non | (cases dec h; first | exact sx_int | exact sx_bl | exact sx_str) | exact absurd h Bool.false_ne_true
/-! ### targets -/
theorem name_ok (k : Ctx T z c n W X) {i : Nat} {x : Str} {p : Pos} (h : (nmB z i x && locB z x) = true) : PG X (.Name x p) (gName i) := by
  obtain ⟨h1, h2⟩ := andS h
  obtain ⟨h3, h4⟩ := loc_ok k h2
  exact pg_name (by rw [k.hN]; exact k.nd) (nm_ok k h1) h3 h4
theorem names_ok (k : Ctx T z c n W X) : ∀ {js : List Nat} {es : List Expr}, nmsB z js es = true → PGs X es (gNames js) ∧ (assignEach es X.env).length = js.length ∧ (assignEach es X.env).findIdx? (·.1) = none
  | [], [], _ => ⟨pgs_nil, rfl, rfl⟩
  | j :: js, e :: es, h => by
    obtain ⟨h1, h2⟩ := andS h
    obtain ⟨r, hr, h1⟩ := anyS h1
    cases asName_eq hr
    obtain ⟨a, b, d⟩ := names_ok k h2
    refine ⟨pgs_cons (name_ok k h1) a rfl, congrArg (· + 1) b, ?_⟩
    show List.findIdx? (·.1) ((false, _) :: assignEach es X.env) = none
    rw [List.findIdx?_cons]
    simp [d]
theorem tg_ok (k : Ctx T z c n W X) : ∀ {t : Tg} {e : Expr}, chkT z t e = true → PG X e (tgG X.K t)
  | .one i, e, h => by
    obtain ⟨r, hr, h⟩ := anyS (show (asName e).any _ = true from h)
    cases asName_eq hr
    exact name_ok k h
  | .tup js, e, h => by
    obtain ⟨r, hr, h⟩ := anyS (show (asTuple e).any _ = true from h)
    cases asTuple_eq hr
    obtain ⟨a, b, d⟩ := names_ok k h
    exact pg_tup k.calm a b d
/-! ### built-ins -/
theorem rB_eq {f g : List D → Option D} {u : Value} (e : ∀ ds, f ds = g ds) (h : CallR X u (rB c f)) : CallR X u (rB c g) := by
  have : f = g := funext e
  rw [← this]; exact h
theorem pe_ty {x : Str} {Ty : String} {p : Pos} (hg : Gl X x) (hm : X.mg x = none) (hv : bootBuiltins x = some (.type Ty)) (hn : x ≠ "__name__") (hd : (x == ("__debug__" : Str)) = false) : PE X (.Name x p) (fun _ H Q => Q (.ty Ty) H) :=
  ⟨fun pins s σ H Q I h => ld_blt I hg hm hv ⟨.ty Ty, H, I, rfl, h⟩ hn hd⟩
theorem sx_isi (f : Fits c X) {a : E} {b : Bi} {Ty : String} {x : Str} {p p2 pos : Pos} {e : Expr} (g : D → Bool) (hT : ∀ d : D, kitB (tyD d) Ty = some (g d)) (hb : ∀ d, bi1 b d = some (.bool (g d))) (hg : Gl X "isinstance") (hm : X.mg "isinstance" = none)
    (ha : PE X e (tV c W a)) (ht : PE X (.Name x p2) (fun _ H Q => Q (.ty Ty) H)) (he : notStar e = true) : PE X (.Call (.Name "isinstance" p) [e, .Name x p2] [] pos) (tE c W (.bi b (.cons a .nil))) :=
  (pe_callB (bi_isi f Ty g hT) hg hm (by decide +kernel) (pa_cons ha (pa_cons ht pa_nil rfl) (star_cons he)) (by decide) (by decide) (star_cons he) rfl).mono fun σ H Q ⟨env, F, r, h⟩ => by
    refine ⟨env, F, r, ?_⟩
    have h : Wants (((evE c.C c.G a env).bind fun d => (R.ok [] : R (List D)).bind fun ds => .ok (d :: ds)).bind fun ds => R.of (biD b ds)) W c.cl σ H fun d => ∀ v H' F', Ext H F H' F' → rE c H F' H' v d → Q v H' := h
    rw [Wants.assoc] at h
    refine h.bind.imp fun d _ k v H' F' x y => ?_
    have k : Wants (R.of (bi1 b d)) W c.cl σ H fun d => ∀ v H' F', Ext H F H' F' → rE c H F' H' v d → Q v H' := k
    rw [hb d] at k
    exact ⟨F', d, v, x.s, rfl, y, k _ _ _ x (.bl _)⟩
end
end SH

set_option Elab.async false
set_option linter.all false
set_option maxRecDepth 100000
set_option maxHeartbeats 4000000
/-! The checker of expressions is right: the proof. -/
namespace SH
open PySem PySem.Spec PyProof.Rows L2
variable [Tb]
section
variable {T : Txt} {z : Sco} {c : Cn} {n : Nat} {W : WX} {X : Cx} {e : Expr} {m : E}
theorem bi_ok (k : Ctx T z c n W X) {f : Bi} {x : Str} {b : Bool} {p pos : Pos} {e : Expr} {es : List Expr} {ms : Es} (h : biNm f = some (x, b)) (hb : bltB T z x = true) (ha : PA X (e :: es) (tVs c W ms)) (hs : (e :: es).all notStar = true) :
    PE X (.Call (.Name x p) (e :: es) [] pos) (tM c W (nat (.bi f ms)) (.bi f ms)) := by
  obtain ⟨g1, g2, g3, g4⟩ := blt_ok k hb
  rw [List.all_cons] at hs
  obtain ⟨s1, s2⟩ := andS hs
  cases f <;> cases h
  · exact sx_bi (bi_len k.fit) g1 g2 (by decide +kernel) ha g4 g3 (star_cons s1) (star_any s2)
  · exact sx_bi (bi_all k.fit k.calm) g1 g2 (by decide +kernel) ha g4 g3 (star_cons s1) (star_any s2)
  · exact sx_bi (bi_any k.fit k.calm) g1 g2 (by decide +kernel) ha g4 g3 (star_cons s1) (star_any s2)
  · exact sx_biT (bi_tuple k.fit) g1 g2 (by decide +kernel) ha g4 g3 (star_cons s1) (star_any s2)
  · exact sx_biTO (bi_list k.fit) g1 g2 (by decide +kernel) ha g4 g3 (star_cons s1) (star_any s2)
  · exact sx_biO (bi_sorted k.fit k.units k.calm) g1 g2 (by decide +kernel) ha g4 g3 (star_cons s1) (star_any s2)
  · exact sx_bi (bi_sum k.fit k.calm) g1 g2 (by decide +kernel) ha g4 g3 (star_cons s1) (star_any s2)
  · exact sx_bi (rB_eq (fun ds => by rcases ds with _ | ⟨_, _ | ⟨_, _ | ⟨_, _⟩⟩⟩ <;> rfl) (bi_min1 k.fit k.units k.calm)) g1 g2 (by decide +kernel) ha g4 g3 (star_cons s1) (star_any s2)
  · exact sx_bi (rB_eq (fun ds => by rcases ds with _ | ⟨_, _ | ⟨_, _ | ⟨_, _⟩⟩⟩ <;> rfl) (bi_min2 k.fit k.calm)) g1 g2 (by decide +kernel) ha g4 g3 (star_cons s1) (star_any s2)
  · exact sx_bi (rB_eq (fun ds => by rcases ds with _ | ⟨_, _ | ⟨_, _ | ⟨_, _⟩⟩⟩ <;> rfl) (bi_max2 k.fit k.calm)) g1 g2 (by decide +kernel) ha g4 g3 (star_cons s1) (star_any s2)
  · exact sx_biTO (bi_dict k.fit) g1 g2 (by decide +kernel) ha g4 g3 (star_cons s1) (star_any s2)
theorem isi_ok (k : Ctx T z c n W X) {f : Bi} {x : Str} {p p2 pos : Pos} {e : Expr} {a : E} (h : isiNm f = some x) (hb : bltB T z "isinstance" = true) (hx : bltB T z x = true) (ha : PE X e (tV c W a)) (hs : notStar e = true) :
    PE X (.Call (.Name "isinstance" p) [e, .Name x p2] [] pos) (tM c W (nat (.bi f (.cons a .nil))) (.bi f (.cons a .nil))) := by
  obtain ⟨g1, g2, _, _⟩ := blt_ok k hb
  obtain ⟨t1, t2, t3, t4⟩ := blt_ok k hx
  cases f <;> cases h
  · exact sx_isi k.fit (Ty := "tuple") isTupleD (fun d => by cases d <;> simp only [tyD, isTupleD, isListD, isStrD, isIntD, isBoolD] <;> decide +kernel) (fun _ => rfl) g1 g2 ha (pe_ty t1 t2 (by decide +kernel) t4 t3) hs
  · exact sx_isi k.fit (Ty := "list") isListD (fun d => by cases d <;> simp only [tyD, isTupleD, isListD, isStrD, isIntD, isBoolD] <;> decide +kernel) (fun _ => rfl) g1 g2 ha (pe_ty t1 t2 (by decide +kernel) t4 t3) hs
  · exact sx_isi k.fit (Ty := "str") isStrD (fun d => by cases d <;> simp only [tyD, isTupleD, isListD, isStrD, isIntD, isBoolD] <;> decide +kernel) (fun _ => rfl) g1 g2 ha (pe_ty t1 t2 (by decide +kernel) t4 t3) hs
  · exact sx_isi k.fit (Ty := "int") isIntD (fun d => by cases d <;> simp only [tyD, isTupleD, isListD, isStrD, isIntD, isBoolD] <;> decide +kernel) (fun _ => rfl) g1 g2 ha (pe_ty t1 t2 (by decide +kernel) t4 t3) hs
  · exact sx_isi k.fit (Ty := "bool") isBoolD (fun d => by cases d <;> simp only [tyD, isTupleD, isListD, isStrD, isIntD, isBoolD] <;> decide +kernel) (fun _ => rfl) g1 g2 ha (pe_ty t1 t2 (by decide +kernel) t4 t3) hs
theorem stp_ok {k : Int} {e : Expr} (h : stpB k e = true) : PO X (some e) (fun _ H Q => Q (some k) H) := by
  unfold stpB at h
  rw [Bool.or_eq_true] at h
  rcases h with h | h
  · obtain ⟨r, hr, h⟩ := anyS h
    cases asConst_eq hr
    obtain ⟨x, j, p⟩ := r
    cases x <;> first | exact absurd h Bool.false_ne_true | skip
    cases dec h
    exact ⟨fun pins s σ H Q I h => (po_some pe_int).run pins s σ H Q I ⟨_, rfl, h⟩⟩
  · obtain ⟨r, hr, h⟩ := anyS h
    cases asNeg_eq hr
    obtain ⟨q, hq, h2⟩ := anyS (show (asConst r.1).any (fun q => litB (.int (-k)) q.1) = true from h)
    clear h
    have h := h2
    obtain ⟨r1, r2⟩ := r
    have hq : asConst r1 = some q := hq
    cases asConst_eq hq
    obtain ⟨x, j, p⟩ := q
    cases x <;> first | exact absurd h Bool.false_ne_true | skip
    have e := dec h
    refine ⟨fun pins s σ H Q I h => (po_some (pe_un un_neg pe_int)).run pins s σ H Q I ⟨_, rfl, _, rfl, ?_⟩⟩
    rw [← e, Int.neg_neg]
    exact h
theorem chkEs_len {T : Txt} {z : Sco} : ∀ {es : Es} {xs : List Expr}, chkEs T es xs z = true → es.length = xs.length ∧ xs.all notStar = true
  | .nil, xs, h => by
    simp only [chkEs] at h
    cases xs with
    | nil => exact ⟨rfl, rfl⟩
    | cons _ _ => cases h
  | .cons m ms, [], h => by simp [chkEs] at h
  | .cons m ms, x :: xs, h => by
    simp only [chkEs] at h
    obtain ⟨h1, h2⟩ := andS h
    obtain ⟨_, h3⟩ := andS h2
    obtain ⟨a, b⟩ := chkEs_len h3
    exact ⟨congrArg (· + 1) a, by rw [List.all_cons, h1, b]; rfl⟩
end
end SH

set_option Elab.async false
set_option linter.all false
set_option maxRecDepth 100000
set_option maxHeartbeats 4000000
/-! The checker of expressions is right: the induction. -/
namespace SH
open PySem PySem.Spec PyProof.Rows L2
variable [Tb]
section
variable {T : Txt} {c : Cn} {n : Nat}
theorem nodup_ok {z : Sco} {W : WX} {X : Cx} (k : Ctx T z c n W X) : X.N.Nodup := by rw [k.hN]; exact k.nd
theorem blk_ok {z : Sco} {W : WX} {X : Cx} (k : Ctx T z c n W X) {scope : Scope} {own : List Nat} (h : blkC z.N z.sc scope (ownL z own) = true) : BlkOk X.N X.env.scope scope (ownL z own) := by
  rw [k.hN, k.sc]; exact blkOk_by h
theorem pr_ok {it : It} {t : Tg} (h : (!prI it || tgPr t) = true) : prI it = true → tgPr t = true := fun q => by
  rw [q] at h; exact h
theorem orTail {o : BoolOp} {b : Expr} {l : List Expr} {p : Pos} {X : Cx} {t : TE} (h : PE X (tailE o b l p) t) : PE X (.BoolOp o (b :: l) p) t := by
  cases l with
  | nil => exact pe_one h
  | cons x l => exact h
theorem isMult_eq {o : Operator} (h : isMult o = true) : o = .Mult := by cases o <;> first | rfl | exact absurd h Bool.false_ne_true
theorem isTup_eq {e : Expr} (h : isTup e = true) : ∃ a b d, e = .Tuple a b d := by cases e <;> first | exact ⟨_, _, _, rfl⟩ | exact absurd h Bool.false_ne_true
theorem isNone_eq {m : E} (h : isNoneLit m = true) : m = .lit .none := by
  cases m with
  | lit d => cases d <;> first | rfl | exact absurd h Bool.false_ne_true
  | _ => exact absurd h Bool.false_ne_true
theorem one_eq {f : Str × Pos → Bool} {l : List Expr} (h : (match l with | [t] => (asName t).any f | _ => false) = true) : ∃ u, l = [.Name u.1 u.2] ∧ f u = true := by
  match l, h with
  | [t], h =>
    obtain ⟨u, hu, h⟩ := anyS h
    exact ⟨u, by rw [asName_eq hu], h⟩
theorem ctx_fn {z z' : Sco} {W W' : WX} {X : Cx} (k : Ctx T z c n W X) {N P : List Str} {qual : Str} {scope : Scope} {f : Addr} {cd : Value} {A : Around} {outer : List Env} {s : Shared} {H : Hp} {E : XK} (S : FnScope N P scope) (h1 : z'.N = N) (h2 : z'.sc = scope) (h3 : z'.lm = false)
    (hr : Room (n + z'.g) (A.deeper (envOfC qual scope s.heap.objs.size f cd))) (tk : Takes (cxOf (L2.CX X.prog X.w) X.prog X.w X.K X.mg X.base N qual scope f cd A outer s H E) W') :
    Ctx T z' c n W' (cxOf (L2.CX X.prog X.w) X.prog X.w X.K X.mg X.base N qual scope f cd A outer s H E) where
  fit := ⟨k.fit.p, k.fit.w, k.fit.k⟩
  calm := rfl
  hN := h1.symm
  nd := by rw [h1]; exact S.nd
  sc := h2.symm
  kd := by rw [h2]; exact S.kind
  fn := fun _ _ => rfl
  room := hr
  tk := tk
  cal := fun i x np h => ⟨(k.cal i x np h).ex⟩
  free := k.free
  con := k.con
  glen := k.glen
  lam := fun h => by rw [h3] at h; cases h
mutual
theorem okE : ∀ (m : E) (e : Expr) (z : Sco) (W : WX) (X : Cx), Ctx T z c n W X → chkE T m e z = true → OkE c W m e X
  | .lit d, e, z, W, X, k, h => by
    simp only [chkE] at h
    obtain ⟨r, hr, h⟩ := anyS h
    cases asConst_eq hr
    exact .val (lit_ok h) rfl rfl fun _ => rfl
  | .gc i, e, z, W, X, k, h => by
    simp only [chkE] at h
    obtain ⟨r, hr, h⟩ := anyS h
    cases asName_eq hr
    obtain ⟨h1, h2⟩ := andS h
    obtain ⟨h2, h3⟩ := andS h2
    have h1 := dec h1
    have hl : i < c.G.length := by rw [← k.glen]; exact (List.getElem?_eq_some_iff.mp h1).1
    obtain ⟨v, u, d1, d2, d3⟩ := k.con i r.1 _ h1 (List.getElem?_eq_getElem hl)
    exact .val (sx_gc (List.getElem?_eq_getElem hl) d1 (gl_ok k h2) d2 d3 (dbg_ok h3).1) rfl rfl fun _ => rfl
  | .var i, e, z, W, X, k, h => by
    simp only [chkE] at h
    obtain ⟨r, hr, h⟩ := anyS h
    cases asName_eq hr
    obtain ⟨a, b, d, f⟩ := var_ok k h
    exact .val (sx_var a b d f) rfl rfl fun _ => rfl
  | .bor i, e, z, W, X, k, h => by
    simp only [chkE] at h
    obtain ⟨r, hr, h⟩ := anyS h
    cases asName_eq hr
    obtain ⟨a, b, d, f⟩ := var_ok k h
    exact ⟨sx_bor a b d f, (fun h => by cases h), (fun h => by cases h)⟩
  | .tup es, e, z, W, X, k, h => by
    simp only [chkE] at h
    obtain ⟨r, hr, h⟩ := anyS h
    cases asTuple_eq hr
    obtain ⟨h1, h2⟩ := andS h
    obtain ⟨h2, h3⟩ := andS h2
    exact .val (sx_tup ((okEs es r.1 z W X k h1).1 h2) (dec h3)) rfl rfl fun _ => rfl
  | .lst es, e, z, W, X, k, h => by
    simp only [chkE] at h
    obtain ⟨r, hr, h⟩ := anyS h
    cases asList_eq hr
    obtain ⟨h1, h2⟩ := andS h
    obtain ⟨h2, h3⟩ := andS h2
    exact .val (sx_lst ((okEs es r.1 z W X k h1).1 h2) (dec h3)) rfl rfl fun _ => rfl
  | .op o a b, e, z, W, X, k, h => by
    simp only [chkE] at h
    obtain ⟨r, hr, h⟩ := anyS h
    cases asBin_eq hr
    obtain ⟨h1, h2⟩ := andS h
    obtain ⟨h2, h3⟩ := andS h2
    exact .val (sx_op (op_ok k.fit h1) (tM_v (okE a _ z W X k h2).pe) (tM_v (okE b _ z W X k h3).pe)) rfl rfl fun _ => rfl
  | .cmp o a b, e, z, W, X, k, h => by
    simp only [chkE] at h
    obtain ⟨r, hr, h⟩ := anyS h
    cases asCmp_eq hr
    obtain ⟨h1, h2⟩ := andS h
    obtain ⟨h2, h3⟩ := andS h2
    obtain ⟨h3, h4⟩ := andS h3
    have p1 := tM_v (okE a _ z W X k h3).pe
    have p2 := tM_v (okE b _ z W X k h4).pe
    exact ⟨sx_cmp (cmp_ok k.fit k.units h1) p1 p2 (notS h2), fun _ => st_cmp (cmp_ok k.fit k.units h1) p1 p2 (notS h2), fun _ h => by cases h⟩
  | .chain o o' a b d, e, z, W, X, k, h => by
    simp only [chkE] at h
    obtain ⟨r, hr, h⟩ := anyS h
    cases asCh_eq hr
    obtain ⟨h0, h2⟩ := andS h
    obtain ⟨h0, h1⟩ := andS h0
    obtain ⟨h2, h3⟩ := andS h2
    obtain ⟨h3, h4⟩ := andS h3
    obtain ⟨h4, h5⟩ := andS h4
    have p1 := tM_v (okE a _ z W X k h3).pe
    have p2 := tM_v (okE b _ z W X k h4).pe
    have p3 := tM_v (okE d _ z W X k h5).pe
    exact ⟨sx_chain (cmp_ok k.fit k.units h0) (cmp_ok k.fit k.units h1) p1 p2 p3 (notS h2), fun _ => st_chain (cmp_ok k.fit k.units h0) (cmp_ok k.fit k.units h1) p1 p2 p3 (notS h2), fun _ h => by cases h⟩
  | .neg a, e, z, W, X, k, h => by
    simp only [chkE] at h
    obtain ⟨r, hr, h⟩ := anyS h
    cases asNeg_eq hr
    obtain ⟨h1, h2⟩ := andS h
    exact .val (sx_neg (tM_e (okE a _ z W X k h2).pe h1)) rfl rfl fun _ => rfl
  | .not a, e, z, W, X, k, h => by
    simp only [chkE] at h
    obtain ⟨r, hr, h⟩ := anyS h
    cases asNot_eq hr
    obtain ⟨h1, h2⟩ := andS h
    have i := okE a _ z W X k h2
    exact ⟨sx_not (tM_e i.pe h1), fun q => st_not (i.pt q), fun _ h => by cases h⟩
  | .and a b, e, z, W, X, k, h => by
    simp only [chkE] at h
    obtain ⟨r, hr, h⟩ := anyS h
    cases asAnd_eq hr
    obtain ⟨h1, h2⟩ := andS h
    obtain ⟨h0, h1⟩ := andS h1
    obtain ⟨h2, h3⟩ := andS h2
    obtain ⟨h3, h4⟩ := andS h3
    have i := okE a _ z W X k h3
    have j := okE b _ z W X k h4
    have pw : testB (.and a b) = true → PW X (.BoolOp .And (r.1 :: r.2.1 :: r.2.2.1) r.2.2.2) (tT c W (.and a b)) := fun q => by
      obtain ⟨q1, q2⟩ := andS (show (testB a && testB b) = true from q)
      refine sw_and (i.pt q1) ?_
      generalize r.2.2.1 = l at h2 j ⊢
      cases l with
      | nil => exact pw_and1 (j.pt q2)
      | cons x l => exact j.pw q2 h2
    exact ⟨sx_and (tM_e i.pe h0) (orTail (tM_e j.pe h1)), fun q => (pw q).pt, fun q _ => pw q⟩
  | .or a b, e, z, W, X, k, h => by
    simp only [chkE] at h
    obtain ⟨r, hr, h⟩ := anyS h
    cases asOr_eq hr
    obtain ⟨h1, h2⟩ := andS h
    obtain ⟨h0, h1⟩ := andS h1
    obtain ⟨h2, h3⟩ := andS h2
    obtain ⟨h3, h4⟩ := andS h3
    have i := okE a _ z W X k h3
    have j := okE b _ z W X k h4
    have pw : testB (.or a b) = true → PW X (.BoolOp .Or (r.1 :: r.2.1 :: r.2.2.1) r.2.2.2) (tT c W (.or a b)) := fun q => by
      obtain ⟨q1, q2⟩ := andS (show (testB a && testB b) = true from q)
      refine sw_or (i.pt q1) ?_
      generalize r.2.2.1 = l at h2 j ⊢
      cases l with
      | nil => exact pw_or1 (j.pt q2)
      | cons x l => exact j.pw q2 h2
    exact ⟨sx_or (tM_e i.pe h0) (orTail (tM_e j.pe h1)), fun q => (pw q).pt, fun q _ => pw q⟩
  | .ife t a b, e, z, W, X, k, h => by
    simp only [chkE] at h
    obtain ⟨r, hr, h⟩ := anyS h
    cases asIf_eq hr
    obtain ⟨h1, h2⟩ := andS h
    obtain ⟨h0, h1⟩ := andS h1
    obtain ⟨h1, h6⟩ := andS h1
    obtain ⟨h2, h3⟩ := andS h2
    obtain ⟨h3, h4⟩ := andS h3
    exact ⟨sx_ife ((okE t _ z W X k h2).pt h0) (tM_e (okE a _ z W X k h3).pe h1) (tM_e (okE b _ z W X k h4).pe h6), (fun h => by cases h), (fun h => by cases h)⟩
  | .ix a b, e, z, W, X, k, h => by
    simp only [chkE] at h
    obtain ⟨r, hr, h⟩ := anyS h
    cases asSub_eq hr
    obtain ⟨h1, h2⟩ := andS h
    obtain ⟨h2, h3⟩ := andS h2
    exact .val (sx_ix k.fit k.units (tM_v (okE a _ z W X k h2).pe) (tM_v (okE b _ z W X k h3).pe) (plain_ok h1)) rfl rfl fun _ => rfl
  | .sl a lo hi, e, z, W, X, k, h => by
    simp only [chkE] at h
    obtain ⟨r, hr, h⟩ := anyS h
    cases asSl_eq hr
    obtain ⟨h1, h2⟩ := andS h
    obtain ⟨h2, h3⟩ := andS h2
    have po : ∀ (m : E) (o : Option Expr), (match o with | none => isNoneLit m | some x => eB m && chkE T m x z) = true → (∀ x, chkE T m x z = true → OkE c W m x X) → PO X o (tPo c W m) := fun m o h i => by
      cases o with
      | none =>
        rw [isNone_eq h]; exact spo_none
      | some x =>
        obtain ⟨q1, q2⟩ := andS h
        exact spo_some (tM_e (i x q2).pe q1)
    exact .val (sx_sl k.fit (tM_v (okE a _ z W X k h1).pe) (po lo _ h2 fun x q => okE lo x z W X k q) (po hi _ h3 fun x q => okE hi x z W X k q)) rfl rfl fun _ => rfl
  | .stp a i, e, z, W, X, k, h => by
    simp only [chkE] at h
    obtain ⟨r, hr, h⟩ := anyS h
    cases asStp_eq hr
    obtain ⟨h1, h2⟩ := andS h
    exact .val (sx_stp k.fit (tM_v (okE a _ z W X k h1).pe) (stp_ok h2)) rfl rfl fun _ => rfl
  | .call f es, e, z, W, X, k, h => by
    simp only [chkE] at h
    obtain ⟨r, hr, h⟩ := anyS h
    cases asCN_eq hr
    obtain ⟨h1, h2⟩ := andS h
    obtain ⟨h2, h3⟩ := andS h2
    obtain ⟨h3, h4⟩ := andS h3
    obtain ⟨h2, h5⟩ := andS h2
    obtain ⟨q, hq, h1⟩ := anyS h1
    obtain ⟨h1, h6⟩ := andS h1
    have e1 := dec h1
    have e2 := dec h6
    obtain ⟨x, np⟩ := q
    cases e1
    obtain ⟨fa, fd, ps, F, g1, g2, g3⟩ := (k.cal f r.1 np hq).ex
    have sl := (chkEs_len h3).2
    rw [List.all_cons] at sl
    obtain ⟨s1, s2⟩ := andS sl
    exact .val (sx_call F (k.room.mono (Nat.le_add_right _ _)) (gl_ok k h2) g1 g2 g3 k.tk ((okEs es _ z W X k h3).1 h4) e2 (dbg_ok h5).1 (star_cons s1) (star_any s2)) rfl rfl fun _ => rfl
  | .bi f es, e, z, W, X, k, h => by
    simp only [chkE] at h
    obtain ⟨r, hr, h⟩ := anyS h
    cases asCN_eq hr
    obtain ⟨h1, h2⟩ := andS h
    rw [Bool.or_eq_true] at h2
    have hv : eB (.bi f es) = true := by cases f <;> rfl
    rcases h2 with h2 | h2
    · obtain ⟨q, hq, h2⟩ := anyS h2
      obtain ⟨h2, h3⟩ := andS h2
      have e1 := dec h2
      obtain ⟨x, b⟩ := q
      cases e1
      exact .val (bi_ok k hq h1 (okEs es _ z W X k h3).2 (chkEs_len h3).2) hv rfl fun _ => rfl
    · obtain ⟨q, hq, h2⟩ := anyS h2
      obtain ⟨h2, h3⟩ := andS h2
      have e1 := dec h2
      obtain ⟨x, p, a1, l, pos⟩ := r
      cases e1
      obtain ⟨w1, h4⟩ := andS h3
      cases es with
      | nil => simp [chkOne] at h4
      | cons a ms =>
        simp only [chkOne] at h4
        obtain ⟨g1, g2⟩ := andS h4
        obtain ⟨g2, g3⟩ := andS g2
        cases ms with
        | cons _ _ => exact absurd g1 Bool.false_ne_true
        | nil =>
          obtain ⟨u, hu, w3⟩ := one_eq (l := l) w1
          obtain ⟨w4, w5⟩ := andS w3
          have e2 := dec w4
          subst hu
          rw [e2] at w5 ⊢
          exact .val (isi_ok k hq h1 w5 (tM_v (okE a _ z W X k g3).pe) g2) hv rfl fun _ => rfl
  | .me f o es, e, z, W, X, k, h => by
    simp only [chkE] at h
    obtain ⟨r, hr, h⟩ := anyS h
    cases asCA_eq hr
    obtain ⟨h1, h2⟩ := andS h
    obtain ⟨h2, h3⟩ := andS h2
    obtain ⟨h2, h4⟩ := andS h2
    obtain ⟨h3, h5⟩ := andS h3
    obtain ⟨h5, h6⟩ := andS h5
    obtain ⟨x, nm, p, a1, l, pos⟩ := r
    cases f with
    | index =>
      have e1 : nm = "index" := dec h1
      cases e1
      have sl := chkEs_len h5
      have sl2 := sl.2
      rw [List.all_cons] at sl2
      obtain ⟨s1, s2⟩ := andS sl2
      exact .val (sx_me (fun d hd => mt_index k.fit k.units hd) (tM_v (okE o _ z W X k h3).pe) (okEs es _ z W X k h5).2 (base_ok h2) (star_few sl.2 (by rw [← sl.1]; exact dec h6)) h4 (star_cons s1) (star_any s2)) rfl rfl fun _ => rfl
    | count => cases h1
    | get => cases h1
  | .lc own elt t it ifs, e, z, W, X, k, h => by
    simp only [chkE] at h
    obtain ⟨r, hr, h⟩ := anyS h
    cases asLC_eq hr
    obtain ⟨h1, h2⟩ := andS h
    obtain ⟨h2, h3⟩ := andS h2
    obtain ⟨h2, h4⟩ := andS h2
    obtain ⟨h4, h5⟩ := andS h4
    obtain ⟨h3, h6⟩ := andS h3
    obtain ⟨h6, h7⟩ := andS h6
    obtain ⟨h7, h8⟩ := andS h7
    obtain ⟨h8, h9⟩ := andS h8
    have ok := blk_ok k h1
    have p := sx_lc (own := ownL z own) (pos := r.2.2.2.2.2) (m := elt) (mi := ifs) (pr := prI it) k.fit k.calm (nodup_ok k) (okI it r.2.1 r.2.2.1 z W X k h3) ok (pr_ok h4) (by rw [ownL_map]; exact h5)
      (fun s H C cl fp => tg_ok (k.blk ok.kind s H C cl fp) h6) (fun s H C cl fp => okIf ifs _ _ _ _ (k.blk ok.kind s H C cl fp) h7)
      (fun s H C cl fp => tM_e (okE elt _ _ _ _ (k.blk ok.kind s H C cl fp) h9).pe h8) (fold_ok h2)
    rw [ownL_map] at p
    exact .val p rfl rfl fun _ => rfl
  | .lc2 own own1 elt t it ifs t1 it1 ifs1, e, z, W, X, k, h => by
    simp only [chkE] at h
    obtain ⟨r, hr, h⟩ := anyS h
    cases asLC2_eq hr
    obtain ⟨h1, h2⟩ := andS h
    obtain ⟨h2, h3⟩ := andS h2
    obtain ⟨h2, h4⟩ := andS h2
    obtain ⟨h3, h5⟩ := andS h3
    obtain ⟨g1, g3⟩ := andS h3
    obtain ⟨g1, g2⟩ := andS g1
    obtain ⟨g3, g4⟩ := andS g3
    obtain ⟨g4, g5⟩ := andS g4
    obtain ⟨h5, h6⟩ := andS h5
    obtain ⟨h6, h7⟩ := andS h6
    obtain ⟨h7, h8⟩ := andS h7
    obtain ⟨h8, h9⟩ := andS h8
    obtain ⟨h9, h10⟩ := andS h9
    obtain ⟨h10, h11⟩ := andS h10
    obtain ⟨h11, h12⟩ := andS h11
    have ok := blk_ok k h1
    have p := sx_lc2 (own := ownL z own) (vs1 := own1) (pos := r.2.2.2.2.2.2.2.2) (m := elt) (mi := ifs) (mi1 := ifs1) (pr := prI it) (pr1 := prI it1) k.fit k.calm (nodup_ok k) (okI it _ _ z W X k h5) ok
      (by rw [ownL_map]; exact fun i hi => List.contains_iff_mem.mp (List.all_eq_true.mp g5 i hi)) (pr_ok g1) (by rw [ownL_map]; exact g2) (pr_ok g3) g4
      (fun s H C cl fp => tg_ok (k.blk ok.kind s H C cl fp) h6) (fun s H C cl fp => okIf ifs _ _ _ _ (k.blk ok.kind s H C cl fp) h7)
      (fun s H C cl fp => okI it1 _ _ _ _ _ (k.blk ok.kind s H C cl fp) h8) (fun s H C cl fp => tg_ok (k.blk ok.kind s H C cl fp) h9) (fun s H C cl fp => okIf ifs1 _ _ _ _ (k.blk ok.kind s H C cl fp) h10)
      (fun s H C cl fp => tM_e (okE elt _ _ _ _ (k.blk ok.kind s H C cl fp) h12).pe h11) (fold_ok h2) (fun env => fold_ok h4)
    rw [ownL_map] at p
    exact .val p rfl rfl fun _ => rfl
  | .dc own mk mv t it ifs, e, z, W, X, k, h => by
    simp only [chkE] at h
    obtain ⟨r, hr, h⟩ := anyS h
    cases asDC_eq hr
    obtain ⟨h1, h2⟩ := andS h
    obtain ⟨h2, h3⟩ := andS h2
    obtain ⟨h2, h4⟩ := andS h2
    obtain ⟨h4, h5⟩ := andS h4
    obtain ⟨h3, h6⟩ := andS h3
    obtain ⟨h6, h7⟩ := andS h6
    obtain ⟨h7, h8⟩ := andS h7
    obtain ⟨h8, h9⟩ := andS h8
    obtain ⟨g1, g2⟩ := andS h8
    obtain ⟨g3, g4⟩ := andS h9
    have ok := blk_ok k h1
    have p := sx_dc (own := ownL z own) (pos := r.2.2.2.2.2.2) (mk := mk) (mv := mv) (mi := ifs) (pr := prI it) k.fit k.units k.calm (nodup_ok k) (okI it _ _ z W X k h3) ok (pr_ok h4) (by rw [ownL_map]; exact h5)
      (fun s H C cl fp => tg_ok (k.blk ok.kind s H C cl fp) h6) (fun s H C cl fp => okIf ifs _ _ _ _ (k.blk ok.kind s H C cl fp) h7)
      (fun s H C cl fp => tM_e (okE mk _ _ _ _ (k.blk ok.kind s H C cl fp) g2).pe g1) (fun s H C cl fp => tM_e (okE mv _ _ _ _ (k.blk ok.kind s H C cl fp) g4).pe g3) (fold_ok h2)
    rw [ownL_map] at p
    exact .val p rfl rfl fun _ => rfl
  | .dict kvs, e, z, W, X, k, h => by
    simp only [chkE] at h
    obtain ⟨r, hr, h⟩ := anyS h
    cases asDict_eq hr
    obtain ⟨h1, h2⟩ := andS h
    obtain ⟨p, q1, q2, q3⟩ := okP kvs r.1 r.2.1 z W X r.2.2 k h1
    obtain ⟨ks, vs, pos⟩ := r
    have w2 : ks.length ≤ 15 := dec h2
    have w3 : kvs.length = 2 * ks.length := q3
    have w4 : ks.length = vs.length := q2
    refine .val ?_ rfl rfl fun _ => rfl
    cases ks with
    | nil =>
      cases vs with
      | nil =>
        cases kvs with
        | nil => exact sx_dict0 k.fit
        | cons _ _ => simp [Es.length] at w3
      | cons _ _ => cases w4
    | cons _ _ => exact sx_dict k.fit k.units p q1 q2 (List.cons_ne_nil _ _) w2 (by omega)
  | .srtk a f, e, z, W, X, k, h => by
    simp only [chkE] at h
    obtain ⟨r, hr, h⟩ := anyS h
    cases asCK_eq hr
    obtain ⟨h1, h2⟩ := andS h
    obtain ⟨h0, h1⟩ := andS h1
    obtain ⟨h2, h3⟩ := andS h2
    obtain ⟨h2, h4⟩ := andS h2
    obtain ⟨h4, h5⟩ := andS h4
    obtain ⟨h3, h6⟩ := andS h3
    obtain ⟨q, hq, h6⟩ := anyS h6
    obtain ⟨h6, h7⟩ := andS h6
    obtain ⟨h7, h8⟩ := andS h7
    obtain ⟨u, hu, h6⟩ := anyS h6
    obtain ⟨h6, h9⟩ := andS h6
    have e0 := dec h0
    have e1 := dec h1
    have e3 := dec h6
    have e4 := dec h9
    have h5 := dec h5
    have p := tM_v (okE a _ z W X k h3).pe
    obtain ⟨g1, g2, _, _⟩ := blt_ok k h2
    obtain ⟨y, np⟩ := u
    obtain ⟨x, p1, a1, kw, v, kp, pos⟩ := r
    cases e3
    cases e4
    obtain ⟨fa, fd, ps, F, d1, d2, d3⟩ := (k.cal f q.1 1 hu).ex
    have ev : v = .Name q.1 q.2 := asName_eq hq
    have g0 := gl_ok k h7
    have ex : x = "sorted" := e0
    have ek : kw = "key" := e1
    subst ev ex ek
    have rm : Room n X.A.in1.in1 := ⟨k.room.hd, by have := k.room.dp; show X.A.depth + 3 * n + 5 < _; omega, by have := k.room.un; show X.A.units + 1 + 1 + 16 * n + 200 < _; omega⟩
    exact .val (sx_srtk k.fit k.units k.calm F rm d3 g1 g2 g0 d1 (dbg_ok h8).1 (sv_cons p sv_nil (star_cons h4)) (star_cons h4)) rfl rfl fun _ => rfl
  | .srtl a b, e, z, W, X, k, h => by
    simp only [chkE] at h
    obtain ⟨r, hr, h⟩ := anyS h
    cases asCK_eq hr
    obtain ⟨h1, h2⟩ := andS h
    obtain ⟨h0, h1⟩ := andS h1
    obtain ⟨h2, h3⟩ := andS h2
    obtain ⟨h2, h4⟩ := andS h2
    obtain ⟨h4, h5⟩ := andS h4
    obtain ⟨hlm, h5⟩ := andS h5
    obtain ⟨h3, h6⟩ := andS h3
    obtain ⟨q, hq, h6⟩ := anyS h6
    obtain ⟨u, hu, h6⟩ := anyS h6
    obtain ⟨h6, h7⟩ := andS h6
    obtain ⟨h7, h8⟩ := andS h7
    have e0 := dec h0
    have e1 := dec h1
    have h5 := dec h5
    have S := fnScB_ok h6
    have p := tM_v (okE a _ z W X k h3).pe
    obtain ⟨g1, g2, _, _⟩ := blt_ok k h2
    obtain ⟨cc, P, TB, hcode, hmT, huT⟩ := k.lam hlm
    have ev := asLam_eq hq
    have ep := lam1_eq hu
    rw [e0] at g1 g2
    rw [ev, ep, e0, e1]
    have rm : Room (n + 1) X.A.in1.in1 := ⟨k.room.hd, by have := k.room.dp; show X.A.depth + 3 * (n + 1) + 5 < _; omega, by have := k.room.un; show X.A.units + 1 + 1 + 16 * (n + 1) + 200 < _; omega⟩
    exact .val (sx_srtl k.fit k.units k.calm TB hcode hmT huT rfl S (fun _ _ _ _ _ => bind_plain (as := [u]) rfl rfl rfl (List.nodup_cons.mpr ⟨List.not_mem_nil, List.nodup_nil⟩)) rm (fun A outer s H E f c' hr => tM_e (okE b _ (lamSco u.arg q.2.2.1) W0 _ (ctx_fn k S rfl rfl rfl hr takes0) h8).pe h7) g1 g2 p (star_cons h4)) rfl rfl fun _ => rfl
  | .rep es b, e, z, W, X, k, h => by
    simp only [chkE] at h
    obtain ⟨r, hr, h⟩ := anyS h
    cases asBin_eq hr
    obtain ⟨h1, h2⟩ := andS h
    obtain ⟨q, hq, w1⟩ := anyS h2
    obtain ⟨w2, w3⟩ := andS w1
    obtain ⟨w3, w4⟩ := andS w3
    obtain ⟨w4, w5⟩ := andS w4
    obtain ⟨w5, w6⟩ := andS w5
    have p1 := (okEs es q.1 z W X k w2).1 w3
    have p2 := tM_e (okE b _ z W X k w6).pe w5
    have w4 := dec w4
    have e2 : r.2.1 = .Mult := isMult_eq h1
    rw [e2, asList_eq hq]
    exact .val (sx_rep p1 w4 p2) rfl rfl fun _ => rfl
theorem okEs : ∀ (es : Es) (xs : List Expr) (z : Sco) (W : WX) (X : Cx), Ctx T z c n W X → chkEs T es xs z = true → (esE es = true → PA X xs (tAs c W es)) ∧ PA X xs (tVs c W es)
  | .nil, xs, z, W, X, k, h => by
    simp only [chkEs] at h
    cases xs with
    | nil => exact ⟨fun _ => sa_nil, sv_nil⟩
    | cons _ _ => cases h
  | .cons m ms, [], z, W, X, k, h => by simp [chkEs] at h
  | .cons m ms, x :: xs, z, W, X, k, h => by
    simp only [chkEs] at h
    obtain ⟨h1, h2⟩ := andS h
    obtain ⟨h2, h3⟩ := andS h2
    have i := okE m x z W X k h2
    have j := okEs ms xs z W X k h3
    exact ⟨fun q => let ⟨q1, q2⟩ := andS (show (eB m && esE ms) = true from q); sa_cons (tM_e i.pe q1) (j.1 q2) (star_cons h1), sv_cons (tM_v i.pe) j.2 (star_cons h1)⟩
theorem okP : ∀ (es : Es) (ks : List (Option Expr)) (vs : List Expr) (z : Sco) (W : WX) (X : Cx) (pos : Pos), Ctx T z c n W X → chkP T es ks vs z = true → PPv X pos ks vs (tAs c W es) ∧ ks.all (·.isSome) = true ∧ ks.length = vs.length ∧ es.length = 2 * ks.length
  | .nil, ks, vs, z, W, X, pos, k, h => by
    simp only [chkP] at h
    cases ks <;> cases vs <;> first | exact absurd h Bool.false_ne_true | exact ⟨spp_nil, rfl, rfl, rfl⟩
  | .cons mk .nil, ks, vs, z, W, X, pos, k, h => by simp [chkP] at h
  | .cons mk (.cons mv ms), ks, vs, z, W, X, pos, k, h => by
    simp only [chkP] at h
    split at h
    · obtain ⟨h1, h2⟩ := andS h
      obtain ⟨h0, h1⟩ := andS h1
      obtain ⟨h2, h3⟩ := andS h2
      obtain ⟨h3, h4⟩ := andS h3
      obtain ⟨p, q1, q2, q3⟩ := okP ms _ _ z W X pos k h4
      exact ⟨spp_cons (tM_e (okE mk _ z W X k h2).pe h0) (tM_e (okE mv _ z W X k h3).pe h1) p, by rw [List.all_cons, q1]; rfl, congrArg (· + 1) q2, by simp only [Es.length, List.length_cons, q3]; omega⟩
    · cases h
theorem okIf : ∀ (es : Es) (xs : List Expr) (z : Sco) (W : WX) (X : Cx), Ctx T z c n W X → chkIf T es xs z = true → PTs X xs (tTs c W es)
  | .nil, xs, z, W, X, k, h => by
    simp only [chkIf] at h
    cases xs with
    | nil => exact spts_nil
    | cons _ _ => cases h
  | .cons m (.cons _ _), xs, z, W, X, k, h => by simp [chkIf] at h
  | .cons m .nil, xs, z, W, X, k, h => by
    simp only [chkIf] at h
    split at h
    · obtain ⟨h1, h2⟩ := andS h
      obtain ⟨h2, h3⟩ := andS h2
      exact spts_one ((okE m _ z W X k h3).pt h1)
    · cases h
theorem okI : ∀ (it : It) (t e : Expr) (z : Sco) (W : WX) (X : Cx), Ctx T z c n W X → chkI T it t e z = true → PI X t e (tI c W (prI it) it)
  | .e a, t, e, z, W, X, k, h => by
    simp only [chkI] at h
    obtain ⟨h1, h2⟩ := andS h
    exact si_e k.fit (tM_e (okE a e z W X k h2).pe h1)
  | .range es, t, e, z, W, X, k, h => by
    simp only [chkI] at h
    obtain ⟨r, hr, h⟩ := anyS h
    cases asCN_eq hr
    obtain ⟨h1, h2⟩ := andS h
    obtain ⟨h2, h3⟩ := andS h2
    obtain ⟨h2, h5⟩ := andS h2
    obtain ⟨h3, h4⟩ := andS h3
    have p := (okEs es _ z W X k h4).1 h3
    obtain ⟨l1, l2⟩ := chkEs_len h4
    obtain ⟨g1, g2, _, _⟩ := blt_ok k h2
    have l3 := dec h5
    have ex := dec h1
    clear h h1 h2 h4 hr
    obtain ⟨x, p1, a1, l, pos⟩ := r
    have ex : x = "range" := ex
    subst ex
    have l2 : (a1 :: l).all notStar = true := l2
    have l1 : es.length = (a1 :: l).length := l1
    match l, l1, l2, p with
    | [], l1, l2, p => exact si_range1 g1 g2 p l1 (star_cons (andS l2).1)
    | [b], l1, l2, p => exact si_range2 g1 g2 p l1 (by rw [star_cons (andS l2).1, star_cons (andS (andS l2).2).1]; rfl) (star_cons (andS (andS l2).2).1)
    | [b, d], l1, l2, p => exact si_range3 g1 g2 p l1 (star_cons (andS l2).1) (star_any (andS l2).2)
    | b :: d :: f :: l, l1, l2, p => simp only [List.length_cons] at l1; omega
  | .enum a, t, e, z, W, X, k, h => by
    simp only [chkI] at h
    obtain ⟨r, hr, h⟩ := anyS h
    cases asCN_eq hr
    obtain ⟨h1, h2⟩ := andS h
    obtain ⟨h2, h3⟩ := andS h2
    obtain ⟨h2, h4⟩ := andS h2
    obtain ⟨h3, h5⟩ := andS h3
    obtain ⟨h5, h6⟩ := andS h5
    obtain ⟨h6, h7⟩ := andS h6
    have p := tM_e (okE a _ z W X k h7).pe h6
    obtain ⟨g1, g2, _, _⟩ := blt_ok k h4
    have ex := dec h1
    obtain ⟨ta, tb, td, rfl⟩ := isTup_eq h2
    have el : r.2.2.2.1 = [] := List.isEmpty_iff.mp h5
    rw [ex] at g1 g2
    rw [ex, el]
    exact si_enum k.fit g1 g2 p (star_cons h3)
  | .zip es, t, e, z, W, X, k, h => by
    simp only [chkI] at h
    obtain ⟨r, hr, h⟩ := anyS h
    cases asCN_eq hr
    obtain ⟨h1, h2⟩ := andS h
    obtain ⟨h2, h3⟩ := andS h2
    obtain ⟨h2, h4⟩ := andS h2
    obtain ⟨h3, h5⟩ := andS h3
    obtain ⟨h4, h6⟩ := andS h4
    have p := (okEs es _ z W X k h5).1 h3
    obtain ⟨l1, l2⟩ := chkEs_len h5
    obtain ⟨g1, g2, _, _⟩ := blt_ok k h4
    have ex := dec h1
    have l3 := dec h6
    obtain ⟨ta, tb, td, rfl⟩ := isTup_eq h2
    clear h h1 h2 h3 h4 h5 h6 hr
    obtain ⟨x, p1, a1, l, pos⟩ := r
    have ex : x = "zip" := ex
    subst ex
    have l2 : (a1 :: l).all notStar = true := l2
    have l1 : es.length = (a1 :: l).length := l1
    match es, l, l1, l2, l3, p with
    | .cons a (.cons b .nil), [e2], l1, l2, l3, p => exact si_zip k.fit g1 g2 p (star_cons (andS l2).1) (star_any (andS l2).2)
    | .nil, _, _, _, l3, _ => cases l3
    | .cons _ .nil, _, _, _, l3, _ => cases l3
    | .cons _ (.cons _ (.cons _ es)), _, _, _, l3, _ => simp [Es.length] at l3
    | .cons _ (.cons _ .nil), [], l1, _, _, _ => cases l1
    | .cons _ (.cons _ .nil), _ :: _ :: _, l1, _, _, _ => simp [Es.length] at l1
  | .items a, t, e, z, W, X, k, h => by
    simp only [chkI] at h
    obtain ⟨r, hr, h⟩ := anyS h
    cases asC0_eq hr
    obtain ⟨h1, h2⟩ := andS h
    obtain ⟨h2, h3⟩ := andS h2
    obtain ⟨h2, h4⟩ := andS h2
    obtain ⟨h3, h5⟩ := andS h3
    obtain ⟨h5, h6⟩ := andS h5
    have p := tM_e (okE a _ z W X k h6).pe h5
    obtain ⟨ta, tb, td, rfl⟩ := isTup_eq h2
    rw [dec h1]
    exact si_items p (base_ok h4) h3
  | .values a, t, e, z, W, X, k, h => by
    simp only [chkI] at h
    obtain ⟨r, hr, h⟩ := anyS h
    cases asC0_eq hr
    obtain ⟨h1, h2⟩ := andS h
    obtain ⟨h2, h3⟩ := andS h2
    obtain ⟨h3, h5⟩ := andS h3
    obtain ⟨h5, h6⟩ := andS h5
    have p := tM_e (okE a _ z W X k h6).pe h5
    rw [dec h1]
    exact si_values p (base_ok h2) h3
end
end
end SH

set_option Elab.async false
set_option linter.all false
set_option maxRecDepth 100000
set_option maxHeartbeats 4000000
/-! The checker of statements. -/
namespace SH
open PySem PySem.Spec PyProof.Rows L2
variable [Tb]
/-! ### views -/
def asAsg : Stmt → Option (Expr × Expr × Pos)
  | .Assign [t] e p => some (t, e, p)
  | _ => none
theorem asAsg_eq {s : Stmt} {r : Expr × Expr × Pos} (h : asAsg s = some r) : s = .Assign [r.1] r.2.1 r.2.2 := by
  unfold asAsg at h
  split at h <;> cases h
  rfl
def asEx : Stmt → Option (Expr × Pos)
  | .Expr e p => some (e, p)
  | _ => none
theorem asEx_eq {s : Stmt} {r : Expr × Pos} (h : asEx s = some r) : s = .Expr r.1 r.2 := by cases s <;> cases h <;> rfl
def asRet : Stmt → Option (Expr × Pos)
  | .Return (some e) p => some (e, p)
  | _ => none
theorem asRet_eq {s : Stmt} {r : Expr × Pos} (h : asRet s = some r) : s = .Return (some r.1) r.2 := by
  unfold asRet at h
  split at h <;> cases h
  rfl
def asIfs : Stmt → Option (Expr × List Stmt × List Stmt × Pos)
  | .If t a b p => some (t, a, b, p)
  | _ => none
theorem asIfs_eq {s : Stmt} {r : Expr × List Stmt × List Stmt × Pos} (h : asIfs s = some r) : s = .If r.1 r.2.1 r.2.2.1 r.2.2.2 := by cases s <;> cases h <;> rfl
def asFor : Stmt → Option (Expr × Expr × List Stmt × Pos)
  | .For t i b [] p => some (t, i, b, p)
  | _ => none
theorem asFor_eq {s : Stmt} {r : Expr × Expr × List Stmt × Pos} (h : asFor s = some r) : s = .For r.1 r.2.1 r.2.2.1 [] r.2.2.2 := by
  unfold asFor at h
  split at h <;> cases h
  rfl
def asWh : Stmt → Option (Expr × List Stmt × Pos)
  | .While t b [] p => some (t, b, p)
  | _ => none
theorem asWh_eq {s : Stmt} {r : Expr × List Stmt × Pos} (h : asWh s = some r) : s = .While r.1 r.2.1 [] r.2.2 := by
  unfold asWh at h
  split at h <;> cases h
  rfl
def asCont : Stmt → Option Pos
  | .Continue p => some p
  | _ => none
theorem asCont_eq {s : Stmt} {r : Pos} (h : asCont s = some r) : s = .Continue r := by cases s <;> cases h <;> rfl
/-! ### a comprehension stored at once -/
def compSc : Expr → Option Scope
  | .ListComp _ _ s _ => some s
  | .SetComp _ _ s _ => some s
  | .DictComp _ _ _ s _ => some s
  | _ => none
def swB (z : Sco) (e : Expr) (y : Str) (py : Pos) : Bool := match compSc e with
  | some s => ((z.sc.names.lookup y == some .local) && py.line == e.pos.line) && !(s.names.any fun (n, k) => n == y && (k == .local || k == .cell))
  | none => false
theorem sw_eq {T : Txt} {z : Sco} {c : Cn} {n : Nat} {W : WX} {X : Cx} (k : Ctx T z c n W X) {e : Expr} {y : Str} {py : Pos} {l : Nat} : swapsWith e (some (.Name y py)) l X.env = pure (swB z e y py) := by
  have hb : (X.env.blockKind == ScopeKind.function) = true := by
    unfold Env.blockKind
    rw [k.sc, k.kd]
    rfl
  have hk : X.env.kindOf y = z.sc.names.lookup y := by show X.env.scope.names.lookup y = _; rw [k.sc]
  cases e <;> first | rfl | skip
  all_goals
    show (pure (X.env.blockKind == ScopeKind.function && X.env.kindOf y == some NameKind.local && py.line == _ && !_) : Sem Bool) = _
    rw [hb, hk, Bool.true_and]
    rfl
def isNo : S → Bool
  | .drop (.bi .min2 .nil) => true
  | _ => false
theorem no_ok {c : Cn} {X : Cx} {E : XK} {H0 F0 : Hp} {s : S} {st : Stmt} (h : isNo s = true) : PS X st (tS c E H0 F0 s) := by
  unfold isNo at h
  split at h
  · exact ⟨fun pins s σ H D I ⟨env, F, r, q⟩ => q.elim⟩
  · cases h
end SH

set_option Elab.async false
set_option linter.all false
set_option maxRecDepth 100000
set_option maxHeartbeats 4000000
/-! The checker of statements: the check. -/
namespace SH
open PySem PySem.Spec PyProof.Rows L2
variable [Tb]
def isLC : E → Bool
  | .lc .. => true
  | .lc2 .. => true
  | _ => false
def isFrz : S → Bool
  | .frz _ => true
  | _ => false
def notTuple : Expr → Bool
  | .Tuple .. => false
  | _ => true
def lclB (z : Sco) (x : Str) : Bool := decide (z.sc.names.lookup x = some .local)
def chkPs (T : Txt) (z : Sco) : List Bool → List E → List Expr → Bool
  | [], [], [] => true
  | o :: os, m :: ms, x :: xs => notStar x && ((if o = true then (nat m).isO else eB m) && (chkE T m x z && chkPs T z os ms xs))
  | _, _, _ => false
def par2B (z : Sco) (ts vs : List Expr) (js : List Nat) : Bool := match ts, vs, js with
  | [t1, t2], [v1, v2], [i, j] => ((asName t1).any fun q1 => (asName t2).any fun q2 => (nmB z i q1.1 && nmB z j q2.1) && ((lclB z q1.1 && lclB z q2.1) && (decide (q1.1 ≠ q2.1) && (q2.2.line == q1.2.line)))) &&
      (!([v1, v2].all (foldedForSure 8)) && !([v1, v2].all (constantsAlone 8)))
  | _, _, _ => false
def par3B (z : Sco) (ts vs : List Expr) (js : List Nat) : Bool := match ts, vs, js with
  | [t1, t2, t3], [v1, v2, v3], [i, j, l] => ((asName t1).any fun q1 => (asName t2).any fun q2 => (asName t3).any fun q3 => (nmB z i q1.1 && (nmB z j q2.1 && nmB z l q3.1)) && ((lclB z q1.1 && (lclB z q2.1 && lclB z q3.1)) &&
      ((decide (q1.1 ≠ q2.1) && (decide (q1.1 ≠ q3.1) && decide (q2.1 ≠ q3.1))) && ((q2.2.line == q1.2.line) && (q3.2.line == q1.2.line))))) &&
      (!([v1, v2, v3].all (foldedForSure 8)) && !([v1, v2, v3].all (constantsAlone 8)))
  | _, _, _ => false
def noSwB (z : Sco) (ts vs : List Expr) : Bool := (ts.any fun t => match t with | .Name x _ => !lclB z x | _ => true) || vs.all (foldedForSure 8)
mutual
def chkS (T : Txt) (z : Sco) : S → Stmt → Bool
  | .set i e, st => (asAsg st).any fun r => (asName r.1).any fun q => (nmB z i q.1 && locB z q.1) && ((eB e && chkE T e r.2.1 z) && (!swB z r.2.1 q.1 q.2 || isLC e))
  | .setO i e, st => (asAsg st).any fun r => (asName r.1).any fun q => (nmB z i q.1 && locB z q.1) && (((nat e).isO && chkE T e r.2.1 z) && (!swB z r.2.1 q.1 q.2 || isLC e))
  | .setT js e, st => (asAsg st).any fun r => (isTup r.1 && chkT z (.tup js) r.1) && ((notTuple r.2.1 || ((asTuple r.1).any fun t => (asTuple r.2.1).any fun v => noSwB z t.1 v.1)) && (eB e && chkE T e r.2.1 z))
  | .par js os es, st => (asAsg st).any fun r => (asTuple r.1).any fun t => (asTuple r.2.1).any fun v => (par2B z t.1 v.1 js || par3B z t.1 v.1 js) && chkPs T z os es v.1
  | .app i e, st => (asEx st).any fun r => (asCA r.1).any fun q => (decide (q.2.1 = ("append" : Str)) && (q.2.2.1.endLine == q.2.2.2.2.2.line)) && (((asName q.1).any fun u => varB z i u.1) && (q.2.2.2.2.1.isEmpty && (notStar q.2.2.2.1 && (eB e && chkE T e q.2.2.2.1 z))))
  | .ext i e, st => (asEx st).any fun r => (asCA r.1).any fun q => (decide (q.2.1 = ("extend" : Str)) && (q.2.2.1.endLine == q.2.2.2.2.2.line)) && (((asName q.1).any fun u => varB z i u.1) && (q.2.2.2.2.1.isEmpty && (notStar q.2.2.2.1 && ((nat e).isO && chkE T e q.2.2.2.1 z))))
  | .put i mk mv, st => (asAsg st).any fun r => (asSub r.1).any fun q => ((asName q.1).any fun u => varB z i u.1) && ((notSlice q.2.1 && notTuple r.2.1) && ((eB mk && chkE T mk q.2.1 z) && (eB mv && chkE T mv r.2.1 z)))
  | .frz _, _ => false
  | .drop e, st => isNo (.drop e) || ((asEx st).any fun r => notComp r.1 && (eB e && chkE T e r.1 z))
  | .ret e, st => (asRet st).any fun r => eB e && chkE T e r.1 z
  | .raise _, _ => false
  | .ifs t a b, st => (asIfs st).any fun r => (testB t && chkE T t r.1 z) && (chkB T z a r.2.1 && chkB T z b r.2.2.1)
  | .fors t it b, st => (asFor st).any fun r => ((notSet r.2.1 && (!prI it || tgPr t)) && (chkI T it r.1 r.2.1 z && chkT z t r.1)) && chkB T z b r.2.2.1
  | .whiles t b, st => (asWh st).any fun r => (testB t && chkE T t r.1 z) && chkB T z b r.2.1
  | .cont, st => (asCont st).isSome
def chkB (T : Txt) (z : Sco) : List S → List Stmt → Bool
  | [], sts => sts.isEmpty
  | m :: ms, sts => if isFrz m = true then chkB T z ms sts else match sts with
    | [] => false
    | st :: sts => chkS T z m st && chkB T z ms sts
end
end SH

set_option Elab.async false
set_option linter.all false
set_option maxRecDepth 100000
set_option maxHeartbeats 4000000
/-! The checker of statements is right. -/
namespace SH
open PySem PySem.Spec PyProof.Rows L2
variable [Tb]
section
variable {T : Txt} {z : Sco} {c : Cn} {n : Nat} {E : XK} {X : Cx} {H0 : Hp}
theorem block_ok {W : WX} (k : Ctx T z c n W X) : X.env.blockKind = ScopeKind.function := by
  unfold Env.blockKind
  rw [k.sc, k.kd]
  rfl
theorem lcl_ok {W : WX} (k : Ctx T z c n W X) {x : Str} (h : lclB z x = true) : X.env.scope.names.lookup x = some .local := by rw [k.sc]; exact dec h
theorem any_f {f : Expr → Bool} (hf : ∀ e, notStar e = true → f e = false) : ∀ {l : List Expr}, l.all notStar = true → ¬ (l.any f = true)
  | [], _ => by simp
  | e :: l, h => by
    obtain ⟨h1, h2⟩ := andS (show (notStar e && l.all notStar) = true from h)
    rw [List.any_cons, hf e h1, Bool.false_or]
    exact any_f hf h2
theorem par2_sw {W : WX} (k : Ctx T z c n W X) {x y : Str} {px py pt : Pos} {kt k2 : Nat} {pt2 : Pos} {a b : Expr} (hx : lclB z x = true) (hy : lclB z y = true) (hn : x ≠ y) (hl : (py.line == px.line) = true) (ha : [a, b].all notStar = true)
    (h1 : [a, b].all (foldedForSure 8) = false) (h2 : [a, b].all (constantsAlone 8) = false) : swappedStores [.Tuple [.Name x px, .Name y py] kt pt] (.Tuple [a, b] k2 pt2) X.env = pure (some [x, y]) := by
  have e1 : X.env.kindOf x = some .local := lcl_ok k hx
  have e2 : X.env.kindOf y = some .local := lcl_ok k hy
  have e3 := block_ok k
  have hl := eq_of_beq hl
  unfold swappedStores
  simp only [List.length_cons, List.length_nil]
  rw [if_neg (by rw [e3]; decide), if_neg (any_f (fun e h => by cases e <;> first | rfl | cases h) ha), h1, h2]
  have hpx : (Expr.Name x px).pos.line = px.line := rfl
  simp [e1, e2, hl, hpx, hn, Ne.symm hn, List.eraseDups_cons]
theorem par3_sw {W : WX} (k : Ctx T z c n W X) {x y w : Str} {px py pw pt : Pos} {kt k2 : Nat} {pt2 : Pos} {a b d : Expr} (hx : lclB z x = true) (hy : lclB z y = true) (hw : lclB z w = true) (hn : x ≠ y) (hn2 : x ≠ w) (hn3 : y ≠ w) (hl : (py.line == px.line) = true) (hl2 : (pw.line == px.line) = true) (ha : [a, b, d].all notStar = true)
    (h1 : [a, b, d].all (foldedForSure 8) = false) (h2 : [a, b, d].all (constantsAlone 8) = false) : swappedStores [.Tuple [.Name x px, .Name y py, .Name w pw] kt pt] (.Tuple [a, b, d] k2 pt2) X.env = pure (some [x, y, w]) := by
  have e1 : X.env.kindOf x = some .local := lcl_ok k hx
  have e2 : X.env.kindOf y = some .local := lcl_ok k hy
  have e4 : X.env.kindOf w = some .local := lcl_ok k hw
  have e3 := block_ok k
  have hl := eq_of_beq hl
  have hl2 := eq_of_beq hl2
  unfold swappedStores
  simp only [List.length_cons, List.length_nil]
  rw [if_neg (by rw [e3]; decide), if_neg (any_f (fun e h => by cases e <;> first | rfl | cases h) ha), h1, h2]
  have hpx : (Expr.Name x px).pos.line = px.line := rfl
  simp [e1, e2, e4, hl, hl2, hpx, hn, Ne.symm hn, hn2, Ne.symm hn2, hn3, Ne.symm hn3, List.eraseDups_cons]
end
end SH

set_option Elab.async false
set_option linter.all false
set_option maxRecDepth 100000
set_option maxHeartbeats 4000000
/-! The checker of statements is right: the induction. -/
namespace SH
open PySem PySem.Spec PyProof.Rows L2
variable [Tb]
section
variable {T : Txt} {z : Sco} {c : Cn} {n : Nat} {E : XK} {X : Cx} {H0 : Hp}
theorem ps_ok (k : Ctx T z c n (wE E) X) : ∀ {os : List Bool} {ms : List SH.E} {xs : List Expr}, chkPs T z os ms xs = true → PA X xs (tPs c (wE E) os ms) ∧ xs.all notStar = true
  | [], [], [], _ => ⟨spl_nil, rfl⟩
  | o :: os, m :: ms, x :: xs, h => by
    obtain ⟨h1, h2⟩ := andS (show (notStar x && _) = true from h)
    obtain ⟨h2, h3⟩ := andS h2
    obtain ⟨h3, h4⟩ := andS h3
    obtain ⟨p, q⟩ := ps_ok k h4
    refine ⟨?_, by rw [List.all_cons, h1, q]; rfl⟩
    have i := okE m x z (wE E) X k h3
    cases o with
    | true => exact spl_o (tM_o i.pe h2) p (star_cons h1)
    | false => exact spl_e (tM_e i.pe h2) p (star_cons h1)
theorem lcS {i : Nat} {y : Str} {py spos : Pos} {e : Expr} {m : SH.E} (k : Ctx T z c n (wE E) X) (hm : isLC m = true) (h : chkE T m e z = true) (hy : X.N[i]? = some y) (hs : swB z e y py = true) :
    ∃ te, PS X (.Assign [.Name y py] e spos) (tAsg te (gName i)) ∧ ∀ σ H Q, tO c (wE E) m σ H Q → te σ H Q := by
  have hsw : swapsWith e (some (.Name y py)) spos.line X.env = pure true := by rw [sw_eq k, hs]
  have hyl : X.env.scope.names.lookup y = some .local := by
    rw [k.sc]
    unfold swB at hs
    split at hs
    · exact eq_of_beq (andS (andS hs).1).1
    · cases hs
  cases m with
  | lc own elt t it ifs =>
    simp only [chkE] at h
    obtain ⟨r, hr, h⟩ := anyS h
    cases asLC_eq hr
    obtain ⟨h1, h2⟩ := andS h
    obtain ⟨h2, h3⟩ := andS h2
    obtain ⟨h2, h4⟩ := andS h2
    obtain ⟨h4, h5⟩ := andS h4
    obtain ⟨h3, h6⟩ := andS h3
    obtain ⟨h6, h7⟩ := andS h6
    obtain ⟨h7, h8⟩ := andS h7
    obtain ⟨h8, h9⟩ := andS h8
    have ok := blk_ok k h1
    refine ⟨_, ps_setLc (g := tgG X.K t) k.calm (nodup_ok k) hy hyl hsw (okI it r.2.1 r.2.2.1 z _ X k h3) ok (fun s H C cl fp => tg_ok (k.blk ok.kind s H C cl fp) h6) (fun s H C cl fp => okIf ifs _ _ _ _ (k.blk ok.kind s H C cl fp) h7)
      (fun s H C cl fp => tM_e (okE elt _ _ _ _ (k.blk ok.kind s H C cl fp) h9).pe h8) (fold_ok h2), ?_⟩
    have := lc_ent (c := c) (X := X) (W := wE E) (own := ownL z own) (t := t) (it := it) (mi := ifs) (m := elt) (pr := prI it) k.fit (pr_ok h4) (by rw [ownL_map]; exact h5)
    rw [ownL_map] at this ⊢
    exact this
  | lc2 own own1 elt t it ifs t1 it1 ifs1 =>
    simp only [chkE] at h
    obtain ⟨r, hr, h⟩ := anyS h
    cases asLC2_eq hr
    obtain ⟨h1, h2⟩ := andS h
    obtain ⟨h2, h3⟩ := andS h2
    obtain ⟨h2, h4⟩ := andS h2
    obtain ⟨h3, h5⟩ := andS h3
    obtain ⟨g1, g3⟩ := andS h3
    obtain ⟨g1, g2⟩ := andS g1
    obtain ⟨g3, g4⟩ := andS g3
    obtain ⟨g4, g5⟩ := andS g4
    obtain ⟨h5, h6⟩ := andS h5
    obtain ⟨h6, h7⟩ := andS h6
    obtain ⟨h7, h8⟩ := andS h7
    obtain ⟨h8, h9⟩ := andS h8
    obtain ⟨h9, h10⟩ := andS h9
    obtain ⟨h10, h11⟩ := andS h10
    obtain ⟨h11, h12⟩ := andS h11
    have ok := blk_ok k h1
    have hv : ∀ i ∈ own1, i ∈ (ownL z own).map (·.2) := by rw [ownL_map]; exact fun i hi => List.contains_iff_mem.mp (List.all_eq_true.mp g5 i hi)
    refine ⟨_, ps_setLc2 (vs1 := own1) (g := tgG X.K t) (g1 := tgG X.K t1) k.calm (nodup_ok k) hy hyl hsw (okI it _ _ z _ X k h5) ok hv
      (fun s H C cl fp => tg_ok (k.blk ok.kind s H C cl fp) h6) (fun s H C cl fp => okIf ifs _ _ _ _ (k.blk ok.kind s H C cl fp) h7)
      (fun s H C cl fp => okI it1 _ _ _ _ _ (k.blk ok.kind s H C cl fp) h8) (fun s H C cl fp => tg_ok (k.blk ok.kind s H C cl fp) h9) (fun s H C cl fp => okIf ifs1 _ _ _ _ (k.blk ok.kind s H C cl fp) h10)
      (fun s H C cl fp => tM_e (okE elt _ _ _ _ (k.blk ok.kind s H C cl fp) h12).pe h11) (fold_ok h2) (fun env => fold_ok h4), ?_⟩
    have := lc2_ent (c := c) (X := X) (W := wE E) (own := ownL z own) (vs1 := own1) (t := t) (t1 := t1) (it := it) (it1 := it1) (mi := ifs) (mi1 := ifs1) (m := elt) (pr := prI it) (pr1 := prI it1) k.fit (pr_ok g1) (by rw [ownL_map]; exact g2) (pr_ok g3) g4 hv
    rw [ownL_map] at this ⊢
    exact this
  | _ => cases hm
theorem put_as {env : Env} {x : Str} {p1 p2 : Pos} {b : Expr} (h : notSlice b = true) (v : Value) : assign (.Subscript (.Name x p1) b p2) env v = (do
      let ov ← holding [v] (eval (.Name x p1) env)
      let iv ← holding [v, ov] (eval b env)
      standAt p2
      holding [v, ov, iv] (setItem ov iv v)
      release [v, ov, iv] []) := by
  cases b <;> first | rfl | cases h
theorem sole_no {t e : Expr} {l : Nat} {env : Env} (h : notComp e = true) : swapsWithSole [t] e l env = pure false := swap_no h
theorem sole_tup {a : List Expr} {b : Nat} {d : Pos} {e : Expr} {l : Nat} {env : Env} : swapsWithSole [.Tuple a b d] e l env = pure false := by
  cases e <;> rfl
theorem sole_sub {a b : Expr} {d : Pos} {e : Expr} {l : Nat} {env : Env} : swapsWithSole [.Subscript a b d] e l env = pure false := by
  cases e <;> rfl
theorem stores_no {t e : Expr} {env : Env} (h : notTuple e = true) : swappedStores [t] e env = pure none := by
  cases t <;> cases e <;> first | rfl | cases h
theorem filterMap_lt {A B : Type} {p : A → Bool} {f : A → Option B} (hf : ∀ t, p t = true → f t = none) : ∀ {ts : List A}, ts.any p = true → (ts.filterMap f).length < ts.length
  | [], h => by cases h
  | t :: ts, h => by
    have le := List.length_filterMap_le f ts
    rw [List.any_cons, Bool.or_eq_true] at h
    rw [List.filterMap_cons]
    rcases h with h | h
    · rw [hf t h]
      simp only [List.length_cons]
      omega
    · have ih := filterMap_lt hf h
      cases f t <;> simp only [List.length_cons] <;> omega
theorem stores_none {W : WX} (k : Ctx T z c n W X) {ts vs : List Expr} {k1 k2 : Nat} {p1 p2 : Pos} (h : noSwB z ts vs = true) : swappedStores [.Tuple ts k1 p1] (.Tuple vs k2 p2) X.env = pure none := by
  unfold swappedStores
  simp only []
  split
  · rfl
  split
  · rfl
  split
  · rfl
  rename_i hn
  split
  · rfl
  rename_i hf
  exfalso
  unfold noSwB at h
  rw [Bool.or_eq_true] at h
  rcases h with h | h
  · refine hn ?_
    have lt := filterMap_lt (f := fun (t : Expr) => match t with | .Name id pos => if (X.env.kindOf id == some .local && pos.line == (ts.head?.map (·.pos.line)).getD 0) = true then some id else none | _ => none) (fun t ht => ?_) h
    · rw [Bool.or_eq_true]
      refine .inl ?_
      rw [bne_iff_ne]
      exact Nat.ne_of_lt lt
    · cases t with
      | Name x p =>
        have e : ¬ (X.env.kindOf x = some .local) := fun q => by
          have q : X.env.scope.names.lookup x = some .local := q
          rw [k.sc] at q
          have ht : (!lclB z x) = true := ht
          unfold lclB at ht
          rw [decide_eq_true q] at ht
          cases ht
        simp [e]
      | _ => rfl
  · exact hf h
theorem nm_ne {i j : Nat} {x y : Str} (h1 : X.N[i]? = some x) (h2 : X.N[j]? = some y) (h : x ≠ y) : i ≠ j := fun e => by
  subst e
  rw [h1] at h2
  exact h (Option.some.inj h2)
end
end SH

set_option Elab.async false
set_option linter.all false
set_option maxRecDepth 100000
set_option maxHeartbeats 4000000
/-! The checker of statements is right: the induction. -/
namespace SH
open PySem PySem.Spec PyProof.Rows L2
variable [Tb]
section
variable {T : Txt} {z : Sco} {c : Cn} {n : Nat} {E : XK} {X : Cx} {H0 : Hp}
theorem orNot {a b : Bool} (h : (!a || b) = true) : a = false ∨ b = true := by cases a <;> simp_all
theorem frz_eq {m : S} (h : isFrz m = true) : ∃ i, m = .frz i := by cases m <;> first | exact ⟨_, rfl⟩ | cases h
theorem par2_of {ts vs : List Expr} {js : List Nat} (h : par2B z ts vs js = true) : ∃ (q1 q2 : Str × Pos) (v1 v2 : Expr) (i j : Nat), ts = [.Name q1.1 q1.2, .Name q2.1 q2.2] ∧ vs = [v1, v2] ∧ js = [i, j] ∧
    ((nmB z i q1.1 && nmB z j q2.1) && ((lclB z q1.1 && lclB z q2.1) && (decide (q1.1 ≠ q2.1) && (q2.2.line == q1.2.line)))) = true ∧ (!([v1, v2].all (foldedForSure 8)) && !([v1, v2].all (constantsAlone 8))) = true := by
  unfold par2B at h
  split at h
  · obtain ⟨h1, h3⟩ := andS h
    obtain ⟨q1, hq1, h4⟩ := anyS h1
    obtain ⟨q2, hq2, h5⟩ := anyS h4
    exact ⟨q1, q2, _, _, _, _, by rw [asName_eq hq1, asName_eq hq2], rfl, rfl, h5, h3⟩
  · cases h
theorem par3_of {ts vs : List Expr} {js : List Nat} (h : par3B z ts vs js = true) : ∃ (q1 q2 q3 : Str × Pos) (v1 v2 v3 : Expr) (i j l : Nat), ts = [.Name q1.1 q1.2, .Name q2.1 q2.2, .Name q3.1 q3.2] ∧ vs = [v1, v2, v3] ∧ js = [i, j, l] ∧
    ((nmB z i q1.1 && (nmB z j q2.1 && nmB z l q3.1)) && ((lclB z q1.1 && (lclB z q2.1 && lclB z q3.1)) &&
      ((decide (q1.1 ≠ q2.1) && (decide (q1.1 ≠ q3.1) && decide (q2.1 ≠ q3.1))) && ((q2.2.line == q1.2.line) && (q3.2.line == q1.2.line))))) = true ∧ (!([v1, v2, v3].all (foldedForSure 8)) && !([v1, v2, v3].all (constantsAlone 8))) = true := by
  unfold par3B at h
  split at h
  · obtain ⟨h1, h3⟩ := andS h
    obtain ⟨q1, hq1, h4⟩ := anyS h1
    obtain ⟨q2, hq2, h5⟩ := anyS h4
    obtain ⟨q3, hq3, h6⟩ := anyS h5
    exact ⟨q1, q2, q3, _, _, _, _, _, _, by rw [asName_eq hq1, asName_eq hq2, asName_eq hq3], rfl, rfl, h6, h3⟩
  · cases h
mutual
theorem okS (k : Ctx T z c n (wE E) X) (hp : PassesOwn (model X.prog X.w) X.A X.env X.xe) : ∀ (s : S) (st : Stmt), chkS T z s st = true → ∀ F0, PS X st (tS c E H0 F0 s)
  | .set i e, st, h, F0 => by
    simp only [chkS] at h
    obtain ⟨r, hr, hh⟩ := anyS h
    clear h
    have e0 := asAsg_eq hr
    clear hr
    subst e0
    have h := hh
    clear hh
    obtain ⟨q, hq, h⟩ := anyS h
    obtain ⟨h1, h2⟩ := andS h
    obtain ⟨h1, h3⟩ := andS h1
    obtain ⟨h2, h4⟩ := andS h2
    obtain ⟨h2, h5⟩ := andS h2
    rw [asName_eq hq]
    obtain ⟨l1, l2⟩ := loc_ok k h3
    cases hs : swB z r.2.1 q.1 q.2 with
    | false => exact ss_set (nodup_ok k) (nm_ok k h1) l1 (tM_e (okE e _ z _ X k h5).pe h2) (by rw [sw_eq k, hs]) l2
    | true =>
      rw [hs] at h4
      obtain ⟨te, p, q⟩ := lcS (spos := r.2.2) k h4 h5 (nm_ok k h1) hs
      exact ss_asgF p q
  | .setO i e, st, h, F0 => by
    simp only [chkS] at h
    obtain ⟨r, hr, hh⟩ := anyS h
    clear h
    have e0 := asAsg_eq hr
    clear hr
    subst e0
    have h := hh
    clear hh
    obtain ⟨q, hq, h⟩ := anyS h
    obtain ⟨h1, h2⟩ := andS h
    obtain ⟨h1, h3⟩ := andS h1
    obtain ⟨h2, h4⟩ := andS h2
    obtain ⟨h2, h5⟩ := andS h2
    rw [asName_eq hq]
    obtain ⟨l1, l2⟩ := loc_ok k h3
    cases hs : swB z r.2.1 q.1 q.2 with
    | false => exact ss_setO (nodup_ok k) (nm_ok k h1) l1 (tM_o (okE e _ z _ X k h5).pe h2) (by rw [sw_eq k, hs]) l2
    | true =>
      rw [hs] at h4
      obtain ⟨te, p, q⟩ := lcS (spos := r.2.2) k h4 h5 (nm_ok k h1) hs
      exact ss_asgO p q
  | .setT js e, st, h, F0 => by
    simp only [chkS] at h
    obtain ⟨r, hr, hh⟩ := anyS h
    clear h
    have e0 := asAsg_eq hr
    clear hr
    subst e0
    have h := hh
    clear hh
    obtain ⟨h1, h2⟩ := andS h
    obtain ⟨h1, h3⟩ := andS h1
    obtain ⟨h2, h4⟩ := andS h2
    obtain ⟨h4, h5⟩ := andS h4
    obtain ⟨ta, tb, td, e1⟩ := isTup_eq h1
    have p := tg_ok k h3
    have hw : swappedStores [r.1] r.2.1 X.env = pure none := by
      rw [Bool.or_eq_true] at h2
      rcases h2 with h2 | h2
      · exact stores_no h2
      · obtain ⟨t, ht, h2⟩ := anyS h2
        obtain ⟨v, hv, h2⟩ := anyS h2
        rw [asTuple_eq ht, asTuple_eq hv]
        exact stores_none k h2
    rw [e1] at p hw ⊢
    exact ss_setT k.fit (tM_e (okE e _ z _ X k h5).pe h4) p sole_tup hw rfl
  | .par js os es, st, h, F0 => by
    simp only [chkS] at h
    obtain ⟨r, hr, hh⟩ := anyS h
    clear h
    have e0 := asAsg_eq hr
    clear hr
    subst e0
    have h := hh
    clear hh
    obtain ⟨t, ht, h⟩ := anyS h
    obtain ⟨v, hv, h⟩ := anyS h
    obtain ⟨h1, h2⟩ := andS h
    obtain ⟨p, hs⟩ := ps_ok k h2
    rw [asTuple_eq ht, asTuple_eq hv]
    rw [Bool.or_eq_true] at h1
    obtain ⟨ts, tk, tp⟩ := t
    obtain ⟨vs, vk, vp⟩ := v
    rcases h1 with h1 | h1
    · obtain ⟨q1, q2, v1, v2, i, j, e1, e2, e3, w, h3⟩ := par2_of h1
      have e1 : ts = _ := e1
      have e2 : vs = _ := e2
      subst e1 e2 e3
      obtain ⟨w1, w4⟩ := andS w
      obtain ⟨w1, w5⟩ := andS w1
      obtain ⟨w4, w6⟩ := andS w4
      obtain ⟨w4, w7⟩ := andS w4
      obtain ⟨w6, w8⟩ := andS w6
      obtain ⟨w3, w9⟩ := andS h3
      exact ss_par2 k.calm (nodup_ok k) (nm_ok k w1) (nm_ok k w5) (nm_ne (nm_ok k w1) (nm_ok k w5) (dec w6)) (lcl_ok k w4) (lcl_ok k w7) p (par2_sw k w4 w7 (dec w6) w8 hs (notS w3) (notS w9))
    · obtain ⟨q1, q2, q3, v1, v2, v3, i, j, l, e1, e2, e3, w, h3⟩ := par3_of h1
      have e1 : ts = _ := e1
      have e2 : vs = _ := e2
      subst e1 e2 e3
      obtain ⟨w1, w4⟩ := andS w
      obtain ⟨w1, w5⟩ := andS w1
      obtain ⟨w5, w6⟩ := andS w5
      obtain ⟨w4, w7⟩ := andS w4
      obtain ⟨w4, w8⟩ := andS w4
      obtain ⟨w8, w9⟩ := andS w8
      obtain ⟨w7, g1⟩ := andS w7
      obtain ⟨w7, g2⟩ := andS w7
      obtain ⟨g2, g3⟩ := andS g2
      obtain ⟨g1, g4⟩ := andS g1
      obtain ⟨w3, g5⟩ := andS h3
      exact ss_par3 k.calm (nodup_ok k) (nm_ok k w1) (nm_ok k w5) (nm_ok k w6) (nm_ne (nm_ok k w1) (nm_ok k w5) (dec w7)) (nm_ne (nm_ok k w1) (nm_ok k w6) (dec g2)) (nm_ne (nm_ok k w5) (nm_ok k w6) (dec g3)) (lcl_ok k w4) (lcl_ok k w8) (lcl_ok k w9) p
          (par3_sw k w4 w8 w9 (dec w7) (dec g2) (dec g3) g1 g4 hs (notS w3) (notS g5))
  | .app i e, st, h, F0 => by
    simp only [chkS] at h
    obtain ⟨r, hr, hh⟩ := anyS h
    clear h
    have e0 := asEx_eq hr
    clear hr
    subst e0
    have h := hh
    clear hh
    obtain ⟨q, hq, h⟩ := anyS h
    obtain ⟨h1, h2⟩ := andS h
    obtain ⟨h1, h3⟩ := andS h1
    obtain ⟨h2, h4⟩ := andS h2
    obtain ⟨u, hu, h2⟩ := anyS h2
    obtain ⟨h4, h5⟩ := andS h4
    obtain ⟨h5, h6⟩ := andS h5
    obtain ⟨h6, h7⟩ := andS h6
    obtain ⟨a, b, d, f⟩ := var_ok k h2
    have el : q.2.2.2.2.1 = [] := List.isEmpty_iff.mp h4
    have hs : [q.2.2.2.1].all notStar = true := by rw [List.all_cons, h5]; rfl
    rw [asCA_eq hq, asName_eq hu, dec h1, el]
    exact ss_app a b d f (sa_cons (tM_e (okE e _ z _ X k h7).pe h6) sa_nil (star_cons h5)) (base_ok rfl) (star_few hs (by simp)) h3 (star_cons h5) rfl rfl
  | .ext i e, st, h, F0 => by
    simp only [chkS] at h
    obtain ⟨r, hr, hh⟩ := anyS h
    clear h
    have e0 := asEx_eq hr
    clear hr
    subst e0
    have h := hh
    clear hh
    obtain ⟨q, hq, h⟩ := anyS h
    obtain ⟨h1, h2⟩ := andS h
    obtain ⟨h1, h3⟩ := andS h1
    obtain ⟨h2, h4⟩ := andS h2
    obtain ⟨u, hu, h2⟩ := anyS h2
    obtain ⟨h4, h5⟩ := andS h4
    obtain ⟨h5, h6⟩ := andS h5
    obtain ⟨h6, h7⟩ := andS h6
    obtain ⟨a, b, d, f⟩ := var_ok k h2
    have el : q.2.2.2.2.1 = [] := List.isEmpty_iff.mp h4
    have hs : [q.2.2.2.1].all notStar = true := by rw [List.all_cons, h5]; rfl
    rw [asCA_eq hq, asName_eq hu, dec h1, el]
    exact ss_ext a b d f (tM_o (okE e _ z _ X k h7).pe h6) (base_ok rfl) (star_few hs (by simp)) h3 (star_cons h5) rfl rfl
  | .put i mk mv, st, h, F0 => by
    simp only [chkS] at h
    obtain ⟨r, hr, hh⟩ := anyS h
    clear h
    have e0 := asAsg_eq hr
    clear hr
    subst e0
    have h := hh
    clear hh
    obtain ⟨q, hq, h⟩ := anyS h
    obtain ⟨h1, h2⟩ := andS h
    obtain ⟨u, hu, h1⟩ := anyS h1
    obtain ⟨h2, h3⟩ := andS h2
    obtain ⟨h2, h4⟩ := andS h2
    obtain ⟨h3, h5⟩ := andS h3
    obtain ⟨h3, h6⟩ := andS h3
    obtain ⟨h5, h7⟩ := andS h5
    obtain ⟨a, b, d, f⟩ := var_ok k h1
    rw [asSub_eq hq, asName_eq hu]
    exact ss_put k.fit k.units a b d f (tM_e (okE mv _ z _ X k h7).pe h5) (tM_e (okE mk _ z _ X k h6).pe h3) sole_sub (stores_no h4) rfl (put_as h2)
  | .frz _, _, h, _ => by simp [chkS] at h
  | .drop e, st, h, F0 => by
    simp only [chkS] at h
    rw [Bool.or_eq_true] at h
    rcases h with h | h
    · exact no_ok h
    · obtain ⟨r, hr, hh⟩ := anyS h
      clear h
      have e0 := asEx_eq hr
      clear hr
      subst e0
      have h := hh
      clear hh
      obtain ⟨h1, h2⟩ := andS h
      obtain ⟨h2, h3⟩ := andS h2
      exact ss_drop (tM_e (okE e _ z _ X k h3).pe h2) (swap_no h1)
  | .ret e, st, h, F0 => by
    simp only [chkS] at h
    obtain ⟨r, hr, hh⟩ := anyS h
    clear h
    have e0 := asRet_eq hr
    clear hr
    subst e0
    have h := hh
    clear hh
    obtain ⟨h1, h2⟩ := andS h
    exact ss_ret (tM_e (okE e _ z _ X k h2).pe h1)
  | .raise _, _, h, _ => by simp [chkS] at h
  | .ifs t a b, st, h, F0 => by
    simp only [chkS] at h
    obtain ⟨r, hr, hh⟩ := anyS h
    clear h
    have e0 := asIfs_eq hr
    clear hr
    subst e0
    have h := hh
    clear hh
    obtain ⟨h1, h2⟩ := andS h
    obtain ⟨h1, h3⟩ := andS h1
    obtain ⟨h2, h4⟩ := andS h2
    exact ss_if ((okE t _ z _ X k h3).pt h1) (okB k hp a _ h2 F0) (okB k hp b _ h4 F0)
  | .fors t it b, st, h, F0 => by
    simp only [chkS] at h
    obtain ⟨r, hr, hh⟩ := anyS h
    clear h
    have e0 := asFor_eq hr
    clear hr
    subst e0
    have h := hh
    clear hh
    obtain ⟨h1, h2⟩ := andS h
    obtain ⟨h1, h3⟩ := andS h1
    obtain ⟨h1, h4⟩ := andS h1
    obtain ⟨h3, h5⟩ := andS h3
    exact ss_for k.fit hp k.calm (okI it _ _ z _ X k h3) (tg_ok k h5) (fun F0 => okB k hp b _ h2 F0) (pr_ok h4) (fold_ok h1)
  | .whiles t b, st, h, F0 => by
    simp only [chkS] at h
    obtain ⟨r, hr, hh⟩ := anyS h
    clear h
    have e0 := asWh_eq hr
    clear hr
    subst e0
    have h := hh
    clear hh
    obtain ⟨h1, h2⟩ := andS h
    obtain ⟨h1, h3⟩ := andS h1
    exact ss_while hp ((okE t _ z _ X k h3).pt h1) (okB k hp b _ h2 F0)
  | .cont, st, h, F0 => by
    simp only [chkS] at h
    obtain ⟨r, hr⟩ := Option.isSome_iff_exists.mp h
    cases asCont_eq hr
    exact ss_cont
theorem okB (k : Ctx T z c n (wE E) X) (hp : PassesOwn (model X.prog X.w) X.A X.env X.xe) : ∀ (ms : List S) (sts : List Stmt), chkB T z ms sts = true → ∀ F0, PSs X sts (tB c E H0 F0 ms)
  | [], sts, h, F0 => by
    simp only [chkB] at h
    cases sts with
    | nil => exact sb_nil
    | cons _ _ => cases h
  | m :: ms, sts, h, F0 => by
    simp only [chkB] at h
    by_cases hf : isFrz m = true
    · rw [if_pos hf] at h
      obtain ⟨i, e⟩ := frz_eq hf
      rw [e]
      exact sb_frz (okB k hp ms sts h F0)
    · rw [if_neg hf] at h
      cases sts with
      | nil => cases h
      | cons st sts =>
        obtain ⟨h1, h2⟩ := andS h
        exact sb_cons (okS k hp m st h1 F0) (okB k hp ms sts h2 F0)
end
end
end SH

set_option Elab.async false
set_option linter.all false
set_option maxRecDepth 100000
set_option maxHeartbeats 4000000
/-! The table of functions: each keeps the evaluator's word, at any fuel. -/
namespace SH
open PySem PySem.Spec PyProof.Rows L2
/-- one def of the text -/
structure FD where
  x : Str
  st : Stmt
  N : List Str
  ps : List Str
  lm : Bool
def FD.z (d : FD) : Sco := ⟨d.N, defScope d.st, d.N, d.lm, 2⟩
def FD.qual (d : FD) : Str := (d.x ++ ".<locals>.") ++ "<lambda>"
def chkF [Tb] (T : Txt) (d : FD) (f : Fn) : Bool := chkB T d.z f.body (defBody d.st) && (fnScB d.N d.ps (defScope d.st) && (((plainA (defArgs d.st)).any fun as => decide (as.map (·.arg) = d.ps)) &&
  (nodupB d.ps && (decide (f.np = d.ps.length) && decide (f.ns = d.N.length)))))
def all2 {A B : Type} (p : A → B → Bool) : List A → List B → Bool
  | [], [] => true
  | a :: as, b :: bs => p a b && all2 p as bs
  | _, _ => false
theorem all2_get {A B : Type} {p : A → B → Bool} : ∀ {as : List A} {bs : List B}, all2 p as bs = true → ∀ {i : Nat} {a : A}, as[i]? = some a → ∃ b, bs[i]? = some b ∧ p a b = true
  | [], [], _, i, a, h => by simp at h
  | [], _ :: _, h, _, _, _ => by cases h
  | _ :: _, [], h, _, _, _ => by cases h
  | x :: as, y :: bs, h, i, a, e => by
    obtain ⟨h1, h2⟩ := Bool.and_eq_true_iff.mp (show (p x y && all2 p as bs) = true from h)
    cases i with
    | zero => cases e; exact ⟨y, rfl, h1⟩
    | succ i => simpa using all2_get h2 (i := i) (by simpa using e)
def tblOf [Tb] (con free : List Str) (ds : List FD) : Txt := ⟨ds.map fun d => (d.x, d.ps.length), con, free⟩
section
variable [Tb]
/-- what the text's head tells -/
structure Hd (T : Txt) (G : List D) (ds : List FD) (P : Program) (w : World) (K : PySem.W.Frag) (mg : Str → Option Value) (base : Heap) : Prop where
  fn : T.fn = ds.map fun d => (d.x, d.ps.length)
  def_ : ∀ d ∈ ds, ∃ f fd, FunD K d.x d.x (defArgs d.st) (defBody d.st) (defScope d.st) [] [] f fd ∧ mg d.x = some (.ref f) ∧
    (d.lm = true → ∃ cc Q, LamX.TabB base mg cc Q ∧ fd.code = .ref cc ∧ (Q, d.qual) ∈ Tb.T ∧ ∀ p ∈ Tb.T, p.1 = Q → p.2 = d.qual)
  free : ∀ x ∈ T.free, mg x = none
  con : ∀ (i : Nat) (x : Str) (d : D), T.con[i]? = some x → G[i]? = some d → ∃ v u, (∀ F, SH.Dt P w K F v d) ∧ mg x = some u ∧ RelV v u
  glen : T.con.length = G.length
variable {T : Txt} {G : List D} {ds : List FD} {P : Program} {w : World} {K : PySem.W.Frag} {mg : Str → Option Value} {base : Heap} {fs : List Fn} {cl : Nat → Value}
def cnF (P : Program) (w : World) (K : PySem.W.Frag) (fs : List Fn) (G : List D) (cl : Nat → Value) (n : Nat) : Cn := ⟨P, w, K, callF fs G n, G, cl⟩
theorem start_get {f : Fn} {xs : List D} {vs : List V} {F : Hp} {N : List Str} (h : DtAll P w K F vs xs) {i : Nat} {c : Cell} (e : (startE f xs)[i]? = some (some c)) : ∃ v d, c = .fz d ∧ (start N vs)[i]? = some (some v) ∧ Dt P w K F v d := by
  unfold startE at e
  have hl := h.length
  by_cases hi : i < xs.length
  · rw [List.getElem?_append_left (by simpa using hi), List.getElem?_map] at e
    cases q : xs[i]? with
    | none => rw [q] at e; cases e
    | some d =>
      rw [q] at e
      cases e
      obtain ⟨v, e1, e2⟩ := h.atD q
      refine ⟨v, d, rfl, ?_, e2⟩
      unfold L2.start
      rw [List.getElem?_append_left (by simpa [hl] using hi), List.getElem?_map, e1]
      rfl
  · rw [List.getElem?_append_right (by simpa using Nat.le_of_not_lt hi)] at e
    have := List.mem_of_getElem? e
    rw [List.mem_replicate] at this
    cases this.2
theorem spF_len {c : Cn} {i np : Nat} {vs : List V} {H : Hp} {Q : VK} {E : XK} (h : spF c i np vs H Q E) : vs.length = np := by
  obtain ⟨F, xs, _, _, h1, h2, _⟩ := h
  rw [h1.length, h2]
theorem start_rel {f : Fn} {xs : List D} {vs : List V} {F H : Hp} {N : List Str} (h : DtAll P w K F vs xs) (s : Sub F H) (t : TabF F H) (e1 : xs.length = f.np) (e2 : f.ns = N.length) : SH.Rel P w K H F (startE f xs) (start N vs) H F where
  e := ⟨s, by unfold startE L2.start; simp only [List.length_append, List.length_map, List.length_replicate]; rw [h.length, e1, e2], fun i c e => by
    obtain ⟨v, d, rfl, a, b⟩ := start_get (N := N) h e
    exact ⟨v, a, b⟩, t⟩
  x := Ext.refl s
  own := fun i d a e => by
    obtain ⟨v, d', q, _⟩ := start_get (N := N) h e
    cases q
  dis := fun i j d d' a _ e => by
    obtain ⟨v, d', q, _⟩ := start_get (N := N) h e
    cases q
theorem table (B : Hd T G ds P w K mg base) (ck : all2 (chkF T) ds fs = true) : ∀ (n i : Nat) (d : FD), ds[i]? = some d → ∀ (f : Addr) (fd : FuncData), FunD K d.x d.x (defArgs d.st) (defBody d.st) (defScope d.st) [] [] f fd →
    (d.lm = true → ∃ cc Q, LamX.TabB base mg cc Q ∧ fd.code = .ref cc ∧ (Q, d.qual) ∈ Tb.T ∧ ∀ p ∈ Tb.T, p.1 = Q → p.2 = d.qual) →
    FnOk P w K mg base (L2.CX P w) (3 * n) f fd d.ps (spF (cnF P w K fs G cl n) i d.ps.length)
  | 0, i, d, hd, f, fd, F, L => by
    have no : ∀ {vs H Q E}, spF (cnF P w K fs G cl 0) i d.ps.length vs H Q E → False := fun {vs H Q E} h => by
      obtain ⟨F, xs, _, _, _, _, z⟩ := h
      exact z
    exact ⟨fun vs H Q E h => (no h).elim, fun A outer s H args us vs Q E _ _ _ _ h => (no h).elim⟩
  | n + 1, i, d, hd, f, fd, F, L => by
    obtain ⟨g, hg, hc⟩ := all2_get ck hd
    obtain ⟨h1, h2⟩ := andS hc
    obtain ⟨h2, h3⟩ := andS h2
    obtain ⟨h3, h4⟩ := andS h3
    obtain ⟨h4, h5⟩ := andS h4
    obtain ⟨h5, h6⟩ := andS h5
    have e5 := dec h5
    have e6 := dec h6
    have S := fnScB_ok h2
    obtain ⟨oc, od, dV, kV, doc, pm, an, cdv, ct, osl, rfl, lk, hcd, _, _⟩ := F.ex
    refine fn_of (k := 3 * n + 2) lk hcd S (fun vs H Q E h => spF_len h) fun A outer s H vs Q E hr hsp => ?_
    obtain ⟨F0, xs, t0, s0, dt, hl, hsp⟩ := hsp
    have ctx : Ctx T d.z (cnF P w K fs G cl n) (3 * n) (wE E) (cxOf (L2.CX P w) P w K mg base d.N d.x (defScope d.st) f cdv A outer s H E) :=
      { fit := ⟨rfl, rfl, rfl⟩
        calm := rfl
        hN := rfl
        nd := S.nd
        sc := rfl
        kd := S.kind
        fn := fun _ _ => rfl
        room := hr
        tk := L2.takes_of rfl rfl rfl rfl
        cal := fun j x np h => by
          rw [B.fn, List.getElem?_map] at h
          cases q : ds[j]? with
          | none => rw [q] at h; cases h
          | some d' =>
            rw [q] at h
            cases h
            obtain ⟨f', fd', F', m', L'⟩ := B.def_ d' (List.mem_of_getElem? q)
            refine ⟨f', fd', d'.ps, table B ck n j d' q f' fd' F' L', m', F'.kp, F'.bindsN fun kV doc pm an cdv ct us hu => ?_⟩
            obtain ⟨g', hg', hc'⟩ := all2_get ck q
            obtain ⟨_, k2⟩ := andS hc'
            obtain ⟨_, k3⟩ := andS k2
            obtain ⟨k3, k4⟩ := andS k3
            obtain ⟨k4, _⟩ := andS k4
            obtain ⟨as, ha, hps⟩ := anyS k3
            have hps := dec hps
            have k4 := nodupB_ok k4
            rw [← hps] at hu k4 ⊢
            exact bind_plain (plainA_eq ha) rfl (by rw [hu, List.length_map]) k4
        free := B.free
        con := B.con
        glen := B.glen
        lam := fun h => by
          obtain ⟨cc, Q, a1, a2, a3, a4⟩ := L h
          exact ⟨cc, Q, a1, a2, a3, a4⟩ }
    refine ⟨tB (cnF P w K fs G cl n) E H F0 g.body, okB ctx (L2.passes_of rfl) g.body (defBody d.st) h1 F0, startE g xs, F0, start_rel dt s0 t0 (by rw [hl, e5]) e6, ?_⟩
    have ec : (cnF P w K fs G cl (n + 1)).C i xs = (exB (callF fs G n) G g.body (startE g xs)).bind fun r => match r with
        | .nx _ => .ok .none
        | .rt d => .ok d
        | .ct _ => .bad := by
      show callF fs G (n + 1) i xs = _
      rw [callF, hg]
      show (if xs.length = g.np then _ else _) = _
      rw [if_pos (by rw [hl, e5])]
      try rfl
    rw [ec] at hsp
    show WS (exB (callF fs G n) G g.body (startE g xs)) E cl H _
    cases q : exB (callF fs G n) G g.body (startE g xs) with
    | bad => rw [q] at hsp; exact hsp
    | exc k => rw [q] at hsp; exact hsp
    | ok r =>
      rw [q] at hsp
      cases r with
      | nx env => exact fun σ H' F' r => hsp _ _ _ r.x .non
      | rt d => exact fun v H' F' x y => hsp _ _ _ x y
      | ct env => exact hsp.elim
end
end SH

set_option Elab.async false
set_option linter.all false
set_option maxRecDepth 100000
set_option maxHeartbeats 4000000
/-! From the head's facts to the law's end. -/
namespace SH
open PySem PySem.Spec PyProof.Rows L2
def defD (d : FD) : He.DefD := ⟨(d.x, none), d.x, d.x, defArgs d.st, defBody d.st, defScope d.st, [], []⟩
def faC : Str × D → He.Fa
  | (x, .int i) => .int x i
  | (x, .str z) => .str x z
  | (x, _) => .free x
def isCon : D → Bool
  | .int _ => true
  | .str _ => true
  | _ => false
def faOf (con free : List Str) (G : List D) (ds : List FD) : List He.Fa := (ds.map fun d => He.Fa.glo d.x) ++ (free.map He.Fa.free ++ (con.zip G).map faC)
def lams (ds : List FD) : List FD := ds.filter (·.lm)
def tfOf (ds : List FD) : List He.Defn := (lams ds).map fun d => (d.x, none)
def exOf (ds : List FD) (K : PySem.W.Frag) : Bool := (lams ds).all fun a => (lams ds).all fun b => !(decide ((He.cT K (a.x, none)).2 = (He.cT K (b.x, none)).2)) || decide (b.qual = a.qual)
def tbOf (ds : List FD) (K : PySem.W.Frag) : Tb := ⟨(lams ds).map fun d => ((He.cT K (d.x, none)).2, d.qual)⟩
section
variable {con free : List Str} {G : List D} {ds : List FD} {P : Program} {w : World} {K : PySem.W.Frag} {mg : Str → Option Value} {base h : Heap} {fs : List Fn}
theorem zip_mem {A B : Type} : ∀ {as : List A} {bs : List B} {i : Nat} {a : A} {b : B}, as[i]? = some a → bs[i]? = some b → (a, b) ∈ as.zip bs
  | [], _, i, _, _, h, _ => by simp at h
  | _ :: _, [], i, _, _, _, h => by simp at h
  | x :: as, y :: bs, 0, a, b, h1, h2 => by cases h1; cases h2; exact List.mem_cons_self ..
  | x :: as, y :: bs, i + 1, a, b, h1, h2 => List.mem_cons_of_mem _ (zip_mem (i := i) (by simpa using h1) (by simpa using h2))
theorem hd_of (X : K.In h) (N : h.Ns mainGlobals mg) (c : He.SaysX (faOf con free G ds) (ds.map defD) [] (tfOf ds) (exOf ds) w h K) (hG : G.all isCon = true) (hl : con.length = G.length)
    (TB : ∀ p ∈ (tfOf ds).map (He.cT K), LamX.TabB base mg p.1 p.2) : @Hd (tbOf ds K) ⟨ds.map fun d => (d.x, d.ps.length), con, free⟩ G ds P w K mg base := by
  letI : Tb := tbOf ds K
  refine ⟨rfl, fun d hd => ?_, fun x hx => ?_, fun i x d h1 h2 => ?_, hl⟩
  · obtain ⟨fd, F⟩ := c.t.d.defs (d := defD d) (List.mem_map.mpr ⟨d, hd, rfl⟩)
    have e := He.glo_ok X N (c.t.d.facts (f := .glo d.x) (List.mem_append_left _ (List.mem_map.mpr ⟨d, hd, rfl⟩)))
    refine ⟨_, fd, F, e, fun hlm => ?_⟩
    have hml : d ∈ lams ds := List.mem_filter.mpr ⟨hd, hlm⟩
    have hmt : (d.x, none) ∈ tfOf ds := List.mem_map.mpr ⟨d, hml, rfl⟩
    obtain ⟨oc, od, dV, kV, doc, pm, an, cdv, ct, osl, e1, lk, hcd, _, _⟩ := F.ex
    obtain ⟨cc, rfl⟩ := He.codeIn_ref hcd
    have e2 : fd.code = .ref cc := by rw [e1]
    have e3 := He.codeOf_eq (K := K) (p := (d.x, none)) lk e2
    refine ⟨cc, (He.cT K (d.x, none)).2, ?_, e2, List.mem_map.mpr ⟨d, hml, rfl⟩, fun p hp hpe => ?_⟩
    · have := TB _ (List.mem_map.mpr ⟨_, hmt, rfl⟩)
      rw [show (He.cT K (d.x, none)).1 = cc from e3] at this
      exact this
    · obtain ⟨b, hb, rfl⟩ := List.mem_map.mp hp
      have z := List.all_eq_true.mp (List.all_eq_true.mp c.more d hml) b hb
      have hpe : (He.cT K (b.x, none)).2 = (He.cT K (d.x, none)).2 := hpe
      rw [decide_eq_true hpe.symm] at z
      exact of_decide_eq_true (by simpa using z)
  · exact He.free_ok X N (c.t.d.facts (f := .free x) (List.mem_append_right _ (List.mem_append_left _ (List.mem_map.mpr ⟨x, hx, rfl⟩))))
  · have hm := c.t.d.facts (f := faC (x, d)) (List.mem_append_right _ (List.mem_append_right _ (List.mem_map.mpr ⟨_, zip_mem h1 h2, rfl⟩)))
    have hc := List.all_eq_true.mp hG d (List.mem_of_getElem? h2)
    cases d with
    | int i =>
      obtain ⟨t, e⟩ := He.int_ok X N hm
      exact ⟨.int i, _, fun _ => .int i, e, t, rfl⟩
    | str z =>
      obtain ⟨t, e⟩ := He.str_ok X N hm
      exact ⟨.str z, _, fun _ => .str z, e, t, rfl⟩
    | _ => cases hc
theorem dt_ints {F : Hp} : ∀ ns : List Int, DtAll P w K F (ns.map V.int) (ns.map PyData.int)
  | [] => .nil
  | n :: ns => .cons (.int n) (dt_ints ns)
theorem law_at {l : PySem.W.OpenLaw} {fa : Addr} {n i : Nat} {d : FD} (ck : ∀ [Tb], all2 (chkF ⟨ds.map fun d => (d.x, d.ps.length), con, free⟩) ds fs = true) (hG : G.all isCon = true) (hl : con.length = G.length) (hd : ds[i]? = some d) (hx : d.ps = [("script" : Str)])
    (plain : ∀ ns : List Int, ns.length ≤ 63 → (∀ z ∈ ns, Builtin.Int.intBits z ≤ 1048576) → callF fs G n i [.list (ns.map PyData.int)] = .ok (.bool true))
    (X : K.In h) (N : h.Ns mainGlobals mg) (hfa : mg d.x = some (.ref fa)) (c : He.SaysX (faOf con free G ds) (ds.map defD) [] (tfOf ds) (exOf ds) w h K) : LamX.LawAtS l w K (L2.CX l.prog w) (3 * n) 63 "script" mg fa h := by
  letI tb : Tb := tbOf ds K
  have hm := List.mem_of_getElem? hd
  obtain ⟨fd, F⟩ := c.t.d.defs (d := defD d) (List.mem_map.mpr ⟨d, hm, rfl⟩)
  have e := He.glo_ok X N (c.t.d.facts (f := .glo d.x) (List.mem_append_left _ (List.mem_map.mpr ⟨d, hm, rfl⟩)))
  have ef : He.fAd K (d.x, none) = fa := by
    have := e.symm.trans hfa
    injection this with this
    injection this
  refine ⟨fd, (tfOf ds).map (He.cT K), spF (cnF l.prog w K fs G (fun _ => .none) n) i 1, fun p hp => ?_, fun p hp => ?_, fun p hp => ?_, fun s u => ?_, fun H a ns hn hb hT hS => ?_, fun base XB NB TB => ?_⟩
  · obtain ⟨q, hq, rfl⟩ := List.mem_map.mp hp
    exact c.empty q hq
  · obtain ⟨q, hq, rfl⟩ := List.mem_map.mp hp
    exact c.out q hq
  · obtain ⟨q, hq, rfl⟩ := List.mem_map.mp hp
    exact PySem.W.codeHd_of_K X (c.hd q hq)
  · obtain ⟨g', hg', hc'⟩ := all2_get ck hd
    obtain ⟨_, k2⟩ := andS hc'
    obtain ⟨_, k3⟩ := andS k2
    obtain ⟨k3, k4⟩ := andS k3
    obtain ⟨k4, _⟩ := andS k4
    obtain ⟨as, ha, hps⟩ := anyS k3
    have hps := dec hps
    have k4 := nodupB_ok k4
    have b := FunD.bindsA (ps := d.ps) F (fun kV doc pm an cdv ct us hu => by
      rw [← hps] at hu k4 ⊢
      exact bind_plain (plainA_eq ha) rfl (by rw [hu, List.length_map]) k4) s [u] (by rw [hx]; rfl)
    rw [hx] at b
    exact b
  · have key : ∀ F : Hp, Sub F H → (∀ p ∈ tb.T, F p.1 = none) → SqL K F a (ns.map V.int) → spF (cnF l.prog w K fs G (fun _ => .none) n) i 1 [.ref a] H (fun v _ => v = .bl true) fun _ _ _ => False := fun F s t q => by
      refine ⟨F, [.list (ns.map PyData.int)], ⟨fun p hp => ?_, t⟩, s, .cons (.lst q (by rw [List.length_map, sizeLine_eq]; omega) (dt_ints ns)) .nil, rfl, ?_⟩
      · obtain ⟨d', hd', rfl⟩ := List.mem_map.mp hp
        exact LamX.TabS.nil (hT _ (List.mem_map.mpr ⟨(d'.x, none), List.mem_map.mpr ⟨d', hd', rfl⟩, rfl⟩))
      · show match callF fs G n i [.list (ns.map PyData.int)] with | .ok d => _ | .exc k => _ | .bad => _
        rw [plain ns hn hb]
        exact fun v H' F' x y => Dt.bl_inv y
    rcases hS with hS | hS
    · refine key (fun b => if b = a then H b else none) (fun b o z => ?_) (fun p hp => ?_) (.inl ?_)
      · by_cases hb : b = a
        · exact (if_pos hb).symm.trans z
        · exact nomatch (if_neg hb).symm.trans z
      · obtain ⟨d', hd', rfl⟩ := List.mem_map.mp hp
        have hq := hT _ (List.mem_map.mpr ⟨(d'.x, none), List.mem_map.mpr ⟨d', hd', rfl⟩, rfl⟩)
        refine if_neg fun z => ?_
        have z : (He.cT K (d'.x, none)).2 = a := z
        rw [z] at hq
        rcases hS with q | ⟨o, q⟩ <;> rw [hq] at q <;> cases q
      · rcases hS with q | ⟨o, q⟩
        · exact .inl ((if_pos rfl).trans q)
        · exact .inr ⟨o, (if_pos rfl).trans q⟩
    · exact key (fun _ => none) (fun b o z => by cases z) (fun _ _ => rfl) (.inr hS)
  · have B : Hd ⟨ds.map fun d => (d.x, d.ps.length), con, free⟩ G ds l.prog w K mg base := hd_of X N c hG hl TB
    have L : d.lm = true → ∃ cc Q, LamX.TabB base mg cc Q ∧ fd.code = .ref cc ∧ (Q, d.qual) ∈ Tb.T ∧ ∀ p ∈ Tb.T, p.1 = Q → p.2 = d.qual := fun hlm => by
      obtain ⟨f', fd', F', m', L'⟩ := B.def_ d hm
      have ee : fd' = fd := by
        have e5 : f' = He.fAd K (d.x, none) := by
          have := m'.symm.trans e
          injection this with this
          injection this
        obtain ⟨_, _, _, _, _, _, _, _, _, _, _, lk, _⟩ := F.ex
        obtain ⟨_, _, _, _, _, _, _, _, _, _, _, lk', _⟩ := F'.ex
        rw [e5, show He.fAd K (d.x, none) = He.fAd K (defD d).at_ from rfl, lk] at lk'
        injection lk' with z
        injection z with _ _ z
        injection z with z
        exact z.symm
      rw [← ee]
      exact L' hlm
    have t := table (fs := fs) (cl := fun _ => .none) B ck n i d hd _ fd F L
    rw [hx, show He.fAd K (defD d).at_ = fa from ef] at t
    exact t
theorem no_cx {P : Program} (w : World) (H : Hp) (s : Shared) (e : Value) (s' : Shared) (h : L2.CX P w [] H s (fun _ _ _ => False) e s') : False := by
  obtain ⟨a, B, H', cls, d, _, _, _, _, _, _, _, z⟩ := h
  exact z
end
end SH

set_option Elab.async false
set_option linter.all false
set_option maxRecDepth 100000
set_option maxHeartbeats 0
namespace SH.K42
open SH PySem L2
def top (i : Nat) : Stmt := PySem.Challenge.pw_saidheard_k42_five_neighbours.main.body.getD i (.Pass ⟨0, 0, 0, 0⟩)
def d_is_whole : FD := ⟨"is_whole", top 13, ["thing", "least", "most"], ["thing", "least", "most"], false⟩
def d_is_name : FD := ⟨"is_name", top 14, ["thing", "sign"], ["thing"], false⟩
def d_is_rising : FD := ⟨"is_rising", top 15, ["things", "one", "other"], ["things"], false⟩
def d_is_words : FD := ⟨"is_words", top 16, ["thing", "word"], ["thing"], false⟩
def d_is_part : FD := ⟨"is_part", top 17, ["words", "thing", "word"], ["words", "thing"], false⟩
def d_is_hearing_of : FD := ⟨"is_hearing_of", top 18, ["words", "thing", "part"], ["words", "thing"], false⟩
def d_plain_true : FD := ⟨"plain_true", top 19, ["words", "word"], ["words"], false⟩
def d_heard_as : FD := ⟨"heard_as", top 20, ["words", "hearing", "word"], ["words", "hearing", "word"], false⟩
def d_rising_of : FD := ⟨"rising_of", top 21, ["things", "thing"], ["things"], false⟩
def d_plain_chained : FD := ⟨"plain_chained", top 22, ["words", "one", "other", "made", "part", "second", "third"], ["words", "one", "other"], false⟩
def d_is_person : FD := ⟨"is_person", top 28, ["words", "thing"], ["words", "thing"], false⟩
def d_is_whisper : FD := ⟨"is_whisper", top 29, ["names", "thing", "part"], ["names", "thing"], false⟩
def d_is_crowd : FD := ⟨"is_crowd", top 30, ["thing", "names", "person", "whisper"], ["thing"], false⟩
def d_look_crowd : FD := ⟨"look_crowd", top 31, ["thing"], ["thing"], false⟩
def d_names_in : FD := ⟨"names_in", top 32, ["crowd", "person"], ["crowd"], false⟩
def d_look_person : FD := ⟨"look_person", top 33, ["crowd", "thing"], ["crowd", "thing"], false⟩
def d_hearing_of : FD := ⟨"hearing_of", top 34, ["crowd", "name"], ["crowd", "name"], false⟩
def d_by_order : FD := ⟨"by_order", top 35, ["things", "thing"], ["things"], false⟩
def d_with_heard : FD := ⟨"with_heard", top 36, ["have", "hearer", "word", "made"], ["have", "hearer", "word"], false⟩
def d_plain_evenings : FD := ⟨"plain_evenings", top 37, ["crowd", "source", "word", "rows", "beat", "when", "teller", "hearer", "hearing", "made", "heard", "now", "later", "one", "row"], ["crowd", "source", "word"], false⟩
def d_plain_note : FD := ⟨"plain_note", top 39, ["crowd", "evening", "goal", "whisper", "heard"], ["crowd", "evening", "goal"], false⟩
def d_no_twice : FD := ⟨"no_twice", top 40, ["rows", "row"], ["rows"], false⟩
def d_are_notes : FD := ⟨"are_notes", top 41, ["crowd", "goal", "thing", "heard", "whisper"], ["crowd", "goal", "thing"], false⟩
def d_look_notes : FD := ⟨"look_notes", top 42, ["crowd", "goal", "thing"], ["crowd", "goal", "thing"], false⟩
def d_look_ends : FD := ⟨"look_ends", top 43, ["crowd", "source", "goal"], ["crowd", "source", "goal"], false⟩
def d_all_evenings : FD := ⟨"all_evenings", top 44, ["crowd", "source", "word"], ["crowd", "source"], false⟩
def d_can_be_said : FD := ⟨"can_be_said", top 45, ["crowd", "source", "goal", "noted", "made", "word", "one"], ["crowd", "source", "goal", "noted"], false⟩
def d_notes_ahead : FD := ⟨"notes_ahead", top 47, ["crowd", "source", "goal", "beat", "early", "made", "word", "k", "whisper", "one"], ["crowd", "source", "goal", "beat"], false⟩
def d_pairs_tied : FD := ⟨"pairs_tied", top 48, ["words", "seen", "made", "k", "one", "other", "look"], ["words", "seen"], false⟩
def d_plain_ties : FD := ⟨"plain_ties", top 49, ["crowd", "source", "goal"], ["crowd", "source", "goal"], false⟩
def d_ties : FD := ⟨"ties", top 50, ["crowd", "source", "goal"], ["crowd", "source", "goal"], false⟩
def d_lots_in : FD := ⟨"lots_in", top 52, ["words", "many", "made", "k", "word", "more"], ["words", "many"], false⟩
def d_pairs_in : FD := ⟨"pairs_in", top 53, ["lot"], ["lot"], false⟩
def d_is_free : FD := ⟨"is_free", top 54, ["lot", "tied", "pair"], ["lot", "tied"], false⟩
def d_greatest_by : FD := ⟨"greatest_by", top 55, ["words", "tied", "many", "lot"], ["words", "tied"], false⟩
def d_greatest_lot : FD := ⟨"greatest_lot", top 56, ["crowd", "source", "goal"], ["crowd", "source", "goal"], false⟩
def d_do_bar : FD := ⟨"do_bar", top 57, ["words", "pairs", "many", "lot"], ["words", "pairs", "many"], false⟩
def d_is_pair : FD := ⟨"is_pair", top 58, ["words", "thing"], ["words", "thing"], false⟩
def d_is_bars : FD := ⟨"is_bars", top 59, ["crowd", "source", "goal", "many", "thing", "tied", "pair"], ["crowd", "source", "goal", "many", "thing"], false⟩
def d_lists_of : FD := ⟨"lists_of", top 60, ["things", "many", "made", "k", "thing", "more"], ["things", "many"], false⟩
def d_bars : FD := ⟨"bars", top 61, ["crowd", "source", "goal", "tied", "many", "size", "some"], ["crowd", "source", "goal"], false⟩
def d_all_tied : FD := ⟨"all_tied", top 62, ["words", "tied", "made", "many", "lot", "pair"], ["words", "tied"], false⟩
def d_does_cover : FD := ⟨"does_cover", top 63, ["words", "lots", "word", "lot"], ["words", "lots"], false⟩
def d_least_cover : FD := ⟨"least_cover", top 64, ["crowd", "source", "goal", "every", "size", "some"], ["crowd", "source", "goal"], false⟩
def d_is_cover : FD := ⟨"is_cover", top 65, ["crowd", "source", "goal", "thing", "tied", "lot", "pair"], ["crowd", "source", "goal", "thing"], false⟩
def d_look_lot : FD := ⟨"look_lot", top 66, ["crowd", "lot"], ["crowd", "lot"], false⟩
def d_all_notes_of : FD := ⟨"all_notes_of", top 67, ["crowd", "source", "goal", "made", "word", "one"], ["crowd", "source", "goal"], false⟩
def d_table : FD := ⟨"table", top 68, ["crowd", "source", "goal", "lot", "made", "rows", "word", "noted", "one", "other"], ["crowd", "source", "goal", "lot"], true⟩
def d_is_row : FD := ⟨"is_row", top 71, ["crowd", "thing", "names", "name"], ["crowd", "thing"], false⟩
def d_look_row : FD := ⟨"look_row", top 72, ["crowd", "row"], ["crowd", "row"], false⟩
def d_plain_along : FD := ⟨"plain_along", top 73, ["crowd", "row", "made", "name"], ["crowd", "row"], false⟩
def d_tied_by : FD := ⟨"tied_by", top 74, ["words", "hearing", "word", "part"], ["words", "hearing"], false⟩
def d_does_forget : FD := ⟨"does_forget", top 75, ["words", "hearing", "tied", "pair"], ["words", "hearing"], false⟩
def d_lot_along : FD := ⟨"lot_along", top 76, ["crowd", "row"], ["crowd", "row"], false⟩
def d_rows_made : FD := ⟨"rows_made", top 77, ["crowd", "words", "start", "found", "line", "at", "name", "here", "there"], ["crowd"], false⟩
def d_forgetting : FD := ⟨"forgetting", top 78, ["crowd", "hearing", "row"], ["crowd"], false⟩
def d_lasting : FD := ⟨"lasting", top 79, ["crowd", "tied", "hearing", "pair"], ["crowd"], false⟩
def d_ties_ahead : FD := ⟨"ties_ahead", top 81, ["crowd", "source", "goal", "beat"], ["crowd", "source", "goal", "beat"], false⟩
def d_read_from : FD := ⟨"read_from", top 82, ["crowd", "source", "goal", "lot", "made", "some", "beat", "tied"], ["crowd", "source", "goal", "lot"], false⟩
def d_best_goal : FD := ⟨"best_goal", top 83, ["crowd", "source", "many", "rows", "name", "beat"], ["crowd", "source", "many"], false⟩
def d_law_pick : FD := ⟨"_law_pick", top 85, ["script", "k", "many", "cell", "drawn", "rest", "again"], ["script", "k", "many"], false⟩
def d_law : FD := ⟨"law", top 86, ["script", "names", "ring", "people", "crowd", "due", "told", "twice", "row", "lot", "rows", "words", "many", "k", "word", "noted"], ["script"], false⟩
def ds : List FD := [d_is_whole, d_is_name, d_is_rising, d_is_words, d_is_part, d_is_hearing_of, d_plain_true, d_heard_as, d_rising_of, d_plain_chained, d_is_person, d_is_whisper, d_is_crowd, d_look_crowd, d_names_in, d_look_person, d_hearing_of, d_by_order, d_with_heard, d_plain_evenings, d_plain_note, d_no_twice, d_are_notes, d_look_notes, d_look_ends, d_all_evenings, d_can_be_said, d_notes_ahead, d_pairs_tied, d_plain_ties, d_ties, d_lots_in, d_pairs_in, d_is_free, d_greatest_by, d_greatest_lot, d_do_bar, d_is_pair, d_is_bars, d_lists_of, d_bars, d_all_tied, d_does_cover, d_least_cover, d_is_cover, d_look_lot, d_all_notes_of, d_table, d_is_row, d_look_row, d_plain_along, d_tied_by, d_does_forget, d_lot_along, d_rows_made, d_forgetting, d_lasting, d_ties_ahead, d_read_from, d_best_goal, d_law_pick, d_law]
def con : List Str := ["SMALL", "MOST_WORDS", "LONGEST", "MOST_PEOPLE", "MOST_WHISPERS", "LAST_BEAT", "MOST_EVENINGS", "MOST_HEARINGS"]
def free : List Str := ["all", "any", "bool", "dict", "enumerate", "int", "isinstance", "len", "list", "max", "min", "range", "sorted", "str", "tuple", "zip"]
theorem ck [Tb] : all2 (chkF ⟨ds.map fun d => (d.x, d.ps.length), con, free⟩) ds fns = true := by kernel_rfl
end SH.K42

set_option Elab.async false
set_option linter.all false
set_option maxRecDepth 100000
set_option maxHeartbeats 0
namespace SH.K42
open SH PySem PySem.Spec PyProof.Rows L2
def loose0 : List Str := ["HearError", "NoCrowd", "NoPerson", "NoNotes", "NoLot", "NoRow", "NoNumber", "TooGreat", "SMALL", "MOST_WORDS", "LONGEST", "is_whole", "is_name", "is_rising", "is_words", "is_part", "is_hearing_of", "plain_true", "heard_as", "rising_of", "plain_chained", "MOST_PEOPLE", "MOST_WHISPERS", "LAST_BEAT", "MOST_EVENINGS", "is_person", "is_whisper", "is_crowd", "look_crowd", "names_in"]
def loose1 : List Str := ["look_person", "hearing_of", "by_order", "with_heard", "plain_evenings", "plain_note", "no_twice", "are_notes", "look_notes", "look_ends", "all_evenings", "can_be_said", "notes_ahead", "pairs_tied", "plain_ties", "ties", "lots_in", "pairs_in", "is_free", "greatest_by", "greatest_lot", "do_bar", "is_pair", "is_bars", "lists_of", "bars", "all_tied", "does_cover", "least_cover", "is_cover"]
def loose2 : List Str := ["look_lot", "all_notes_of", "table", "MOST_HEARINGS", "is_row", "look_row", "plain_along", "tied_by", "does_forget", "lot_along", "rows_made", "forgetting", "lasting", "ties_ahead", "read_from", "best_goal", "_law_pick"]
def loose : List Str := loose0 ++ loose1 ++ loose2
abbrev R : PySem.W.OpenRow := PySem.W.OpenLaw.row PySem.Challenge.rw_saidheard_k42_five_neighbours
def faL : List He.Fa := faOf con free glo ds
def fnL : List He.DefD := ds.map defD
abbrev hk : PySem.W.Hook := He.hookX 2 faL fnL [] (tfOf ds) (exOf ds)
def ob (s : PySem.W.SharedT) : He.AlX := He.obsX 2 faL fnL [] (tfOf ds) (exOf ds) (HandSHeadRun.getT s)
theorem ob_eq (s : PySem.W.SharedT) : ob s = hk.obs s.abs := He.obsX_eq (HandSHeadRun.getT_eq s)
theorem opt_pair {S A B C : Type} {e : Option S} {f : S → A} {g : S → B} {h : S → C} {a : A} {b : B} {c : C} (h1 : e.map (fun s => (f s, g s)) = some (a, b)) (h2 : e.map h = some c) : e.map (fun s => (f s, g s, h s)) = some (a, b, c) := by
  cases e with
  | none => cases h1
  | some s =>
    have e1 : (f s, g s) = (a, b) := Option.some.inj h1
    have e2 : h s = c := Option.some.inj h2
    show some (f s, g s, h s) = _
    rw [e2, (Prod.mk.inj e1).1, (Prod.mk.inj e1).2]
theorem run1 (w : World) (os : OsState) : (HandSHeadRun.endF (HandSHeadRun.stepQ (HandSHeadRun.denQ HandSHeadRun.tabQ) R.prog w) 4000 R.prog w os).map (fun s => (HandSHeadRun.looksF R.prog (PySem.W.boot_heap w.params) s.abs, HandSHeadRun.seenQ (PySem.W.view R.prog [86]) loose (importedModules R.prog.main.body) (fun s => PySem.W.xlAt (PySem.W.view R.prog [86]) [] s && PySem.W.recOk R.toRowW.records s) s.abs)) = some (true, PySem.W.openGood (PySem.W.view R.prog [86]) loose) := by
  kernel_rfl
theorem run2 (w : World) (os : OsState) : (HandSHeadRun.endF (HandSHeadRun.stepQ (HandSHeadRun.denQ HandSHeadRun.tabQ) R.prog w) 4000 R.prog w os).map ob = some (hk.val w) := by
  kernel_rfl
theorem run (w : World) : HandSHeadRun.RunEq R (PySem.W.view R.prog [86]) hk ob 4000 loose w := by
  intro os
  have h := opt_pair (run1 w os) (run2 w os)
  exact h
end SH.K42

set_option Elab.async false
set_option linter.all false
set_option maxRecDepth 100000
set_option maxHeartbeats 0
open PySem PySem.W PySem.Calls PyProof.Rows
theorem PySem.Challenge.cw_saidheard_k42_five_neighbours_holds : PySem.Challenge.rw_saidheard_k42_five_neighbours.Holds := by
  w_on; o_law
  refine HandSHeadRun.head_any (r := OpenLaw.row PySem.Challenge.rw_saidheard_k42_five_neighbours) (q := view (OpenLaw.row PySem.Challenge.rw_saidheard_k42_five_neighbours).prog [86]) (H := SH.K42.hk) (ob := SH.K42.ob) (M := 4000) (loose := SH.K42.loose) (d := HandSHeadRun.topDef (OpenLaw.row PySem.Challenge.rw_saidheard_k42_five_neighbours).prog 86) (kwd := []) SH.K42.ob_eq
    (by kernel_rfl) (fun s => by kernel_rfl) SH.K42.run (by kernel_rfl) (by kernel_rfl) (by kernel_rfl) (by rfl) (by first | assumption | decide +kernel) (by decide +kernel) ⟨rfl, rfl, rfl, rfl, rfl, by decide +kernel⟩ ?hw ?hc
  case hw => w_witness2
  case hc =>
    refine LamX.walk_ofTsE (l := PySem.Challenge.rw_saidheard_k42_five_neighbours) (n := 63) (k := 3 * 12) (x := "script") (CX := fun w => L2.CX (PySem.Challenge.rw_saidheard_k42_five_neighbours).prog w) rfl (by decide) (by kernel_rfl) ⟨rfl, by decide, by decide⟩ ?F (fun w H s e s' z => SH.no_cx w H s e s' z)
    intro w mg fa h Y G hmg0
    obtain ⟨K, KX, c⟩ := Y
    have hmg : mg SH.K42.d_law.x = some (.ref fa) := by
      have e : (HandSHeadRun.topDef (OpenLaw.row PySem.Challenge.rw_saidheard_k42_five_neighbours).prog 86).name = SH.K42.d_law.x := by kernel_rfl
      rw [← e]
      exact hmg0
    exact ⟨K, KX, SH.law_at (con := SH.K42.con) (free := SH.K42.free) (G := SH.K42.glo) (ds := SH.K42.ds) (fs := SH.K42.fns) (n := 12) (i := 61) (d := SH.K42.d_law) SH.K42.ck (by decide +kernel) (by decide +kernel) rfl (by kernel_rfl) SH.K42.plain KX G hmg c⟩


