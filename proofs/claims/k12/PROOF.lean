import PyProof.Rows.All
import Wide.All
import OpenK.AllK
import Wide.FinOn
import PySem.Challenge.RW_passednames_k12_joinings_and_conditions
import HandS.ForMost
import KE.DataMinMax
import KE.SortData
import HandS.ForExc
import HandS.ExcInit
import HandS.CallSlots
import HandS.Lambda
import HandS.Defaults
import HandS.More
import HandS.ExcField
import HandS.TryMany
import HandS.TupAny
import HandS.TupMul
import HandS.Deep
import HandS.Small
import HandS.IsInst
import HandS.Conv
import HandS.Zip
import PyProof.ReprRoads
import HandS.Comp
import KE.GoesEnum
import KE.KDictZip
import PyProof.ListNew
import HandS.GenList
import HandS.SetFor
import HandS.TupSets
import HandS.Strs
import KE.KDictList
import HandS.Sort
import HandS.Style
import KE.KExcIs
import HandS.Ends
import HandS.HeadEnd
import HandS.Head2
import HandS.HeadHook1
import HandS.HeadHook2
import HandS.HeadHook3
import HandS.EndTab
import KE.KStateDown
import HandS.WordsExc
set_option Elab.async false
set_option linter.all false
/-! MnCore: a small language of plain data: values, stores, expressions, statements, and what they come to (an evaluator in plain Lean). -/
namespace MN
open PySem

/-- a key of a dict -/
abbrev Ky := Sum Int Str
/-- a value: plain data, or the place of an object that may change -/
inductive Val where
  | d (x : PyData)
  | loc (n : Nat)
/-- an object that may change -/
inductive MO where
  | lst (xs : List PyData)
  | dic (kvs : List (Ky × Val))
abbrev Store := List MO
/-- an exception: its class by name, its fields -/
structure Exc where
  cls : Str
  fs : List (Str × PyData)
inductive R (α : Type) where
  | ok (a : α) (m : Store)
  | ex (e : Exc) (m : Store)
  | no
def R.bind {α β : Type} (r : R α) (f : α → Store → R β) : R β := match r with
  | .ok a m => f a m
  | .ex e m => .ex e m
  | .no => .no

inductive BinOp where
  | add | sub | mul | fdiv | mod | pow
inductive CmpO where
  | eq | ne | lt | le | gt | ge | inn | notin | isN | notN
/-- built-in functions by values -/
inductive Bi where
  | len | isInt | isBool | isStr | isTup | isList | isDict | int | tuple | list | lstRange | tupRange | max1 | max2 | min2 | sum | repr | lstDict | dict
  | sset | setLen | lstEnum | min1 | sortD | dvals
/-- methods -/
inductive Mt where
  | append | pop | reverse | get1 | get2
inductive ItK where
  | seq | range1 | range2 | range3 | enum | zip
inductive CT where
  | v (i : Nat)
  | t (ts : List CT)
inductive CE where
  | var (i : Nat)
  | cst (d : PyData)
  | tup (es : List CE)
  | lst (es : List CE)
  | nlst (es : List CE)
  | ndic (ks : List Ky) (es : List CE)
  | op (o : BinOp) (a b : CE)
  /-- a + b, the new list being one that may change -/
  | nadd (a b : CE)
  | neg (a : CE)
  | cmp (o : CmpO) (a b : CE)
  | chain (o o' : CmpO) (a b c : CE)
  | and (a b : CE)
  | or (a b : CE)
  | not (a : CE)
  | ite (c a b : CE)
  | call (f : Str) (es : List CE)
  | bi (b : Bi) (es : List CE)
  | bloc (b : Bi) (es : List CE)
  | mt (m : Mt) (o : CE) (es : List CE)
  | idx (o i : CE)
  | gidx (tbl : List (Ky × PyData)) (i : CE)
  | gin (neg : Bool) (tbl : List (Ky × PyData)) (i : CE)
  | sl (o : CE) (lo hi : List CE)
  | comp (nl : Bool) (k : ItK) (its : List CE) (t : CT) (own : List Nat) (ifs : List CE) (elt : CE)
  | callL (f : Str) (body : CE)
  | act (i : Nat)
  | fld (i : Nat) (f : Str)
  | isx (i : Nat) (c : Str)
  /-- a value's truth, as a test -/
  | tst (a : CE)
inductive CS where
  | asg (t : CT) (e : CE)
  | par (i j : Nat) (a b : CE)
  | par3 (i j k : Nat) (a b c : CE)
  | set (o i e : CE)
  | ex (e : CE)
  | ret (e : CE)
  | ret0
  | ifs (c : CE) (a b : List CS)
  | for_ (k : ItK) (its : List CE) (t : CT) (b : List CS)
  | whl (c : CE) (b : List CS)
  | raise (c : Str) (es : List CE)
  | try_ (b : List CS) (hs : List (Str × Option Nat × List CS))
  /-- what is not covered (and not reached) -/
  | stuck
  | brk
  | cnt
  | pass

/-! ### values -/
def Val.data? : Val → Option PyData
  | .d x => some x
  | .loc _ => none
def Val.py? (m : Store) : Val → Option PyData
  | .d x => some x
  | .loc n => match m[n]? with
    | some (.lst xs) => some (.list xs)
    | _ => none
/-- the items of a list or a tuple -/
def Val.seq? (m : Store) (v : Val) : Option (List PyData) := match v.py? m with
  | some (.list xs) => some xs
  | some (.tuple xs) => some xs
  | _ => none
def datas? : List Val → Option (List PyData)
  | [] => some []
  | v :: vs => match v.data?, datas? vs with
    | some x, some xs => some (x :: xs)
    | _, _ => none
def SZ : Nat := 16777216
def okB (b : Bool) {α : Type} (r : R α) : R α := if b then r else .no
abbrev Bits : Int := 18446744073709551616
/-! ### operators -/
def mulOk (i j : Int) : Bool := (decide (-Bits < i) && decide (i < Bits)) || (decide (-Bits < j) && decide (j < Bits))
def rep (xs : List PyData) (k : Int) : List PyData := (List.replicate k.toNat xs).flatten
def binD (o : BinOp) (a b : PyData) (m : Store) : R Val := match o, a, b with
  | .add, .int i, .int j => .ok (.d (.int (i + j))) m
  | .add, .str x, .str y => if x.length + y.length ≤ SZ then .ok (.d (.str (x ++ y))) m else .no
  | .add, .tuple xs, .tuple ys => if xs.length + ys.length ≤ SZ then .ok (.d (.tuple (xs ++ ys))) m else .no
  | .add, .list xs, .list ys => if xs.length + ys.length ≤ SZ then .ok (.d (.list (xs ++ ys))) m else .no
  | .sub, .int i, .int j => .ok (.d (.int (i - j))) m
  | .mul, .int i, .int j => if mulOk i j = true then .ok (.d (.int (i * j))) m else .no
  | .mul, .tuple xs, .int k => if -100000 ≤ k ∧ k ≤ 100000 ∧ xs.length ≤ 100 then .ok (.d (.tuple (rep xs k))) m else .no
  | .mul, .list xs, .int k => if -100000 ≤ k ∧ k ≤ 100000 ∧ xs.length ≤ 100 then .ok (.d (.list (rep xs k))) m else .no
  | .fdiv, .int i, .int j => if 0 < j ∧ j < 1073741824 then .ok (.d (.int (i / j))) m else .no
  | .mod, .int i, .int j => if 0 < j then .ok (.d (.int (i % j))) m else .no
  | .pow, .int i, .int j => if 0 ≤ j ∧ j ≤ 1000 ∧ -1000 ≤ i ∧ i ≤ 1000 then .ok (.d (.int (i ^ j.toNat))) m else .no
  | _, _, _ => .no
def bin (o : BinOp) (a b : Val) (m : Store) : R Val := match a.py? m, b.py? m with
  | some x, some y => binD o x y m
  | _, _ => .no
def lookK {α : Type} (kvs : List (Ky × α)) (k : Ky) : Option α := (kvs.find? fun kv => decide (kv.1 = k)).map (·.2)
def putK {α : Type} (kvs : List (Ky × α)) (k : Ky) (v : α) : List (Ky × α) :=
  if kvs.any (fun kv => decide (kv.1 = k)) then kvs.map fun kv => if kv.1 = k then (kv.1, v) else kv else kvs ++ [(k, v)]
def keyOf : PyData → Option Ky
  | .int i => some (.inl i)
  | .str x => some (.inr x)
  | _ => none
def eqOk (x y : PyData) : Bool := decide (min x.depth y.depth ≤ 64)
def inD (neg : Bool) (x : PyData) (xs : List PyData) (m : Store) : R Val :=
  if decide (x.depth ≤ 64) = true ∨ decide (PyData.depthAll xs ≤ 63) = true then .ok (.d (.bool (if neg then !xs.any (fun y => PyData.eqv y x) else xs.any (fun y => PyData.eqv y x)))) m else .no
def inV (neg : Bool) (a b : Val) (m : Store) : R Val := match b with
  | .loc n => (match m[n]? with
    | some (.dic kvs) => (match a.data? with
      | some x => (match keyOf x with
        | some k => .ok (.d (.bool (if neg then !(lookK kvs k).isSome else (lookK kvs k).isSome))) m
        | none => .no)
      | none => .no)
    | some (.lst xs) => (match a.py? m with
      | some x => inD neg x xs m
      | none => .no)
    | none => .no)
  | .d (.list xs) => (match a.py? m with
      | some x => inD neg x xs m
      | none => .no)
  | .d (.tuple xs) => (match a.py? m with
      | some x => inD neg x xs m
      | none => .no)
  | _ => .no
def cmpI (o : CmpO) (i j : Int) : Bool := match o with
  | .lt => decide (i < j)
  | .le => decide (i ≤ j)
  | .gt => decide (j < i)
  | .ge => decide (j ≤ i)
  | _ => false
def cmpD (o : CmpO) (x y : PyData) (m : Store) : R Val := match o, x, y with
  | .eq, x, y => if eqOk x y = true then .ok (.d (.bool (PyData.eqv x y))) m else .no
  | .ne, x, y => if eqOk x y = true then .ok (.d (.bool (!PyData.eqv x y))) m else .no
  | .lt, .int i, .int j => .ok (.d (.bool (decide (i < j)))) m
  | .lt, .tuple xs, .tuple ys => if PySem.W.alike (.tuple xs) (.tuple ys) = true ∧ (PyData.tuple xs).depth ≤ 64 then .ok (.d (.bool (PySem.W.dataLt (.tuple xs) (.tuple ys)))) m else .no
  | .le, .int i, .int j => .ok (.d (.bool (decide (i ≤ j)))) m
  | .gt, .int i, .int j => .ok (.d (.bool (decide (j < i)))) m
  | .ge, .int i, .int j => .ok (.d (.bool (decide (j ≤ i)))) m
  | _, _, _ => .no
def isNone : Val → Bool
  | .d .none => true
  | _ => false
def cmp (o : CmpO) (a b : Val) (m : Store) : R Val := match o with
  | .inn => inV false a b m
  | .notin => inV true a b m
  | .isN => if isNone b = true then .ok (.d (.bool (isNone a))) m else .no
  | .notN => if isNone b = true then .ok (.d (.bool (!isNone a))) m else .no
  | o => match a.py? m, b.py? m with
    | some x, some y => cmpD o x y m
    | _, _ => .no
/-! ### places -/
def ixN (n : Nat) (i : Int) : Option Nat := if 0 ≤ i then (if i < n then some i.toNat else none) else if -(n : Int) ≤ i then some (i + n).toNat else none
def atI (xs : List PyData) (i : Int) : Option PyData := (ixN xs.length i).bind fun j => xs[j]?
def idx (o i : Val) (m : Store) : R Val := match o, i with
  | .d (.list xs), .d (.int i) => (match atI xs i with
    | some x => .ok (.d x) m
    | none => .no)
  | .d (.tuple xs), .d (.int i) => (match atI xs i with
    | some x => .ok (.d x) m
    | none => .no)
  | .loc n, .d k => (match m[n]? with
    | some (.lst xs) => (match k with
      | .int i => (match atI xs i with
        | some x => .ok (.d x) m
        | none => .no)
      | _ => .no)
    | some (.dic kvs) => (match keyOf k with
      | some k => (match lookK kvs k with
        | some v => .ok v m
        | none => .no)
      | none => .no)
    | none => .no)
  | _, _ => .no
def gidx (tbl : List (Ky × PyData)) (i : Val) (m : Store) : R Val := match i with
  | .d (.str x) => (match lookK tbl (.inr x) with
    | some v => .ok (.d v) m
    | none => .no)
  | _ => .no
def gin (neg : Bool) (tbl : List (Ky × PyData)) (i : Val) (m : Store) : R Val := match i with
  | .d (.str x) => .ok (.d (.bool (if neg then !(lookK tbl (.inr x)).isSome else (lookK tbl (.inr x)).isSome))) m
  | _ => .no
def sIx (n d : Nat) : Option Int → Nat
  | none => d
  | some v => if v < 0 then (v + (n : Int)).toNat else min v.toNat n
def cut (xs : List PyData) (lo hi : Option Int) : List PyData := (xs.drop (sIx xs.length 0 lo)).take (sIx xs.length xs.length hi - sIx xs.length 0 lo)
def part? : List Val → Option (Option Int)
  | [] => some none
  | [.d (.int i)] => some (some i)
  | _ => none
def slice (o : Val) (lo hi : Option Int) (m : Store) : R Val := match o.py? m with
  | some (.list xs) => .ok (.d (.list (cut xs lo hi))) m
  | some (.tuple xs) => .ok (.d (.tuple (cut xs lo hi))) m
  | _ => .no
/-! ### truth, built-in functions, methods -/
def truth (v : Val) (m : Store) : Option Bool := match v with
  | .d .none => some false
  | .d (.bool b) => some b
  | .d (.int i) => some (i != 0)
  | .d (.str x) => if x.length ≤ SZ then some (x.length != 0) else none
  | .d (.list xs) => some (!xs.isEmpty)
  | .d (.tuple xs) => some (!xs.isEmpty)
  | .d (.dict _) => none
  | .loc n => (match m[n]? with
    | some (.lst xs) => some (!xs.isEmpty)
    | some (.dic kvs) => some (!kvs.isEmpty)
    | none => none)
def ints? : List PyData → Option (List Int)
  | [] => some []
  | .int i :: r => (match ints? r with
    | some is => some (i :: is)
    | none => none)
  | _ :: _ => none
def maxL : Int → List Int → Int
  | a, [] => a
  | a, b :: r => maxL (if b > a then b else a) r
def rangeD (a b : Int) : List PyData := (List.range (b - a).toNat).map fun (i : Nat) => PyData.int (a + i)
/-- a, a - 1, .. down to b + 1 -/
def rangeU (a b : Int) : List PyData := (List.range (a - b).toNat).map fun (i : Nat) => PyData.int (a + (i : Int) * (-1))
def rgOk (a b : Int) : Bool := decide (-1000000 ≤ a) && decide (a ≤ 1000000) && decide (-1000000 ≤ b) && decide (b ≤ 1000000)
/-- ints in order, each once -/
def insI (k : Int) : List Int → List Int
  | [] => [k]
  | j :: r => if k < j then k :: j :: r else if k = j then j :: r else j :: insI k r
def ssetI (ns : List Int) : List Int := ns.foldr insI []
def enumFrom : Nat → List PyData → List PyData
  | _, [] => []
  | i, x :: xs => .tuple [.int i, x] :: enumFrom (i + 1) xs
def isK (b : Bi) (v : Val) (m : Store) : Option Bool := match b, v with
  | .isInt, .d (.int _) => some true
  | .isInt, .d (.bool _) => some true
  | .isInt, _ => some false
  | .isBool, .d (.bool _) => some true
  | .isBool, _ => some false
  | .isStr, .d (.str _) => some true
  | .isStr, _ => some false
  | .isTup, .d (.tuple _) => some true
  | .isTup, _ => some false
  | .isList, .d (.list _) => some true
  | .isList, .d _ => some false
  | .isList, .loc n => (match m[n]? with
    | some (.lst _) => some true
    | some (.dic _) => some false
    | none => none)
  | .isDict, .d _ => some false
  | .isDict, .loc n => (match m[n]? with
    | some (.lst _) => some false
    | some (.dic _) => some true
    | none => none)
  | _, _ => none
/-- what repr asks: small ints, a short text -/
def shOk (x : PyData) : Bool := x.showable && decide (x.shown.length ≤ SZ) && decide (x.depth ≤ 64)
/-- what may be compared by <: alike all, none of them None -/
def mmOk (xs : List PyData) : Bool := xs.all (fun a => xs.all (fun b => PySem.W.alike a b) && (match a with
  | .none => false
  | _ => true)) && decide (PyData.depthAll xs ≤ 64)
def maxX (xs : List PyData) (m : Store) : R Val := match xs with
  | [] => .no
  | y :: ys => if mmOk (y :: ys) = true then .ok (.d (PySem.W.maxD y ys)) m else .no
def minX (xs : List PyData) (m : Store) : R Val := match xs with
  | [] => .no
  | y :: ys => if mmOk (y :: ys) = true then .ok (.d (PySem.W.minD y ys)) m else .no
/-- tuples with something in them, or no tuples at all, or one thing -/
def srtOk (xs : List PyData) : Bool := decide (xs.length ≤ 1) || (xs.all fun x => match x with
  | .tuple (_ :: _) => true
  | _ => false) || (xs.all fun x => match x with
  | .tuple _ => false
  | _ => true)
def sortL (xs : List PyData) : List PyData := xs.mergeSort (PySem.W.dataLe false id)
def sortX (xs : List PyData) (m : Store) : R Val := if mmOk xs = true ∧ srtOk xs = true then .ok (.d (.list (sortL xs))) m else .no
def bi (b : Bi) (vs : List Val) (m : Store) : R Val := match b, vs with
  | .len, [.d (.str x)] => if x.length ≤ SZ then .ok (.d (.int x.length)) m else .no
  | .len, [.loc n] => (match m[n]? with
    | some (.lst xs) => .ok (.d (.int xs.length)) m
    | some (.dic kvs) => .ok (.d (.int kvs.length)) m
    | none => .no)
  | .len, [.d (.list xs)] => .ok (.d (.int xs.length)) m
  | .len, [.d (.tuple xs)] => .ok (.d (.int xs.length)) m
  | .int, [.d (.int i)] => .ok (.d (.int i)) m
  | .tuple, [v] => (match v.seq? m with
    | some xs => .ok (.d (.tuple xs)) m
    | none => .no)
  | .list, [v] => (match v.seq? m with
    | some xs => .ok (.d (.list xs)) m
    | none => .no)
  | .lstRange, [.d (.int n)] => if rgOk 0 n = true then .ok (.d (.list (rangeD 0 n))) m else .no
  | .lstRange, [.d (.int a), .d (.int n)] => if rgOk a n = true then .ok (.d (.list (rangeD a n))) m else .no
  | .tupRange, [.d (.int n)] => if rgOk 0 n = true then .ok (.d (.tuple (rangeD 0 n))) m else .no
  | .max1, [v] => (match v.py? m with
    | some (.list xs) => (match ints? xs with
      | some (a :: r) => .ok (.d (.int (maxL a r))) m
      | some [] => .no
      | none => maxX xs m)
    | _ => .no)
  | .min1, [v] => (match v.py? m with
    | some (.list xs) => minX xs m
    | _ => .no)
  | .max2, [.d (.int i), .d (.int j)] => .ok (.d (.int (if j > i then j else i))) m
  | .min2, [.d (.int i), .d (.int j)] => .ok (.d (.int (if j < i then j else i))) m
  | .sum, [v] => (match v.py? m with
    | some (.list xs) => (match ints? xs with
      | some is => .ok (.d (.int is.sum)) m
      | _ => .no)
    | _ => .no)
  | .repr, [v] => (match v.py? m with
    | some x => if shOk x = true then .ok (.d (.str x.shown)) m else .no
    | none => .no)
  | .sset, [v] => (match v.py? m with
    | some (.list xs) => (match ints? xs with
      | some is => if is.length ≤ 4000 ∧ (ssetI is).length < 64 then .ok (.d (.list ((ssetI is).map .int))) m else .no
      | none => .no)
    | _ => .no)
  | .setLen, [v] => (match v.py? m with
    | some (.list xs) => (match ints? xs with
      | some is => if is.length ≤ 4000 then .ok (.d (.int (ssetI is).length)) m else .no
      | none => .no)
    | _ => .no)
  | .lstEnum, [v] => (match v.py? m with
    | some (.list xs) => .ok (.d (.list (enumFrom 0 xs))) m
    | _ => .no)
  | .sortD, [v] => (match v.py? m with
    | some (.list xs) => sortX xs m
    | _ => .no)
  | .dvals, [v] => (match v with
    | .loc n => (match m[n]? with
      | some (.dic kvs) => (match datas? (kvs.map (·.2)) with
        | some xs => .ok (.d (.list xs)) m
        | none => .no)
      | _ => .no)
    | _ => .no)
  | b, [v] => (match isK b v m with
    | some k => .ok (.d (.bool k)) m
    | none => .no)
  | _, _ => .no
/-- the same, the new list (dict) being one that may change -/
def bloc (b : Bi) (vs : List Val) (m : Store) : R Val := match b, vs with
  | .list, [v] => (match v.seq? m with
    | some xs => .ok (.loc m.length) (m ++ [.lst xs])
    | none => .no)
  | .lstRange, [.d (.int n)] => if rgOk 0 n = true then .ok (.loc m.length) (m ++ [.lst (rangeD 0 n)]) else .no
  | .dict, [.loc n] => (match m[n]? with
    | some (.dic kvs) => .ok (.loc m.length) (m ++ [.dic kvs])
    | _ => .no)
  | _, _ => .no
def mt (k : Mt) (o : Val) (vs : List Val) (m : Store) : R Val := match k, o, vs with
  | .append, .loc n, [.d x] => (match m[n]? with
    | some (.lst xs) => if xs.length < SZ then .ok (.d .none) (m.set n (.lst (xs ++ [x]))) else .no
    | _ => .no)
  | .pop, .loc n, [] => (match m[n]? with
    | some (.lst xs) => (match xs[xs.length - 1]? with
      | some x => .ok (.d x) (m.set n (.lst xs.dropLast))
      | none => .no)
    | _ => .no)
  | .reverse, .loc n, [] => (match m[n]? with
    | some (.lst xs) => .ok (.d .none) (m.set n (.lst xs.reverse))
    | _ => .no)
  | .get1, .loc n, [.d k] => (match m[n]?, keyOf k with
    | some (.dic kvs), some k => .ok ((lookK kvs k).getD (.d .none)) m
    | _, _ => .no)
  | .get2, .loc n, [.d k, v] => (match m[n]?, keyOf k with
    | some (.dic kvs), some k => .ok ((lookK kvs k).getD v) m
    | _, _ => .no)
  | _, _, _ => .no
/-- the receiver is of the method's type -/
def mtOk (k : Mt) (o : Val) (m : Store) : Bool := match o with
  | .loc n => (match m[n]?, k with
    | some (.lst _), .append => true
    | some (.lst _), .pop => true
    | some (.lst _), .reverse => true
    | some (.dic _), .get1 => true
    | some (.dic _), .get2 => true
    | _, _ => false)
  | _ => false
def setItem (o i v : Val) (m : Store) : R Unit := match o, i, v with
  | .loc n, .d k, .d x => (match m[n]? with
    | some (.lst xs) => (match k with
      | .int i => (match ixN xs.length i with
        | some j => .ok () (m.set n (.lst (xs.set j x)))
        | none => .no)
      | _ => .no)
    | some (.dic kvs) => (match keyOf k with
      | some k => if kvs.length < SZ then .ok () (m.set n (.dic (putK kvs k (.d x)))) else .no
      | none => .no)
    | none => .no)
  | _, _, _ => .no
/-! ### frames, targets, what is walked -/
/-- what a name stands for: a value, or the exception that an except clause caught -/
inductive SV where
  | v (x : Val)
  | err (e : Exc)
  /-- the lambda that was handed in -/
  | lam
abbrev Fr := List (Option SV)
mutual
def asg : CT → Val → Fr → Option Fr
  | .v i, v, ρ => if i < ρ.length then some (ρ.set i (some (.v v))) else none
  | .t ts, v, ρ => match v with
    | .d (.tuple xs) => asgs ts xs ρ
    | _ => none
termination_by structural t => t
def asgs : List CT → List PyData → Fr → Option Fr
  | [], [], ρ => some ρ
  | t :: ts, x :: xs, ρ => match asg t (.d x) ρ with
    | some ρ => asgs ts xs ρ
    | none => none
  | _, _, _ => none
termination_by structural t => t
end
/-- what is walked: items, or the list at a place, as it stands at each turn -/
inductive Wk where
  | items (xs : List PyData)
  | dyn (n : Nat) (fuel : Nat)
  | no
def zipD : List PyData → List PyData → List PyData
  | x :: xs, y :: ys => .tuple [x, y] :: zipD xs ys
  | _, _ => []
def walk (k : ItK) (vs : List Val) (m : Store) : Wk := match k, vs with
  | .seq, [.d (.list xs)] => .items xs
  | .seq, [.d (.tuple xs)] => .items xs
  | .seq, [.loc n] => (match m[n]? with
    | some (.lst xs) => .dyn n (xs.length + 1)
    | _ => .no)
  | .range1, [.d (.int n)] => if rgOk 0 n = true then .items (rangeD 0 n) else .no
  | .range2, [.d (.int a), .d (.int n)] => if rgOk a n = true then .items (rangeD a n) else .no
  | .range3, [.d (.int a), .d (.int n), .d (.int c)] => if rgOk a n = true ∧ c = -1 then .items (rangeU a n) else .no
  | .enum, [.d (.list xs)] => .items (enumFrom 0 xs)
  | .enum, [.d (.tuple xs)] => .items (enumFrom 0 xs)
  | .zip, [.d (.list xs), .d (.list ys)] => .items (zipD xs ys)
  | .zip, [.d (.tuple xs), .d (.tuple ys)] => .items (zipD xs ys)
  | _, _ => .no
def wipe (ρ : Fr) : List Nat → Fr
  | [] => ρ
  | v :: vs => (wipe ρ vs).set v none
/-- values alone -/
def plainFr (ρ : Fr) : Bool := ρ.all fun s => match s with
  | some (.err _) => false
  | some .lam => false
  | _ => true
def noErr (ρ : Fr) : Bool := ρ.all fun s => match s with
  | some (.err _) => false
  | _ => true
/-! ### loops -/
def loopC (f : PyData → Store → R (Option PyData)) : List PyData → List PyData → Store → R (List PyData)
  | [], acc, m => .ok acc m
  | x :: xs, acc, m => (f x m).bind fun o m => match o with
    | none => loopC f xs acc m
    | some y => if acc.length < SZ then loopC f xs (acc ++ [y]) m else .no
def loopCD (f : PyData → Store → R (Option PyData)) (n : Nat) : Nat → Nat → List PyData → Store → R (List PyData)
  | 0, _, _, _ => .no
  | k + 1, i, acc, m => match m[n]? with
    | some (.lst xs) => (match xs[i]? with
      | none => .ok acc m
      | some x => (f x m).bind fun o m => match o with
        | none => loopCD f n k (i + 1) acc m
        | some y => if acc.length < SZ then loopCD f n k (i + 1) (acc ++ [y]) m else .no)
    | _ => .no
/-- what a statement comes to -/
inductive RS where
  | nx (ρ : Fr) (m : Store)
  | rt (v : Val) (m : Store)
  | bk (ρ : Fr) (m : Store)
  | ct (ρ : Fr) (m : Store)
  | ex (e : Exc) (ρ : Fr) (m : Store)
  | no
def RS.seq (r : RS) (f : Fr → Store → RS) : RS := match r with
  | .nx ρ m => f ρ m
  | r => r
def RS.of {α : Type} (r : R α) (ρ : Fr) (f : α → Store → RS) : RS := match r with
  | .ok a m => f a m
  | .ex e m => .ex e ρ m
  | .no => .no
/-- behind a turn -/
def RS.turn (r : RS) (f : Fr → Store → RS) : RS := match r with
  | .nx ρ m => f ρ m
  | .ct ρ m => f ρ m
  | .bk ρ m => .nx ρ m
  | r => r
def loopL (f : PyData → Fr → Store → RS) : List PyData → Fr → Store → RS
  | [], ρ, m => .nx ρ m
  | x :: xs, ρ, m => (f x ρ m).turn fun ρ m => loopL f xs ρ m
def loopD (f : PyData → Fr → Store → RS) (n : Nat) : Nat → Nat → Fr → Store → RS
  | 0, _, _, _ => .no
  | k + 1, i, ρ, m => match m[n]? with
    | some (.lst xs) => (match xs[i]? with
      | none => .nx ρ m
      | some x => (f x ρ m).turn fun ρ m => loopD f n k (i + 1) ρ m)
    | _ => .no
def loopW (c : Fr → Store → R Bool) (f : Fr → Store → RS) : Nat → Fr → Store → RS
  | 0, _, _ => .no
  | k + 1, ρ, m => RS.of (c ρ m) ρ fun b m => if b then (f ρ m).turn fun ρ m => loopW c f k ρ m else .nx ρ m
/-! ### expressions -/
/-- what calls come to (low: those made one frame deeper), what the lambda that was handed in comes to, the exception at hand -/
structure Cxt where
  call : Str → List Val → Store → R Val
  low : Str → List Val → Store → R Val
  callL : Str → ((Str → List Val → Store → R Val) → Store → R Val) → Store → R Val
  act : Store → R Val
  isE : Str → Str → Option Bool
  /-- a class's field that may be read -/
  ef : Str → Str → Bool
def toTruth (r : R Val) : R Bool := r.bind fun v m => match truth v m with
  | some b => .ok b m
  | none => .no
def toPart (r : R (List Val)) : R (Option Int) := r.bind fun vs m => match part? vs with
  | some l => .ok l m
  | none => .no
def noEx {α : Type} : R α → R α
  | .ex _ _ => .no
  | r => r
mutual
def evE (cx : Cxt) : CE → Fr → Store → R Val
  | .var i, ρ, m => (match ρ[i]? with
    | some (some (.v v)) => .ok v m
    | _ => .no)
  | .cst d, _, m => .ok (.d d) m
  | .tup es, ρ, m => (evEs cx es ρ m).bind fun vs m => match datas? vs with
    | some ds => if ds.length ≤ 1000 then .ok (.d (.tuple ds)) m else .no
    | none => .no
  | .lst es, ρ, m => (evEs cx es ρ m).bind fun vs m => match datas? vs with
    | some ds => if ds.length ≤ 1000 then .ok (.d (.list ds)) m else .no
    | none => .no
  | .nlst es, ρ, m => (evEs cx es ρ m).bind fun vs m => match datas? vs with
    | some ds => if ds.length ≤ 1000 then .ok (.loc m.length) (m ++ [.lst ds]) else .no
    | none => .no
  | .ndic ks es, ρ, m => (noEx (evEs cx es ρ m)).bind fun vs m => if ks.length = vs.length ∧ vs.length ≤ 15 then .ok (.loc m.length) (m ++ [.dic ((ks.zip vs).foldl (fun kvs p => putK kvs p.1 p.2) [])]) else .no
  | .op o a b, ρ, m => (evE cx a ρ m).bind fun x m => (evE cx b ρ m).bind fun y m => bin o x y m
  | .nadd a b, ρ, m => (evE cx a ρ m).bind fun x m => (evE cx b ρ m).bind fun y m => match x.py? m, y.py? m with
    | some (.list xs), some (.list ys) => if xs.length + ys.length ≤ SZ then .ok (.loc m.length) (m ++ [.lst (xs ++ ys)]) else .no
    | _, _ => .no
  | .neg a, ρ, m => (evE cx a ρ m).bind fun x m => match x with
    | .d (.int i) => .ok (.d (.int (-i))) m
    | _ => .no
  | .cmp o a b, ρ, m => (evE cx a ρ m).bind fun x m => (evE cx b ρ m).bind fun y m => cmp o x y m
  | .chain o o' a b c, ρ, m => (evE cx a ρ m).bind fun x m => (evE cx b ρ m).bind fun y m => (cmp o x y m).bind fun z m => match z with
    | .d (.bool true) => (evE cx c ρ m).bind fun w m => cmp o' y w m
    | .d (.bool false) => .ok (.d (.bool false)) m
    | _ => .no
  | .and a b, ρ, m => (evE cx a ρ m).bind fun x m => match x with
    | .d (.bool true) => evE cx b ρ m
    | .d (.bool false) => .ok (.d (.bool false)) m
    | _ => .no
  | .or a b, ρ, m => (evE cx a ρ m).bind fun x m => match x with
    | .d (.bool false) => evE cx b ρ m
    | .d (.bool true) => .ok (.d (.bool true)) m
    | _ => .no
  | .not a, ρ, m => (evE cx a ρ m).bind fun x m => match x with
    | .d (.bool c) => .ok (.d (.bool (!c))) m
    | _ => .no
  | .ite c a b, ρ, m => (evT cx c ρ m).bind fun k m => if k then evE cx a ρ m else evE cx b ρ m
  | .call f es, ρ, m => (evEs cx es ρ m).bind fun vs m => cx.call f vs m
  | .bi b es, ρ, m => (evEs cx es ρ m).bind fun vs m => bi b vs m
  | .bloc b es, ρ, m => (evEs cx es ρ m).bind fun vs m => bloc b vs m
  | .mt k o es, ρ, m => (evE cx o ρ m).bind fun x m => if mtOk k x m = true then (evEs cx es ρ m).bind fun vs m => mt k x vs m else .no
  | .idx o i, ρ, m => (evE cx o ρ m).bind fun x m => (evE cx i ρ m).bind fun y m => idx x y m
  | .gidx t i, ρ, m => (evE cx i ρ m).bind fun y m => gidx t y m
  | .gin n t i, ρ, m => (evE cx i ρ m).bind fun y m => gin n t y m
  | .sl o lo hi, ρ, m => (evE cx o ρ m).bind fun x m => (toPart (evEs cx lo ρ m)).bind fun l m => (toPart (evEs cx hi ρ m)).bind fun h m => slice x l h m
  | .tst _, _, _ => .no
  | .comp nl k its t own ifs elt, ρ, m => (evEs cx its ρ m).bind fun vs m =>
    let f : PyData → Store → R (Option PyData) := fun x m => match asg t (.d x) (wipe ρ own) with
      | none => .no
      | some ρ1 => noEx ((evTs cx ifs ρ1 m).bind fun b m => if b then (evE cx elt ρ1 m).bind fun y m => (match y with
        | .d y => .ok (some y) m
        | .loc _ => .no) else .ok none m)
    (match walk k vs m with
    | .items xs => loopC f xs [] m
    | .dyn n fuel => loopCD f n fuel 0 [] m
    | .no => .no).bind fun ys m => if nl then .ok (.loc m.length) (m ++ [MO.lst ys]) else .ok (.d (.list ys)) m
  | .callL f body, ρ, m => if plainFr ρ = true then cx.callL f (fun call m => evE { cx with call := call } body ρ m) m else .no
  | .act i, ρ, m => (match ρ[i]? with
    | some (some .lam) => cx.act m
    | _ => .no)
  | .fld i f, ρ, m => (match ρ[i]? with
    | some (some (.err e)) => if cx.ef e.cls f = true then (match e.fs.lookup f with
      | some x => .ok (.d x) m
      | none => .no) else .no
    | _ => .no)
  | .isx i c, ρ, m => (match ρ[i]? with
    | some (some (.err e)) => (match cx.isE e.cls c with
      | some b => .ok (.d (.bool b)) m
      | none => .no)
    | _ => .no)
termination_by structural e => e
def evT (cx : Cxt) : CE → Fr → Store → R Bool
  | .and a b, ρ, m => (evT cx a ρ m).bind fun x m => if x then evT cx b ρ m else .ok false m
  | .or a b, ρ, m => (evT cx a ρ m).bind fun x m => if x then .ok true m else evT cx b ρ m
  | .not a, ρ, m => (evT cx a ρ m).bind fun x m => .ok (!x) m
  | .cmp o a b, ρ, m => ((evE cx a ρ m).bind fun x m => (evE cx b ρ m).bind fun y m => cmp o x y m).bind fun v m => match v with
    | .d (.bool c) => .ok c m
    | _ => .no
  | .chain o o' a b c, ρ, m => ((evE cx a ρ m).bind fun x m => (evE cx b ρ m).bind fun y m => (cmp o x y m).bind fun z m => match z with
    | .d (.bool true) => (evE cx c ρ m).bind fun w m => cmp o' y w m
    | .d (.bool false) => .ok (.d (.bool false)) m
    | _ => .no).bind fun v m => match v with
    | .d (.bool c) => .ok c m
    | _ => .no
  | .gin n t i, ρ, m => ((evE cx i ρ m).bind fun y m => gin n t y m).bind fun v m => match v with
    | .d (.bool c) => .ok c m
    | _ => .no
  | .tst a, ρ, m => toTruth (evE cx a ρ m)
  | _, _, _ => .no
termination_by structural e => e
def evEs (cx : Cxt) : List CE → Fr → Store → R (List Val)
  | [], _, m => .ok [] m
  | e :: es, ρ, m => (evE cx e ρ m).bind fun v m => (evEs cx es ρ m).bind fun vs m => .ok (v :: vs) m
termination_by structural es => es
def evTs (cx : Cxt) : List CE → Fr → Store → R Bool
  | [], _, m => .ok true m
  | e :: es, ρ, m => (evT cx e ρ m).bind fun b m => if b then evTs cx es ρ m else .ok false m
termination_by structural es => es
end
/-! ### statements -/
/-- a clause's frame: the error under its name, if it has one -/
def exIn (i : Option Nat) (e : Exc) (ρ : Fr) : Fr := match i with
  | some i => ρ.set i (some (.err e))
  | none => ρ
def exOut (i : Option Nat) (ρ : Fr) : Fr := match i with
  | some i => ρ.set i none
  | none => ρ
def WFUEL : Nat := 1000000
mutual
def evS (cx : Cxt) : CS → Fr → Store → RS
  | .asg t e, ρ, m => RS.of (evE cx e ρ m) ρ fun v m => match asg t v ρ with
    | some ρ => .nx ρ m
    | none => .no
  | .par i j a b, ρ, m => RS.of (evE cx a ρ m) ρ fun v m => RS.of (evE cx b ρ m) ρ fun w m => if i < ρ.length ∧ j < ρ.length then .nx ((ρ.set i (some (.v v))).set j (some (.v w))) m else .no
  | .par3 i j k a b c, ρ, m => RS.of (evE cx a ρ m) ρ fun v m => RS.of (evE cx b ρ m) ρ fun w m => RS.of (evE cx c ρ m) ρ fun x m => if i < ρ.length ∧ j < ρ.length ∧ k < ρ.length then .nx (((ρ.set i (some (.v v))).set j (some (.v w))).set k (some (.v x))) m else .no
  | .set o i e, ρ, m => RS.of (evE cx e ρ m) ρ fun v m => RS.of (evE cx o ρ m) ρ fun x m => RS.of (evE cx i ρ m) ρ fun y m => RS.of (setItem x y v m) ρ fun _ m => .nx ρ m
  | .ex e, ρ, m => RS.of (evE cx e ρ m) ρ fun _ m => .nx ρ m
  | .ret e, ρ, m => RS.of (evE cx e ρ m) ρ fun v m => .rt v m
  | .ret0, _, m => .rt (.d .none) m
  | .ifs c a b, ρ, m => RS.of (evT cx c ρ m) ρ fun k m => if k then evSs cx a ρ m else evSs cx b ρ m
  | .for_ k its t b, ρ, m => RS.of (evEs cx its ρ m) ρ fun vs m =>
    let f : PyData → Fr → Store → RS := fun x ρ m => match asg t (.d x) ρ with
      | none => .no
      | some ρ1 => evSs cx b ρ1 m
    match walk k vs m with
    | .items xs => loopL f xs ρ m
    | .dyn n fuel => loopD f n fuel 0 ρ m
    | .no => .no
  | .whl c b, ρ, m => loopW (fun ρ m => evT cx c ρ m) (fun ρ m => evSs cx b ρ m) WFUEL ρ m
  | .raise c es, ρ, m => RS.of (evEs cx es ρ m) ρ fun vs m => RS.of (cx.call c vs m) ρ fun _ _ => .no
  | .try_ b hs, ρ, m => match evSs cx b ρ m with
    | .ex e ρ1 m1 => evHs cx e hs ρ1 m1
    | r => r
  | .brk, ρ, m => .bk ρ m
  | .cnt, ρ, m => .ct ρ m
  | .pass, ρ, m => .nx ρ m
  | .stuck, _, _ => .no
termination_by structural s => s
def evSs (cx : Cxt) : List CS → Fr → Store → RS
  | [], ρ, m => .nx ρ m
  | s :: ss, ρ, m => (evS cx s ρ m).seq fun ρ m => evSs cx ss ρ m
termination_by structural ss => ss
def evHs (cx : Cxt) (e : Exc) : List (Str × Option Nat × List CS) → Fr → Store → RS
  | [], ρ, m => .ex e ρ m
  | (c, i, s) :: hs, ρ, m => (match cx.isE e.cls c with
    | some true => (match evSs cx s (exIn i e ρ) m with
      | .nx ρ m => if noErr (exOut i ρ) = true then .nx (exOut i ρ) m else .no
      | .bk ρ m => if noErr (exOut i ρ) = true then .bk (exOut i ρ) m else .no
      | .ct ρ m => if noErr (exOut i ρ) = true then .ct (exOut i ρ) m else .no
      | .ex _ _ _ => .no
      | r => r)
    | some false => evHs cx e hs ρ m
    | none => .no)
termination_by structural hs => hs
end
/-! ### functions -/
structure FD where
  np : Nat
  nl : Nat
  dfl : List PyData
  body : List CS
  keep : Bool
  /-- an exception's class: the fields that its __init__ stores, in order -/
  exc : Option (List Str)
def leave (keep : Bool) (k : Nat) (v : Val) (m : Store) : R Val := if keep then .ok v m else match v with
  | .d x => .ok (.d x) (m.take k)
  | .loc n => if n < k then .ok (.loc n) (m.take k) else match m[n]? with
    | some (.lst xs) => .ok (.d (.list xs)) (m.take k)
    | _ => .no
def ret (keep : Bool) (k : Nat) : RS → R Val
  | .rt v m => leave keep k v m
  | .nx _ m => leave keep k (.d .none) m
  | .ex e _ m => .ex e (m.take k)
  | _ => .no
def fill (np : Nat) (dfl : List PyData) (vs : List Val) : Option (List Val) :=
  if vs.length ≤ np ∧ np ≤ vs.length + dfl.length then some (vs ++ (dfl.drop (vs.length + dfl.length - np)).map Val.d) else none
structure Tbl where
  fn : Str → Option FD
  isE : Str → Str → Option Bool
  ef : Str → Str → Bool
/-- a def's body is run, its calls coming to what cx says -/
def run (T : Tbl) (cx : Cxt) (f : Str) (vs : List Val) (m : Store) : R Val := match T.fn f with
  | none => .no
  | some fd => match fd.exc with
    | some fs => (match datas? vs with
      | some ds => if ds.length = fs.length then .ex ⟨f, fs.zip ds⟩ m else .no
      | none => .no)
    | none => (match fill fd.np fd.dfl vs with
      | none => .no
      | some vs => ret fd.keep m.length (evSs cx fd.body (vs.map (fun v => some (.v v)) ++ List.replicate (fd.nl - vs.length) none) m))
/-- .. of one parameter, to which a lambda is handed -/
def runL (T : Tbl) (cx : Cxt) (f : Str) (th : (Str → List Val → Store → R Val) → Store → R Val) (m : Store) : R Val := match T.fn f with
  | none => .no
  | some fd => match fd.exc with
    | some _ => .no
    | none => if fd.np = 1 then ret fd.keep m.length (evSs { cx with act := th cx.low } fd.body (some .lam :: List.replicate (fd.nl - 1) none) m) else .no
def cxt (T : Tbl) : Nat → Cxt
  | 0 => ⟨fun _ _ _ => .no, fun _ _ _ => .no, fun _ _ _ => .no, fun _ => .no, T.isE, T.ef⟩
  | n + 1 => ⟨run T (cxt T n), (cxt T n).call, (if n = 0 then fun _ _ _ => .no else runL T (cxt T n)), fun _ => .no, T.isE, T.ef⟩
end MN

set_option maxRecDepth 100000
set_option maxHeartbeats 2000000
/-! MnRep: how the plain values stand in the heap. -/
namespace MN
open PySem PySem.Spec PyProof.Rows L2

/-- a lambda that was handed in: its object, its code object and this one's name, the maker's frame -/
structure LamRec where
  f : Addr
  c : Addr
  q : Str
  ρ : Fr
  σ : L2.St
/-- the places of the store's objects, in order; and objects that are under way (a list that a comprehension fills) -/
structure BB where
  pos : List Addr
  out : List Addr
  /-- an exception that is at hand: its object, its dict, its class's name -/
  err : Option (Addr × Addr × Str) := none
  act : Option LamRec := none
instance : Membership Addr BB := ⟨fun β a => a ∈ β.pos ∨ a ∈ β.out⟩
instance : HAppend BB (List Addr) BB := ⟨fun β δ => ⟨β.pos ++ δ, β.out, β.err, β.act⟩⟩
theorem BB.app_nil (β : BB) : β ++ ([] : List Addr) = β := by
  show BB.mk (β.pos ++ []) β.out β.err β.act = β
  rw [List.append_nil]
theorem BB.app_assoc (β : BB) (δ ε : List Addr) : β ++ δ ++ ε = β ++ (δ ++ ε) := by
  show BB.mk (β.pos ++ δ ++ ε) β.out β.err β.act = BB.mk (β.pos ++ (δ ++ ε)) β.out β.err β.act
  rw [List.append_assoc]
theorem BB.mem_app {β : BB} {δ : List Addr} {a : Addr} : a ∈ β ++ δ ↔ a ∈ β ∨ a ∈ δ := by
  show (a ∈ β.pos ++ δ ∨ a ∈ β.out) ↔ (a ∈ β.pos ∨ a ∈ β.out) ∨ a ∈ δ
  rw [List.mem_append]
  constructor
  · rintro ((h | h) | h)
    · exact .inl (.inl h)
    · exact .inr h
    · exact .inl (.inr h)
  · rintro ((h | h) | h)
    · exact .inl (.inl h)
    · exact .inr h
    · exact .inl (.inr h)
mutual
inductive DP (K : PySem.W.Frag) (β : BB) (H : Hp) : PyData → V → Prop
  | non : DP K β H .none .non
  | bl (b : Bool) : DP K β H (.bool b) (.bl b)
  | int (i : Int) : DP K β H (.int i) (.int i)
  | str (x : Str) : PyData.strOk x = true → DP K β H (.str x) (.str x)
  | lst {a : Addr} {vs : List V} {ds : List PyData} : a ∉ β → Rd H a (.lst vs) → DPs K β H ds vs → DP K β H (.list ds) (.ref a)
  | tup {a : Addr} {vs : List V} {ds : List PyData} : SqT K H a vs → DPs K β H ds vs → DP K β H (.tuple ds) (.ref a)
inductive DPs (K : PySem.W.Frag) (β : BB) (H : Hp) : List PyData → List V → Prop
  | nil : DPs K β H [] []
  | cons {d : PyData} {ds : List PyData} {v : V} {vs : List V} : DP K β H d v → DPs K β H ds vs → DPs K β H (d :: ds) (v :: vs)
end
def RV (K : PySem.W.Frag) (β : BB) (H : Hp) : Val → V → Prop
  | .d x, v => DP K β H x v
  | .loc n, v => ∃ a, β.pos[n]? = some a ∧ v = .ref a
inductive RVs (K : PySem.W.Frag) (β : BB) (H : Hp) : List Val → List V → Prop
  | nil : RVs K β H [] []
  | cons {x : Val} {xs : List Val} {v : V} {vs : List V} : RV K β H x v → RVs K β H xs vs → RVs K β H (x :: xs) (v :: vs)
inductive RKs (K : PySem.W.Frag) (β : BB) (H : Hp) : List (Ky × Val) → List (Key × V) → Prop
  | nil : RKs K β H [] []
  | cons {k : Ky} {x : Val} {xs : List (Ky × Val)} {v : V} {vs : List (Key × V)} : RV K β H x v → RKs K β H xs vs → RKs K β H ((k, x) :: xs) ((k, v) :: vs)
def RO (K : PySem.W.Frag) (β : BB) (H : Hp) : MO → HO → Prop
  | .lst xs, .lst vs => DPs K β H xs vs
  | .dic kvs, .dK kws => RKs K β H kvs kws
  | _, _ => False
/-- an object's places are older than itself -/
def oldV (n : Nat) : Val → Bool
  | .d _ => true
  | .loc k => decide (k < n)
def oldB (n : Nat) : MO → Bool
  | .lst _ => true
  | .dic kvs => kvs.all fun p => oldV n p.2
structure TB where
  tb : List (Addr × Str)
  er : Option (Addr × Addr × Str) := none
  lam : Option LamRec := none
structure RepS (T : TB) (K : PySem.W.Frag) (β : BB) (H : Hp) (m : Store) : Prop where
  nd : β.pos.Nodup
  len : β.pos.length = m.length
  outs : ∀ a ∈ β.out, ∃ u, H a = some u ∧ ((∃ vs, u = .lst vs) ∨ ∃ kws, u = .dK kws)
  at_ : ∀ (n : Nat) (a : Addr) (o : MO), β.pos[n]? = some a → m[n]? = some o → ∃ u, H a = some u ∧ RO K β H o u ∧ oldB n o = true
  tabs : LamX.Tabs T.tb H
  er : β.err = T.er
  ac : β.act = T.lam
/-- from H to H1: the places δ are new, all else than the places β (and the tables) stays -/
structure Grow (β : BB) (H : Hp) (δ : List Addr) (H1 : Hp) : Prop where
  new : ∀ a ∈ δ, H a = none
  tup : ∀ a xs, H a = some (.tup xs) → H1 a = some (.tup xs)
  frz : ∀ a o u, H a = some (.frz o u) → H1 a = some (.frz o u)
  keep : ∀ a o, H a = some o → a ∉ β.pos → (∀ ps, o ≠ .tbl ps) → H1 a = some o
  tbl : ∀ a ps, H a = some (.tbl ps) → ∃ qs, H1 a = some (.tbl qs)

section
variable {T : TB} {K : PySem.W.Frag} {β : BB} {δ δ' γ : List Addr} {H H1 H2 : Hp} {m m1 : Store}
theorem Grow.refl : Grow β H [] H := ⟨fun _ h => absurd h (by simp), fun _ _ h => h, fun _ _ _ h => h, fun _ _ h _ _ => h, fun _ ps h => ⟨ps, h⟩⟩
theorem Grow.some_ (g : Grow β H δ H1) (hβ : ∀ a ∈ β.pos, ∃ o, H1 a = some o) {a : Addr} {o : HO} (h : H a = some o) (nt : ∀ ps, o ≠ .tbl ps) : ∃ o', H1 a = some o' := by
  by_cases ha : a ∈ β.pos
  · exact hβ a ha
  · exact ⟨o, g.keep a o h ha nt⟩
theorem SqT.grow {a : Addr} {vs : List V} (h : SqT K H a vs) (g : Grow β H δ H1) : SqT K H1 a vs := by
  rcases h with (h | ⟨o, h⟩) | h
  · exact .inl (.inl (g.tup _ _ h))
  · exact .inl (.inr ⟨o, g.frz _ _ _ h⟩)
  · exact .inr h
theorem Rd.growL {a : Addr} {vs : List V} (h : Rd H a (.lst vs)) (ha : a ∉ β) (g : Grow β H δ H1) : Rd H1 a (.lst vs) := by
  rcases h with h | ⟨o, h⟩
  · exact .inl (g.keep _ _ h (fun z => ha (.inl z)) (fun _ z => by cases z))
  · exact .inr ⟨o, g.frz _ _ _ h⟩
theorem Rd.some_ {a : Addr} {u : HO} (h : Rd H a u) : ∃ o, H a = some o := by
  rcases h with h | ⟨o, h⟩
  · exact ⟨_, h⟩
  · exact ⟨_, h⟩
mutual
theorem DP.grow (g : Grow β H δ H1) : ∀ {d : PyData} {v : V}, DP K β H d v → DP K (β ++ δ) H1 d v
  | _, _, .non => .non
  | _, _, .bl b => .bl b
  | _, _, .int i => .int i
  | _, _, .str x h => .str x h
  | _, _, .lst ha h hs => .lst (fun hm => by
      rcases BB.mem_app.mp hm with q | q
      · exact ha q
      · obtain ⟨o, e⟩ := Rd.some_ h
        rw [g.new _ q] at e
        cases e) (Rd.growL h ha g) (DPs.grow g hs)
  | _, _, .tup h hs => .tup (SqT.grow h g) (DPs.grow g hs)
theorem DPs.grow (g : Grow β H δ H1) : ∀ {ds : List PyData} {vs : List V}, DPs K β H ds vs → DPs K (β ++ δ) H1 ds vs
  | _, _, .nil => .nil
  | _, _, .cons h hs => .cons (DP.grow g h) (DPs.grow g hs)
end
theorem RV.grow (g : Grow β H δ H1) {x : Val} {v : V} (h : RV K β H x v) : RV K (β ++ δ) H1 x v := by
  cases x with
  | d x => exact DP.grow g h
  | loc n =>
    obtain ⟨a, e, h⟩ := h
    refine ⟨a, ?_, h⟩
    show (β.pos ++ δ)[n]? = some a
    rw [List.getElem?_append_left (List.getElem?_eq_some_iff.mp e).1]
    exact e
theorem RVs.grow (g : Grow β H δ H1) : ∀ {xs : List Val} {vs : List V}, RVs K β H xs vs → RVs K (β ++ δ) H1 xs vs
  | _, _, .nil => .nil
  | _, _, .cons h hs => .cons (RV.grow g h) (RVs.grow g hs)
theorem RKs.grow (g : Grow β H δ H1) : ∀ {xs : List (Ky × Val)} {vs : List (Key × V)}, RKs K β H xs vs → RKs K (β ++ δ) H1 xs vs
  | _, _, .nil => .nil
  | _, _, .cons h hs => .cons (RV.grow g h) (RKs.grow g hs)
theorem RO.grow (g : Grow β H δ H1) {o : MO} {u : HO} (h : RO K β H o u) : RO K (β ++ δ) H1 o u := by
  cases o with
  | lst xs =>
    cases u with
    | lst vs => exact DPs.grow g (show DPs K β H xs vs from h)
    | _ => exact False.elim h
  | dic kvs =>
    cases u with
    | dK kws => exact RKs.grow g (show RKs K β H kvs kws from h)
    | _ => exact False.elim h
theorem RO.kind {o : MO} {u : HO} (h : RO K β H o u) : (∃ vs, u = .lst vs) ∨ ∃ kws, u = .dK kws := by
  cases o with
  | lst xs =>
    cases u with
    | lst vs => exact .inl ⟨_, rfl⟩
    | _ => exact False.elim h
  | dic kvs =>
    cases u with
    | dK kws => exact .inr ⟨_, rfl⟩
    | _ => exact False.elim h
theorem RepS.there (r : RepS T K β H m) {a : Addr} (h : a ∈ β) : ∃ u, H a = some u ∧ ((∃ vs, u = .lst vs) ∨ ∃ kws, u = .dK kws) := by
  rcases h with h | h
  rotate_left
  · exact r.outs a h
  obtain ⟨n, hn⟩ := List.getElem?_of_mem h
  have hl : n < m.length := by rw [← r.len]; exact (List.getElem?_eq_some_iff.mp hn).1
  obtain ⟨u, e, q, _⟩ := r.at_ n a m[n] hn (List.getElem?_eq_getElem hl)
  exact ⟨u, e, q.kind⟩
theorem Grow.none_of (g : Grow β H δ H1) (rep : RepS T K (β ++ δ) H1 m1) {a : Addr} (h : H1 a = none) : H a = none := by
  cases e : H a with
  | none => rfl
  | some o =>
    by_cases ha : a ∈ β.pos
    · obtain ⟨u, q, _⟩ := rep.there (BB.mem_app.mpr (.inl (.inl ha)))
      rw [h] at q
      cases q
    · by_cases ht : ∃ ps, o = .tbl ps
      · obtain ⟨ps, ht⟩ := ht
        subst ht
        obtain ⟨qs, q⟩ := g.tbl a ps e
        rw [h] at q
        cases q
      · have q := g.keep a o e ha fun ps z => ht ⟨ps, z⟩
        rw [h] at q
        cases q
theorem Grow.trans (g : Grow β H δ H1) (g' : Grow (β ++ δ) H1 δ' H2) (rep : RepS T K (β ++ δ) H1 m1) : Grow β H (δ ++ δ') H2 where
  new := fun a h => by
    rcases List.mem_append.mp h with q | q
    · exact g.new a q
    · exact g.none_of rep (g'.new a q)
  tup := fun a xs h => g'.tup a xs (g.tup a xs h)
  frz := fun a o u h => g'.frz a o u (g.frz a o u h)
  keep := fun a o h ha n => g'.keep a o (g.keep a o h ha n) (fun hm => by
    rcases (List.mem_append (s := β.pos) (t := δ)).mp hm with q | q
    · exact ha q
    · rw [g.new a q] at h
      cases h) n
  tbl := fun a ps h => by
    obtain ⟨qs, q⟩ := g.tbl a ps h
    exact g'.tbl a qs q

/-! ### a frame -/
/-- an exception's fields, in its own dict at dx -/
def ExcAt (K : PySem.W.Frag) (β : BB) (H : Hp) (e : Exc) (dx : Addr) : Prop := ∃ fs, H dx = some (.xd fs) ∧ ∀ f x, e.fs.lookup f = some x → ∃ v, fs.lookup f = some v ∧ DP K β H x v
theorem ExcAt.grow {e : Exc} {dx : Addr} (h : ExcAt K β H e dx) (hd : dx ∉ β.pos) (g : Grow β H δ H1) : ExcAt K (β ++ δ) H1 e dx := by
  obtain ⟨fs, q, r⟩ := h
  refine ⟨fs, g.keep _ _ q hd (fun _ z => by cases z), fun f x z => ?_⟩
  obtain ⟨v, e1, e2⟩ := r f x z
  exact ⟨v, e1, e2.grow g⟩
theorem RV.dp_iff {x : PyData} {v : V} : RV K β H (.d x) v ↔ DP K β H x v := Iff.rfl
/-- a frame of values -/
structure RF0 (K : PySem.W.Frag) (β : BB) (H : Hp) (ρ : Fr) (σ : L2.St) : Prop where
  len : ρ.length ≤ σ.length
  val : ∀ (i : Nat) (x : Val), ρ[i]? = some (some (.v x)) → ∃ v, σ[i]? = some (some v) ∧ RV K β H x v
/-- the lambda at hand stands as it was made -/
structure LamAt (K : PySem.W.Frag) (β : BB) (H : Hp) (L : LamRec) : Prop where
  code : H L.c = some (LamX.CodeO L.c L.q)
  out : L.c ∉ β
  fr : RF0 K β H L.ρ L.σ
structure RF (K : PySem.W.Frag) (β : BB) (H : Hp) (ρ : Fr) (σ : L2.St) : Prop where
  len : ρ.length ≤ σ.length
  val : ∀ (i : Nat) (x : Val), ρ[i]? = some (some (.v x)) → ∃ v, σ[i]? = some (some v) ∧ RV K β H x v
  err : ∀ (i : Nat) (e : Exc), ρ[i]? = some (some (.err e)) → ∃ a dd, β.err = some (a, dd, e.cls) ∧ σ[i]? = some (some (.ref a)) ∧ dd ∉ β.pos ∧ ExcAt K β H e dd
  lam : ∀ (i : Nat), ρ[i]? = some (some .lam) → ∃ L, β.act = some L ∧ σ[i]? = some (some (.ref L.f)) ∧ LamAt K β H L
theorem ExcAt.some_ {e : Exc} {dx : Addr} (h : ExcAt K β H e dx) : ∃ u, H dx = some u := by
  obtain ⟨fs, h, _⟩ := h
  exact ⟨_, h⟩
theorem RF0.grow {ρ : Fr} {σ : L2.St} (g : Grow β H δ H1) (h : RF0 K β H ρ σ) : RF0 K (β ++ δ) H1 ρ σ := ⟨h.len, fun i x e => by
  obtain ⟨v, q, r⟩ := h.val i x e
  exact ⟨v, q, r.grow g⟩⟩
theorem LamAt.grow {L : LamRec} (g : Grow β H δ H1) (h : LamAt K β H L) : LamAt K (β ++ δ) H1 L where
  code := g.keep _ _ h.code (fun z => h.out (.inl z)) (LamX.codeO_ne)
  out := fun z => by
    rcases BB.mem_app.mp z with z | z
    · exact h.out z
    · have := g.new _ z
      rw [h.code] at this
      cases this
  fr := h.fr.grow g
theorem RF.grow {ρ : Fr} {σ : L2.St} (g : Grow β H δ H1) (h : RF K β H ρ σ) : RF K (β ++ δ) H1 ρ σ where
  len := h.len
  val := fun i x e => by
    obtain ⟨v, q, r⟩ := h.val i x e
    exact ⟨v, q, r.grow g⟩
  err := fun i e q => by
    obtain ⟨a, dd, h1, h2, h3, h4⟩ := h.err i e q
    refine ⟨a, dd, h1, h2, fun z => ?_, h4.grow h3 g⟩
    rcases (List.mem_append (s := β.pos) (t := δ)).mp z with z | z
    · exact h3 z
    · obtain ⟨u, hu⟩ := h4.some_
      rw [g.new dd z] at hu
      cases hu
  lam := fun i q => by
    obtain ⟨L, h1, h2, h3⟩ := h.lam i q
    exact ⟨L, h1, h2, h3.grow g⟩
theorem getElem?_set_cases {α : Type} {l : List α} {i j : Nat} {x y : α} (h : (l.set i x)[j]? = some y) : (i = j ∧ i < l.length ∧ y = x) ∨ (i ≠ j ∧ l[j]? = some y) := by
  by_cases hj : i = j
  · subst hj
    by_cases hi : i < l.length
    · rw [List.getElem?_set_self hi] at h
      cases h
      exact .inl ⟨rfl, hi, rfl⟩
    · rw [List.getElem?_eq_none (by simpa using hi)] at h
      cases h
  · rw [List.getElem?_set_ne hj] at h
    exact .inr ⟨hj, h⟩
theorem RF.set {ρ : Fr} {σ : L2.St} {i : Nat} {x : Val} {v : V} (h : RF K β H ρ σ) (r : RV K β H x v) : RF K β H (ρ.set i (some (.v x))) (σ.set i (some v)) := ⟨by rw [List.length_set, List.length_set]; exact h.len, fun j y e => by
  rcases getElem?_set_cases e with ⟨rfl, hi, z⟩ | ⟨hj, e⟩
  · cases z
    exact ⟨v, List.getElem?_set_self (Nat.lt_of_lt_of_le hi h.len), r⟩
  · obtain ⟨w, q, s⟩ := h.val j y e
    exact ⟨w, by rw [List.getElem?_set_ne hj]; exact q, s⟩, fun j y e => by
  rcases getElem?_set_cases e with ⟨rfl, hi, z⟩ | ⟨hj, e⟩
  · cases z
  · obtain ⟨a, dd, h1, h2, h3⟩ := h.err j y e
    exact ⟨a, dd, h1, by rw [List.getElem?_set_ne hj]; exact h2, h3⟩, fun j e => by
  rcases getElem?_set_cases e with ⟨rfl, hi, z⟩ | ⟨hj, e⟩
  · cases z
  · obtain ⟨L, h1, h2, h3⟩ := h.lam j e
    exact ⟨L, h1, by rw [List.getElem?_set_ne hj]; exact h2, h3⟩⟩
theorem RF.unset {ρ : Fr} {σ : L2.St} {i : Nat} {o : Option V} (h : RF K β H ρ σ) : RF K β H (ρ.set i none) (σ.set i o) := ⟨by rw [List.length_set, List.length_set]; exact h.len, fun j y e => by
  rcases getElem?_set_cases e with ⟨rfl, hi, z⟩ | ⟨hj, e⟩
  · cases z
  · obtain ⟨w, q, s⟩ := h.val j y e
    exact ⟨w, by rw [List.getElem?_set_ne hj]; exact q, s⟩, fun j y e => by
  rcases getElem?_set_cases e with ⟨rfl, hi, z⟩ | ⟨hj, e⟩
  · cases z
  · obtain ⟨a, dd, h1, h2, h3⟩ := h.err j y e
    exact ⟨a, dd, h1, by rw [List.getElem?_set_ne hj]; exact h2, h3⟩, fun j e => by
  rcases getElem?_set_cases e with ⟨rfl, hi, z⟩ | ⟨hj, e⟩
  · cases z
  · obtain ⟨L, h1, h2, h3⟩ := h.lam j e
    exact ⟨L, h1, by rw [List.getElem?_set_ne hj]; exact h2, h3⟩⟩
theorem RF.wipe {ρ : Fr} {σ : L2.St} (h : RF K β H ρ σ) : ∀ vs : List Nat, RF K β H (MN.wipe ρ vs) (L2.wipe σ vs)
  | [] => h
  | v :: vs => (RF.wipe h vs).unset

/-! ### what a result asks of what follows -/
/-- the addresses of the exceptions' classes -/
abbrev CA := Str → Addr
def PostE (T : TB) (K : PySem.W.Frag) (C : CA) (β : BB) (H : Hp) (e : Exc) (m1 : Store) (QE : XK) : Prop :=
  ∀ δ H1 dx, Grow β H δ H1 → RepS T K (β ++ δ) H1 m1 → ExcAt K (β ++ δ) H1 e dx → QE (.ref (C e.cls)) (some dx) H1
def Post {α γ : Type} (T : TB) (K : PySem.W.Frag) (C : CA) (Rel : BB → Hp → α → γ → Prop) (β : BB) (H : Hp) (r : R α) (Q : γ → Hp → Prop) (QE : XK) : Prop := match r with
  | .ok a m1 => ∀ δ H1 x, Grow β H δ H1 → RepS T K (β ++ δ) H1 m1 → Rel (β ++ δ) H1 a x → Q x H1
  | .ex e m1 => PostE T K C β H e m1 QE
  | .no => False
section
variable {α α' ζ ζ' : Type} {C : CA} {Rel : BB → Hp → α → ζ → Prop} {Rel' : BB → Hp → α' → ζ' → Prop} {QE : XK}
theorem PostE.grow {e : Exc} {m2 : Store} (h : PostE T K C β H e m2 QE) (g : Grow β H δ H1) (rep : RepS T K (β ++ δ) H1 m1) : PostE T K C (β ++ δ) H1 e m2 QE := fun δ' H2 dx g' r x => by
  have r' : RepS T K (β ++ (δ ++ δ')) H2 m2 := by rw [← BB.app_assoc]; exact r
  have x' : ExcAt K (β ++ (δ ++ δ')) H2 e dx := by rw [← BB.app_assoc]; exact x
  exact h (δ ++ δ') H2 dx (g.trans g' rep) r' x'
theorem Post.grow {r : R α} {Q : ζ → Hp → Prop} (h : Post T K C Rel β H r Q QE) (g : Grow β H δ H1) (rep : RepS T K (β ++ δ) H1 m1) : Post T K C Rel (β ++ δ) H1 r Q QE := by
  cases r with
  | ok a m2 =>
    intro δ' H2 x g' r q
    have r' : RepS T K (β ++ (δ ++ δ')) H2 m2 := by rw [← BB.app_assoc]; exact r
    have q' : Rel (β ++ (δ ++ δ')) H2 a x := by rw [← BB.app_assoc]; exact q
    exact h (δ ++ δ') H2 x (g.trans g' rep) r' q'
  | ex e m2 => exact PostE.grow h g rep
  | no => exact h
theorem Post.mono {r : R α} {Q Q' : ζ → Hp → Prop} (h : Post T K C Rel β H r Q QE) (hq : ∀ x H1, Q x H1 → Q' x H1) : Post T K C Rel β H r Q' QE := by
  cases r with
  | ok a m2 => exact fun δ' H2 x g' r q => hq _ _ (h δ' H2 x g' r q)
  | ex e m2 => exact h
  | no => exact h
/-- one behind the other -/
theorem Post.bind {r : R α} {f : α → Store → R α'} {Q : ζ' → Hp → Prop} (h : Post T K C Rel' β H (r.bind f) Q QE) :
    Post T K C Rel β H r (fun x H1 => ∃ δ a m1, Grow β H δ H1 ∧ RepS T K (β ++ δ) H1 m1 ∧ Rel (β ++ δ) H1 a x ∧ Post T K C Rel' (β ++ δ) H1 (f a m1) Q QE) QE := by
  cases r with
  | ok a m1 => exact fun δ H1 x g r q => ⟨δ, a, m1, g, r, q, Post.grow (r := f a m1) h g r⟩
  | ex e m2 => exact h
  | no => exact h
end
/-- a value is told -/
theorem Post.ok0 {α ζ : Type} {C : CA} {Rel : BB → Hp → α → ζ → Prop} {QE : XK} {a : α} {x : ζ} {Q : ζ → Hp → Prop} (h : Post T K C Rel β H (.ok a m) Q QE) (rep : RepS T K β H m) (r : Rel β H a x) : Q x H :=
  h [] H x Grow.refl (by rw [BB.app_nil]; exact rep) (by rw [BB.app_nil]; exact r)
end
end MN

set_option maxRecDepth 100000
set_option maxHeartbeats 2000000
/-! MnCtx: defs that are called where no repr runs (the list of running guards is empty); a def's promise: it comes to what the evaluator says. -/
namespace MN
open PySem PySem.Spec PyProof.Rows L2
/-- what is asked of two classes of errors, so that a clause, and isinstance, tell b -/
structure IsC (K : PySem.W.Frag) (a c : Addr) (b : Bool) : Prop where
  exm : PySem.W.exmOne K (.ref a) (.ref c) = some b
  one : PySem.W.kitOne K (.ref a) (.ref c) = some b
  cl : (PySem.W.clsIn K a).isSome = true
  ga : PySem.W.findIn K (.ref a) "__getattribute__" = some (some (.builtin "BaseException.__getattribute__"))
  gt : PySem.W.findIn K (.ref a) "__getattr__" = some none
  sb : PySem.W.subIn K (.ref a) (.type "BaseException") = some true
  ha : PySem.W.findIn K (.ref a) "__class__" = some (some (.builtin "object.__class__"))
  hn : PySem.W.specialIn K (.builtin "object.__class__") "__get__" = some (some (.builtin "getset_descriptor.__get__"))
  tk : PySem.W.takesIn K (.builtin "object.__class__") = some true
  mr : PySem.W.mroIn K a (.type "object") = some true
def isCB (K : PySem.W.Frag) (a c : Addr) (b : Bool) : Bool := decide (PySem.W.exmOne K (.ref a) (.ref c) = some b) && (decide (PySem.W.kitOne K (.ref a) (.ref c) = some b) && ((PySem.W.clsIn K a).isSome && (decide (PySem.W.findIn K (.ref a) "__getattribute__" = some (some (.builtin "BaseException.__getattribute__"))) &&
  (decide (PySem.W.findIn K (.ref a) "__getattr__" = some none) && (decide (PySem.W.subIn K (.ref a) (.type "BaseException") = some true) && (decide (PySem.W.findIn K (.ref a) "__class__" = some (some (.builtin "object.__class__"))) &&
  (decide (PySem.W.specialIn K (.builtin "object.__class__") "__get__" = some (some (.builtin "getset_descriptor.__get__"))) && (decide (PySem.W.takesIn K (.builtin "object.__class__") = some true) && decide (PySem.W.mroIn K a (.type "object") = some true)))))))))
theorem isCB_ok {K : PySem.W.Frag} {a c : Addr} {b : Bool} (h : isCB K a c b = true) : IsC K a c b := by
  unfold isCB at h
  simp only [Bool.and_eq_true, decide_eq_true_eq] at h
  obtain ⟨h1, h2, h3, h4, h5, h6, h7, h8, h9, h10⟩ := h
  exact ⟨h1, h2, h3, h4, h5, h6, h7, h8, h9, h10⟩

/-- a def keeps a promise wherever no guard runs -/
structure FnG (P : Program) (w : World) (K : PySem.W.Frag) (mg : Str → Option Value) (base : Heap) (rp : Bool) (k : Nat) (f : Addr) (fd : FuncData) (ps : List Str) (sp : Sp) : Prop where
  len : ∀ vs H Q E, sp vs H Q E → vs.length = ps.length
  run : ∀ (A : Around) (outer : List Env) (s : Shared) (H : Hp) (args : Args) (us : List Value) (vs : List V) (Q : VK) (E : XK), Room k A → (rp = true → A.guards = some []) → Env0 P w K mg base A outer s H → BindsTo s fd args (ps.zip us) → Vals vs us → sp vs H Q E →
    codeAny (model P w) A (.call (.ref f) args) (CR (L2.CX P w) outer P w H s Q E) s
theorem fnG_of {P : Program} {w : World} {K : PySem.W.Frag} {mg : Str → Option Value} {base : Heap} {rp : Bool} {k : Nat} {x qual : Str} {params : Arguments} {body : List Stmt} {scope : Scope} {dvs : List V} {kws : List (Str × V)} {f : Addr} {fd : FuncData} {N ps : List Str} {sp : Sp}
    (F : FunD K x qual params body scope dvs kws f fd) (S : FnScope N ps scope) (len : ∀ vs H Q E, sp vs H Q E → vs.length = ps.length)
    (hbody : ∀ (cdv : Value), fd.code = cdv → ∀ (A : Around) (outer : List Env) (s : Shared) (H : Hp) (vs : List V) (Q : VK) (E : XK), Room k (A.deeper (envOfC qual scope s.heap.objs.size f cdv)) → (rp = true → A.guards = some []) → sp vs H Q E →
      ∃ t, PSs (cxOf (L2.CX P w) P w K mg base N qual scope f cdv A outer s H E) body t ∧ t { nx := fun _ H' => Q .non H', rt := Q } (start N vs) H) :
    FnG P w K mg base rp (k + 1) f fd ps sp := by
  obtain ⟨oc, od, dV, kV, doc, pm, an, cdv, ct, osl, rfl, lk, hcd, _, _⟩ := F.ex
  refine ⟨len, fun A outer s H args us vs Q E hr hg e0 hb r hsp => ?_⟩
  have hl := len _ _ _ _ hsp
  have KX : K.In s.heap := e0.mod.kin.keeps fun b o e => (e0.bs b o e).1
  have lim : s.heap.NoLimit := e0.mod.nolimit.keeps fun b o e => (e0.bs b o e).1
  have hkind : ∀ y ∈ ps.zip us, scope.names.lookup y.1 = some .local ∨ (scope.names.lookup y.1 = some .cell ∧ ((cellsFrom (s.heap.objs.size + 1) scope.names []).lookup y.1).isSome = true) := fun ⟨n, v⟩ hy => by
    rcases S.par n (List.of_mem_zip hy).1 with q | q
    · exact .inl q
    · exact .inr ⟨q, PySem.W.cellsFrom_some _ _ _ (.inl q)⟩
  refine codeAny_call_function hr.depth (KX _ _ lk) rfl S.co S.gen rfl (PySem.W.codeRec_of KX hcd) (hb _ _ _ _ ?_)
  refine wpAny_newFunctionEnv_cells S.kind hkind fun env he s1 x => ?_
  subst he
  refine ⟨lim.keeps x.toInCall.keep, codeAny_func ?_⟩
  obtain ⟨t, ht, hq⟩ := hbody cdv rfl A outer s H vs Q E (hr.deeper _) hg hsp
  have I : Inv (cxOf (L2.CX P w) P w K mg base N qual scope f cdv A outer s H E) [] (start N vs) H s1 := inv_start S hr.hd e0 hl r x
  refine wpAny_mono (ht.run [] s1 (start N vs) H _ I hq) (fun fl s' hs => ?_) fun e s' hs => hs
  have fin : ∀ {σ' : L2.St} {H' : Hp} {v : V} {u : Value}, Inv (cxOf (L2.CX P w) P w K mg base N qual scope f cdv A outer s H E) [] σ' H' s' → L2.RelV v u → Q v H' → L2.CE outer P w H s Q u s' :=
    fun {σ' H' v u} J rv q => ⟨v, H', J.os, J.bare, J.base, J.hok, rv, q⟩
  cases fl with
  | ret u =>
    obtain ⟨v, σ', H', J, rv, q⟩ := hs
    exact fin J rv q
  | next =>
    obtain ⟨σ', H', J, q⟩ := hs
    exact fin (v := V.non) (u := Value.none) J rfl q
  | brk =>
    obtain ⟨_, _, _, q⟩ := hs
    exact False.elim q
  | cont =>
    obtain ⟨_, _, _, q⟩ := hs
    exact False.elim q
section
variable {X : Cx} {rp : Bool} {k : Nat} {f : Addr} {fd : FuncData} {ps : List Str} {sp : Sp} {dvs : List V} {ds : List Value} {E : L2.St → XK} {x : Str} {p pos : Pos} {e : Expr} {es : List Expr} {t : TA}
theorem run_fnG {pins : List (Addr × Obj)} {σ : L2.St} {H : Hp} {s : Shared} {Q : VK} {us : List Value} {vs : List V} (F : FnG X.prog X.w X.K X.mg X.base rp k f fd ps sp) (hr : Room k X.A) (hgd : rp = true → X.A.guards = some []) (hb : Binds X.K fd ps ds) (hd : Vals dvs ds) (hx : PassesAt (L2.CX X.prog X.w) X σ (E σ))
    (I : Inv X pins σ H s) (r : Vals vs us) (h : sp (vs ++ dvs) H Q (E σ)) : wpAny (model X.prog X.w) X.A (call (.ref f) us) (EP X pins σ Q) X.xe s := by
  have r2 : Vals (vs ++ dvs) (us ++ ds) := r.append hd
  have hl : (us ++ ds).length = ps.length := by rw [← r2.length]; exact F.len _ _ _ _ h
  refine wpAny_call (codeAny_mono (F.run X.A X.stack s H ⟨us, []⟩ (us ++ ds) (vs ++ dvs) Q (E σ) hr hgd I.env0 (hb s us I.kIn hl) r2 h) fun r s' hq => ?_)
  cases r with
  | error e => exact hx pins H s e s' I hq
  | ok fl =>
    cases fl with
    | ret u => exact I.after hq
    | next => exact False.elim hq
    | brk => exact False.elim hq
    | cont => exact False.elim hq
theorem pe_callG (F : FnG X.prog X.w X.K X.mg X.base rp k f fd ps sp) (hr : Room k X.A) (hgd : rp = true → X.A.guards = some []) (hg : Gl X x) (hm : X.mg x = some (.ref f)) (hk : PySem.W.keepIn X.K (.ref f) = true) (hb : Binds X.K fd ps ds) (hd : Vals dvs ds) (hx : ∀ σ, PassesAt (L2.CX X.prog X.w) X σ (E σ))
    (ha : PA X (e :: es) t) (hdb : (x == ("__debug__" : Str)) = false) (he : starEach (e :: es) X.env = (false, eval e X.env) :: starEach es X.env) (hpl : (backTo pos (starEach es X.env)).any (·.1) = false) :
    PE X (.Call (.Name x p) (e :: es) [] pos) (tCallSD sp dvs E t) := by
  refine ⟨fun pins s σ H Q I h => ?_⟩
  refine wpAny_Call_Name_kw (ld_glob I hg hm ?_ hdb)
  refine PySem.W.callWith_K (h₀ := X.base) I.ok.mod.kin hk (thn (ha.run pos pins s σ H _ I h) fun us s1 ⟨vs, H1, I1, r, q⟩ => ⟨I1.kIn, ?_⟩) he hpl
  exact run_fnG F hr hgd hb hd (hx σ) I1 r q
theorem pe_callG0 (F : FnG X.prog X.w X.K X.mg X.base rp k f fd ps sp) (hr : Room k X.A) (hgd : rp = true → X.A.guards = some []) (hg : Gl X x) (hm : X.mg x = some (.ref f)) (hk : PySem.W.keepIn X.K (.ref f) = true) (hb : Binds X.K fd ps ds) (hd : Vals dvs ds) (hx : ∀ σ, PassesAt (L2.CX X.prog X.w) X σ (E σ))
    (hdb : (x == ("__debug__" : Str)) = false) : PE X (.Call (.Name x p) [] [] pos) (tCallSD sp dvs E tNil) := by
  refine ⟨fun pins s σ H Q I h => ?_⟩
  refine wpAny_Call_Name_kw (ld_glob I hg hm ?_ hdb)
  exact PySem.W.callWith_K0 I.kIn hk (run_fnG (us := []) F hr hgd hb hd (hx σ) I .nil h)
end

/-- what the call of a lambda that was handed in comes to -/
def tAct (TT : TB) (K : PySem.W.Frag) (C : CA) (E : L2.St → XK) (th : Store → R Val) (i : Nat) : TE := fun σ H Q => ∃ β m ρ, RepS TT K β H m ∧ RF K β H ρ σ ∧ Post TT K C (RV K) β H (match ρ[i]? with
  | some (some .lam) => th m
  | _ => .no) Q (E σ)
/-- a def of one parameter that gets a lambda: n bounds the depth of calls -/
def LamG (T : Tbl) (TT : TB) (C : CA) (P : Program) (w : World) (K : PySem.W.Frag) (mg : Str → Option Value) (base : Heap) (rp : Bool) (n : Nat) (x : Str) (g : Addr) (N : List Str) (sc : Scope) (p : Str) (cd : Value) : Prop :=
  ∀ (A : Around) (outer : List Env) (s : Shared) (H : Hp) (L : LamRec) (th : (Str → List Val → Store → R Val) → Store → R Val) (β : BB) (m : Store) (Q : VK) (E : XK), Room (n + 2) A → (rp = true → A.guards = some []) → Env0 P w K mg base A outer s H →
    LamAt K β H L → RepS ⟨TT.tb, none, some L⟩ K β H m →
    (∀ (W : WX) (pn : List (Addr × Obj)) (xe : Value → Shared → Prop) (p1 p2 : Pos), Takes ((cxOf (L2.CX P w) P w K mg base N x sc g cd A outer s H E).tr pn xe) W →
      PE ((cxOf (L2.CX P w) P w K mg base N x sc g cd A outer s H E).tr pn xe) (.Call (.Name p p1) [] [] p2) (tAct ⟨TT.tb, none, some L⟩ K C (WE W) (th (cxt T (n - 2)).call) 0)) →
    Post ⟨TT.tb, none, some L⟩ K C (RV K) β H ((cxt T n).callL x th m) Q E → codeAny (model P w) A (.call (.ref g) ⟨[.ref L.f], []⟩) (CR (L2.CX P w) outer P w H s Q E) s
/-- what a module's name stands for -/
inductive GK where
  | fn (np nd : Nat) (rp : Bool) | lam (rp : Bool) | exc (nf : Nat) | cls | con (d : PyData) | tbl (kvs : List (Ky × PyData)) | blt
/-- a def's promise -/
def spF (T : Tbl) (TT : TB) (C : CA) (K : PySem.W.Frag) (np n : Nat) (f : Str) : Sp := fun vs H Q E => vs.length = np ∧ ∃ β m xs, RepS TT K β H m ∧ RVs K β H xs vs ∧ Post TT K C (RV K) β H ((cxt T n).call f xs m) Q E
/-- a table of the module: a written dict -/
structure TblAt (K : PySem.W.Frag) (w : World) (d : Addr) (kvs : List (Ky × PyData)) : Prop where
  ex : ∃ es n, KDict K w d es n
  at_ : ∀ z : Str, ∃ r, PySem.W.nsIn K d z = some r ∧ (match lookK kvs (.inr z) with
    | none => r = none
    | some x => ∃ u v, r = some u ∧ RelV v u ∧ ∀ β H, DP K β H x v)
/-- what is known of the module's names: n bounds the depth of calls -/
structure GF (T : Tbl) (G : Str → Option GK) (TT : TB) (C : CA) (n : Nat) (P : Program) (w : World) (K : PySem.W.Frag) (mg : Str → Option Value) (base : Heap) : Prop where
  nd : ∀ x g, G x = some g → (x == ("__debug__" : Str)) = false ∧ x ≠ "__name__"
  fn : ∀ x np nd rp, G x = some (.fn np nd rp) → ∃ (d : FD) (a : Addr) (fd : FuncData) (ps : List Str), T.fn x = some d ∧ d.exc = none ∧ d.np = np ∧ d.dfl.length = nd ∧ mg x = some (.ref a) ∧ PySem.W.keepIn K (.ref a) = true ∧ ps.length = d.np ∧
    (∀ j, j ≤ d.np → d.np ≤ j + d.dfl.length → ∃ ds dvs, Binds K fd ps ds ∧ Vals dvs ds ∧ ∀ β H, DPs K β H (d.dfl.drop (j + d.dfl.length - d.np)) dvs) ∧
    FnG P w K mg base rp (n + 2) a fd ps (spF T TT C K d.np n x)
  lam : ∀ x rp, G x = some (.lam rp) → ∃ (g : Addr) (N : List Str) (sc : Scope) (p : Str) (cd : Value), mg x = some (.ref g) ∧ PySem.W.keepIn K (.ref g) = true ∧ N[0]? = some p ∧ Vis sc p ∧ (p == ("__debug__" : Str)) = false ∧ (p == ("__classdict__" : Str)) = false ∧
    LamG T TT C P w K mg base rp n x g N sc p cd
  exc : ∀ x nf, G x = some (.exc nf) → ∃ (d : FD) (fs : List Str) (fI : Addr) (fd : FuncData) (ps : List Str), T.fn x = some d ∧ d.exc = some fs ∧ fs.length = nf ∧ mg x = some (.ref (C x)) ∧ OexC K (C x) ∧ PySem.W.findIn K (.ref (C x)) "__init__" = some (some (.ref fI)) ∧ PySem.W.typeIn K (.ref fI) = some (.type "function") ∧
    Binds K fd ps [] ∧ ps.length = fs.length + 1 ∧ fs ≠ [] ∧ fs.Nodup ∧ fs.length ≤ 1000 ∧
    FnOk P w K mg base (L2.CX P w) 1 fI fd ps (fun vs H Q _ => ∃ (a : Addr) (ys : List V), vs = .ref a :: ys ∧ ys.length = fs.length ∧ H a = some (exo a (C x) none) ∧ ∀ dx, H dx = none → dx ≠ a → Q .non (upd (upd H dx (exd dx (fs.zip ys).reverse)) a (exo a (C x) (some dx))))
  con : ∀ x d, G x = some (.con d) → ∃ u v, mg x = some u ∧ RelV v u ∧ ∀ β H, DP K β H d v
  tbl : ∀ x kvs, G x = some (.tbl kvs) → ∃ d, mg x = some (.ref d) ∧ TblAt K w d kvs
  blt : ∀ x, G x = some .blt → mg x = none
  cls : ∀ x, (G x = some .cls ∨ ∃ nf, G x = some (.exc nf)) → mg x = some (.ref (C x))
  ef : ∀ c f, T.ef c f = true → XfC K (C c) ∧ PySem.W.findIn K (.ref (C c)) f = some none
  isE : ∀ c c' b, T.isE c c' = some b → IsC K (C c) (C c') b
/-- where code runs: n bounds the depth of calls, W takes what is raised -/
structure Ok (T : Tbl) (G : Str → Option GK) (TT : TB) (C : CA) (n : Nat) (X : Cx) : Prop where
  gf : GF T G TT C n X.prog X.w X.K X.mg X.base
  room : Room (n + 2) X.A
  guards : X.A.guards = some []
  nd : X.N.Nodup
  calm : X.calm = true
end MN

set_option maxRecDepth 100000
set_option maxHeartbeats 4000000
/-! MnOps: operators, comparisons by the evaluator's words. -/
namespace MN
open PySem PySem.Spec PyProof.Rows L2

/-! ### views -/
inductive PV (K : PySem.W.Frag) (β : BB) (H : Hp) : PyData → V → Prop
  | non : PV K β H .none .non
  | bl (b : Bool) : PV K β H (.bool b) (.bl b)
  | int (i : Int) : PV K β H (.int i) (.int i)
  | str (x : Str) : PyData.strOk x = true → PV K β H (.str x) (.str x)
  | lst {a : Addr} {vs : List V} {ds : List PyData} : Rd H a (.lst vs) → DPs K β H ds vs → PV K β H (.list ds) (.ref a)
  | tup {a : Addr} {vs : List V} {ds : List PyData} : SqT K H a vs → DPs K β H ds vs → PV K β H (.tuple ds) (.ref a)
section
variable {TT : TB} {K : PySem.W.Frag} {C : CA} {β : BB} {H : Hp} {m : Store}
theorem DP.pv {d : PyData} {v : V} (h : DP K β H d v) : PV K β H d v := by
  cases h with
  | non => exact .non
  | bl b => exact .bl b
  | int i => exact .int i
  | str x h => exact .str x h
  | lst _ h hs => exact .lst h hs
  | tup h hs => exact .tup h hs
mutual
theorem DP.dp : ∀ {d : PyData} {v : V}, DP K β H d v → L2.Dp K H v d
  | _, _, .non => .non
  | _, _, .bl b => .bl b
  | _, _, .int i => .int i
  | _, _, .str x _ => .str x
  | _, _, .lst _ h hs => .lst (.inl h) (DPs.dp hs)
  | _, _, .tup h hs => .tup h (DPs.dp hs)
theorem DPs.dp : ∀ {ds : List PyData} {vs : List V}, DPs K β H ds vs → L2.DpAll K H vs ds
  | _, _, .nil => .nil
  | _, _, .cons h hs => .cons (DP.dp h) (DPs.dp hs)
end
mutual
theorem DP.lay : ∀ {d : PyData} {v : V}, DP K β H d v → d.canLay0 = true
  | _, _, .non => rfl
  | _, _, .bl b => rfl
  | _, _, .int i => rfl
  | _, _, .str x h => by simpa [PyData.canLay0] using h
  | _, _, .lst _ _ hs => by simpa [PyData.canLay0] using DPs.lay hs
  | _, _, .tup _ hs => by simpa [PyData.canLay0] using DPs.lay hs
theorem DPs.lay : ∀ {ds : List PyData} {vs : List V}, DPs K β H ds vs → PyData.canLayAll0 ds = true
  | _, _, .nil => rfl
  | _, _, .cons h hs => by simp [PyData.canLayAll0, DP.lay h, DPs.lay hs]
end
theorem PV.dp {d : PyData} {v : V} (h : PV K β H d v) : L2.Dp K H v d := by
  cases h with
  | non => exact .non
  | bl b => exact .bl b
  | int i => exact .int i
  | str x h => exact .str x
  | lst h hs => exact .lst (.inl h) hs.dp
  | tup h hs => exact .tup h hs.dp
theorem PV.lay {d : PyData} {v : V} (h : PV K β H d v) : d.canLay0 = true := by
  cases h with
  | non => rfl
  | bl b => rfl
  | int i => rfl
  | str x h => simpa [PyData.canLay0] using h
  | lst h hs => simpa [PyData.canLay0] using hs.lay
  | tup h hs => simpa [PyData.canLay0] using hs.lay
theorem DPs.length : ∀ {ds : List PyData} {vs : List V}, DPs K β H ds vs → ds.length = vs.length
  | _, _, .nil => rfl
  | _, _, .cons _ hs => by rw [List.length_cons, List.length_cons, DPs.length hs]
theorem DPs.append : ∀ {ds es : List PyData} {vs ws : List V}, DPs K β H ds vs → DPs K β H es ws → DPs K β H (ds ++ es) (vs ++ ws)
  | _, _, _, _, .nil, h => h
  | _, _, _, _, .cons h hs, q => .cons h (DPs.append hs q)
theorem DPs.get : ∀ {ds : List PyData} {vs : List V} {i : Nat} {d : PyData}, DPs K β H ds vs → ds[i]? = some d → ∃ v, vs[i]? = some v ∧ DP K β H d v
  | _, _, _, _, .nil, e => by simp at e
  | _, _, 0, _, .cons h _, e => by simp at e; subst e; exact ⟨_, rfl, h⟩
  | _, _, i + 1, d, .cons _ hs, e => by
    obtain ⟨v, h1, h2⟩ := DPs.get (i := i) (d := d) hs (by simpa using e)
    exact ⟨v, by simpa using h1, h2⟩
theorem DPs.set {d : PyData} {v : V} (r : DP K β H d v) : ∀ {ds : List PyData} {vs : List V} (i : Nat), DPs K β H ds vs → DPs K β H (ds.set i d) (vs.set i v)
  | _, _, _, .nil => .nil
  | _, _, 0, .cons _ hs => .cons r hs
  | _, _, i + 1, .cons h hs => .cons h (DPs.set r i hs)
theorem DPs.take : ∀ {ds : List PyData} {vs : List V} (n : Nat), DPs K β H ds vs → DPs K β H (ds.take n) (vs.take n)
  | _, _, 0, _ => by simp only [List.take_zero]; exact .nil
  | _, _, _ + 1, .nil => .nil
  | _, _, n + 1, .cons h hs => .cons h (DPs.take n hs)
theorem DPs.drop : ∀ {ds : List PyData} {vs : List V} (n : Nat), DPs K β H ds vs → DPs K β H (ds.drop n) (vs.drop n)
  | _, _, 0, r => r
  | _, _, _ + 1, .nil => .nil
  | _, _, n + 1, .cons _ hs => DPs.drop n hs
theorem DPs.rep {ds : List PyData} {vs : List V} (h : DPs K β H ds vs) : ∀ k : Nat, DPs K β H (List.replicate k ds).flatten (List.replicate k vs).flatten
  | 0 => .nil
  | k + 1 => by
    rw [List.replicate_succ, List.replicate_succ, List.flatten_cons, List.flatten_cons]
    exact h.append (DPs.rep h k)
theorem DPs.reverse : ∀ {ds : List PyData} {vs : List V}, DPs K β H ds vs → DPs K β H ds.reverse vs.reverse
  | _, _, .nil => .nil
  | _, _, .cons h hs => by
    rw [List.reverse_cons, List.reverse_cons]
    exact (DPs.reverse hs).append (.cons h .nil)
theorem DPs.dropLast : ∀ {ds : List PyData} {vs : List V}, DPs K β H ds vs → DPs K β H ds.dropLast vs.dropLast
  | _, _, .nil => .nil
  | _, _, .cons h .nil => .nil
  | _, _, .cons h (.cons h2 hs) => .cons h (DPs.dropLast (.cons h2 hs))
theorem RepS.lst (r : RepS TT K β H m) {n : Nat} {a : Addr} {xs : List PyData} (e : β.pos[n]? = some a) (h : m[n]? = some (.lst xs)) : ∃ vs, H a = some (.lst vs) ∧ DPs K β H xs vs := by
  obtain ⟨u, e1, q, _⟩ := r.at_ n a _ e h
  cases u with
  | lst vs => exact ⟨vs, e1, q⟩
  | _ => exact False.elim q
theorem RepS.dic (r : RepS TT K β H m) {n : Nat} {a : Addr} {kvs : List (Ky × Val)} (e : β.pos[n]? = some a) (h : m[n]? = some (.dic kvs)) : ∃ kws, H a = some (.dK kws) ∧ RKs K β H kvs kws ∧ (kvs.all fun p => oldV n p.2) = true := by
  obtain ⟨u, e1, q, o⟩ := r.at_ n a _ e h
  cases u with
  | dK kws => exact ⟨kws, e1, q, o⟩
  | _ => exact False.elim q
theorem py_pv (r : RepS TT K β H m) {x : Val} {v : V} {d : PyData} (h : RV K β H x v) (e : x.py? m = some d) : PV K β H d v := by
  cases x with
  | d y =>
    cases e
    exact DP.pv h
  | loc n =>
    obtain ⟨a, q, rfl⟩ := h
    unfold Val.py? at e
    dsimp only at e
    cases hm : m[n]? with
    | none => rw [hm] at e; cases e
    | some o =>
      rw [hm] at e
      cases o with
      | lst xs =>
        cases e
        obtain ⟨vs, h1, h2⟩ := r.lst q hm
        exact .lst (.inl h1) h2
      | dic _ => cases e

/-! ### new objects -/
theorem Grow.fresh {p : Addr} {o : HO} (hp : H p = none) : Grow β H [] (upd H p o) :=
  ⟨fun _ h => absurd h (by simp), fun a xs h => by rw [upd_ne (ne_of_none h hp)]; exact h, fun a ob u h => by rw [upd_ne (ne_of_none h hp)]; exact h, fun a ob h _ _ => by rw [upd_ne (ne_of_none h hp)]; exact h, fun a ps h => ⟨ps, by rw [upd_ne (ne_of_none h hp)]; exact h⟩⟩
theorem tabs_fresh {p : Addr} {o : HO} (h : LamX.Tabs TT.tb H) (hp : H p = none) : LamX.Tabs TT.tb (upd H p o) := h.ext fun b ob e => by rw [upd_ne (ne_of_none e hp)]; exact e
theorem RepS.outs_fresh {p : Addr} {o : HO} (r : RepS TT K β H m) (hp : H p = none) : ∀ a ∈ β.out, ∃ u, upd H p o a = some u ∧ ((∃ vs, u = .lst vs) ∨ ∃ kws, u = .dK kws) := fun a ha => by
  obtain ⟨u, e, k⟩ := r.outs a ha
  exact ⟨u, by rw [upd_ne (ne_of_none e hp)]; exact e, k⟩
theorem RepS.fresh {p : Addr} {o : HO} (r : RepS TT K β H m) (hp : H p = none) : RepS TT K β (upd H p o) m where
  nd := r.nd
  len := r.len
  outs := r.outs_fresh hp
  at_ := fun n a ob e h => by
    obtain ⟨u, e1, q, old⟩ := r.at_ n a ob e h
    refine ⟨u, by rw [upd_ne (ne_of_none e1 hp)]; exact e1, ?_, old⟩
    have := RO.grow (Grow.fresh (o := o) hp) q
    rwa [BB.app_nil] at this
  tabs := tabs_fresh r.tabs hp
  er := r.er
  ac := r.ac
theorem DPs.fresh {p : Addr} {o : HO} {ds : List PyData} {vs : List V} (h : DPs K β H ds vs) (hp : H p = none) : DPs K β (upd H p o) ds vs := by
  have := h.grow (Grow.fresh (β := β) (o := o) hp)
  rwa [BB.app_nil] at this
theorem RepS.notin (r : RepS TT K β H m) {p : Addr} (hp : H p = none) : p ∉ β := fun h => by
  obtain ⟨u, e, _⟩ := r.there h
  rw [hp] at e
  cases e
theorem getElem?_snoc_lt {α : Type} {l : List α} {x y : α} {n : Nat} (h : (l ++ [x])[n]? = some y) : (n < l.length ∧ l[n]? = some y) ∨ (n = l.length ∧ x = y) := by
  by_cases hn : n < l.length
  · rw [List.getElem?_append_left hn] at h
    exact .inl ⟨hn, h⟩
  · rw [List.getElem?_append_right (Nat.le_of_not_lt hn)] at h
    cases e : n - l.length with
    | zero =>
      rw [e] at h
      exact .inr ⟨by omega, by simpa using h⟩
    | succ k =>
      rw [e] at h
      simp at h
/-- a new object that may change -/
theorem RepS.snoc {p : Addr} {ob : MO} {o : HO} (r : RepS TT K β H m) (hp : H p = none) (q : RO K β H ob o) (old : oldB m.length ob = true) : RepS TT K (β ++ [p]) (upd H p o) (m ++ [ob]) := by
  have g : Grow β H [p] (upd H p o) := ⟨fun a h => by
      rw [List.mem_singleton.mp h]
      exact hp, (Grow.fresh (β := β) hp).tup, (Grow.fresh (β := β) hp).frz, (Grow.fresh (β := β) hp).keep, (Grow.fresh (β := β) hp).tbl⟩
  refine ⟨show (β.pos ++ [p]).Nodup from ?_, show (β.pos ++ [p]).length = _ by rw [List.length_append, List.length_append, r.len]; rfl, r.outs_fresh hp, fun n a ob' e h => ?_, tabs_fresh r.tabs hp, r.er, r.ac⟩
  · refine List.nodup_append.mpr ⟨r.nd, by simp, fun a ha b hb => ?_⟩
    rw [List.mem_singleton.mp hb]
    exact fun z => r.notin hp (.inl (z ▸ ha))
  · rcases getElem?_snoc_lt (l := β.pos) e with ⟨h1, e1⟩ | ⟨h1, e1⟩
    · rcases getElem?_snoc_lt h with ⟨h2, e2⟩ | ⟨h2, e2⟩
      · obtain ⟨u, z1, z2, z3⟩ := r.at_ n a ob' e1 e2
        exact ⟨u, by rw [upd_ne (ne_of_none z1 hp)]; exact z1, z2.grow g, z3⟩
      · rw [r.len] at h1
        omega
    · subst e1
      rcases getElem?_snoc_lt h with ⟨h2, e2⟩ | ⟨h2, e2⟩
      · rw [r.len] at h1
        omega
      · subst e2
        subst h2
        exact ⟨o, upd_same, q.grow g, old⟩
variable {QE : XK} {Q : VK}
theorem Post.newT {ds : List PyData} {vs : List V} {p : Addr} (h : Post TT K C (RV K) β H (.ok (.d (.tuple ds)) m) Q QE) (rep : RepS TT K β H m) (r : DPs K β H ds vs) (hp : H p = none) : Q (.ref p) (upd H p (.tup vs)) :=
  h [] _ _ (Grow.fresh hp) (by rw [BB.app_nil]; exact rep.fresh hp) (by
    rw [BB.app_nil]
    exact .tup (.inl (.inl upd_same)) (r.fresh hp))
theorem Post.newL {ds : List PyData} {vs : List V} {p : Addr} (h : Post TT K C (RV K) β H (.ok (.d (.list ds)) m) Q QE) (rep : RepS TT K β H m) (r : DPs K β H ds vs) (hp : H p = none) : Q (.ref p) (upd H p (.lst vs)) :=
  h [] _ _ (Grow.fresh hp) (by rw [BB.app_nil]; exact rep.fresh hp) (by
    rw [BB.app_nil]
    exact .lst (rep.notin hp) (.inl upd_same) (r.fresh hp))
theorem Grow.snoc {p : Addr} {o : HO} (hp : H p = none) : Grow β H [p] (upd H p o) := ⟨fun a h => by
      rw [List.mem_singleton.mp h]
      exact hp, (Grow.fresh (β := β) hp).tup, (Grow.fresh (β := β) hp).frz, (Grow.fresh (β := β) hp).keep, (Grow.fresh (β := β) hp).tbl⟩
theorem Post.newM {ob : MO} {o : HO} {p : Addr} (h : Post TT K C (RV K) β H (.ok (.loc m.length) (m ++ [ob])) Q QE) (rep : RepS TT K β H m) (r : RO K β H ob o) (old : oldB m.length ob = true) (hp : H p = none) : Q (.ref p) (upd H p o) :=
  h [p] _ _ (Grow.snoc hp) (rep.snoc hp r old) ⟨p, by rw [← rep.len]; show (β.pos ++ [p])[β.pos.length]? = some p; simp, rfl⟩
/-- a told value that needs no object -/
theorem Post.val {x : Val} {v : V} (h : Post TT K C (RV K) β H (.ok x m) Q QE) (rep : RepS TT K β H m) (r : RV K β H x v) : Q v H := Post.ok0 h rep r
end

/-! ### operators by the evaluator -/
def rB (TT : TB) (K : PySem.W.Frag) (C : CA) (h : Val → Val → Store → R Val) : R2 := fun vx vy H Q => ∃ β m x y QE, RepS TT K β H m ∧ RV K β H x vx ∧ RV K β H y vy ∧ Post TT K C (RV K) β H (h x y m) Q QE
def toOp : BinOp → Operator
  | .add => .Add
  | .sub => .Sub
  | .mul => .Mult
  | .fdiv => .FloorDiv
  | .mod => .Mod
  | .pow => .Pow
section
variable {X : Cx} {TT : TB} {C : CA}
/-- list + list, each as it may be read -/
theorem op_catL : OpR X (binaryOp .Add) (fun x y H Q => ∃ l b xs zs, x = .ref l ∧ y = .ref b ∧ Rd H l (.lst xs) ∧ Rd H b (.lst zs) ∧ xs.length + zs.length ≤ sizeLine ∧ ∀ p, H p = none → Q (.ref p) (upd H p (.lst (xs ++ zs)))) := by
  intro pins s σ H x y v u Q I rx ry h
  obtain ⟨l, b, xs, zs, rfl, rfl, hH, hB, hz, q⟩ := h
  cases rx
  cases ry
  obtain ⟨z, its, n, r, e⟩ := hH.ok I.hok
  obtain ⟨z2, its2, n2, r2, e2⟩ := hB.ok I.hok
  have hl := r.length
  have hl2 := r2.length
  refine PySem.P.add_list e e2 ?_ (by rw [List.size_toArray, List.size_toArray]; omega)
  have ea : its.toArray ++ its2.toArray = (its ++ its2).toArray := by simp
  rw [ea]
  exact ⟨.ref _, _, I.lnew (t' := s.toks) (r.append r2) (by rw [List.length_append]; omega), rfl, q _ I.fresh⟩
/-! tuple * int -/
theorem tuple_mul1 (l : Addr) (items : Array Value) (n : Nat) (dd : Option Addr) (sl : Array (Option Value)) (x : Int) (u : Tok) (c0 : (decide (x < -(2 ^ 63)) || decide (x ≥ 2 ^ 63)) = false) (c1 : (items.isEmpty || x == 1) = true) :
    Meets (Builtin.«tuple.__mul__» ⟨[.ref l, .int x u], []⟩) (fun _ R s => s.heap.get? l = some { cls := .type "tuple", dict := dd, data := .seq items n, slots := sl } ∧
      R (.ok (.ret (Value.ref l))) s) :=
  .of_wp fun prog w A R s h => by
    obtain ⟨hp, g, d, tk, os⟩ := s
    obtain ⟨hl, h⟩ := h
    have f1 := AutoSeq1.idx_int
    wp_walk using wpAny_loadPart' hl
    repeat (first
      | (refine wpAny_ite_false (decide_eq_false (by rw [c0]; exact Bool.false_ne_true)) ?_; wp_walk using wpAny_loadPart' hl)
      | (refine wpAny_ite_true (decide_eq_true c1) ?_; wp_walk using wpAny_loadPart' hl))
    exact ⟨_, rfl, h⟩
theorem tuple_mul0 (l : Addr) (items : Array Value) (n : Nat) (dd : Option Addr) (sl : Array (Option Value)) (x : Int) (u : Tok) (c0 : (decide (x < -(2 ^ 63)) || decide (x ≥ 2 ^ 63)) = false) (c1 : (items.isEmpty || x == 1) = false) (c2 : (decide (x ≤ 0) || items.isEmpty) = true) :
    Meets (Builtin.«tuple.__mul__» ⟨[.ref l, .int x u], []⟩) (fun _ R s => s.heap.get? l = some { cls := .type "tuple", dict := dd, data := .seq items n, slots := sl } ∧
      R (.ok (.ret (Value.ref s.heap.objs.size))) { s with heap := s.heap.push { cls := Value.type "tuple", data := Data.seq #[] }, toks := s.toks }) :=
  .of_wp fun prog w A R s h => by
    obtain ⟨hp, g, d, tk, os⟩ := s
    obtain ⟨hl, h⟩ := h
    have f1 := AutoSeq1.idx_int
    wp_walk using wpAny_loadPart' hl
    repeat (first
      | (refine wpAny_ite_false (decide_eq_false (by rw [c0]; exact Bool.false_ne_true)) ?_; wp_walk using wpAny_loadPart' hl)
      | (refine wpAny_ite_false (decide_eq_false (by rw [c1]; exact Bool.false_ne_true)) ?_; wp_walk using wpAny_loadPart' hl)
      | (refine wpAny_ite_true (decide_eq_true c2) ?_; wp_walk using wpAny_loadPart' hl))
    exact ⟨_, rfl, h⟩
theorem op_repT2 : OpR X (binaryOp .Mult) (fun x y H Q => ∃ l k xs, x = .ref l ∧ y = .int k ∧ SqT X.K H l xs ∧ -100000 ≤ k ∧ k ≤ 100000 ∧ xs.length ≤ 100 ∧
    (((xs = [] ∨ k = 1) → Q (.ref l) H) ∧ (¬ (xs = [] ∨ k = 1) → ∀ p, H p = none → Q (.ref p) (upd H p (.tup (List.replicate k.toNat xs).flatten))))) := by
  intro pins s σ H x y v u Q I rx ry h
  obtain ⟨l, k, xs, rfl, rfl, hT, h1, h2, hz, q1, q2⟩ := h
  cases rx
  obtain ⟨t, rfl⟩ := ry
  obtain ⟨its, r, ⟨⟨cls, dd, data, sl⟩, ho, hc, n, hd⟩, hs⟩ := I.tuple hT
  simp only at hc hd
  subst hc hd
  have hle : its.length = xs.length := r.length.symm
  have hsz0 : its.toArray.size = xs.length := by rw [List.size_toArray, hle]
  have hi : its.toArray.isEmpty = xs.isEmpty := by
    cases its with
    | nil =>
      cases xs with
      | nil => rfl
      | cons _ _ => simp at hle
    | cons a b =>
      cases xs with
      | nil => simp at hle
      | cons _ _ => rfl
  have c0 : (decide (k < -(2 ^ 63)) || decide (k ≥ 2 ^ 63)) = false := by
    rw [decide_eq_false (by omega), decide_eq_false (by omega)] <;> rfl
  refine wpAny_binaryOp_repeat_ref (T := "tuple") (U := "int") (by decide) ⟨_, ho, rfl⟩ (fun s' => typeIs_int s' k t) noFill_tuple_mul F.fills_int_mul F.slot_int_rmul repeat_tuple F.slot_int_index.lookup
    (call_meets F.slot_int_rmul (typeIs_int s k t) F.entry_int_rmul (F.args_int_rmul_2 _ _) (int_rmul_tuple k t l its.toArray n dd sl) ⟨ho, rfl, ⟨_, ho, rfl⟩, ?_⟩)
  by_cases hA : xs = [] ∨ k = 1
  · have c1 : (its.toArray.isEmpty || k == 1) = true := by
      rw [hi]
      rcases hA with e | e
      · rw [e]
        rfl
      · rw [e]
        simp
    refine call_meets F.slot_tuple_mul ⟨_, ho, rfl⟩ F.entry_tuple_mul (F.args_tuple_mul_2 _ _) (tuple_mul1 l its.toArray n dd sl k t c0 c1) ⟨ho, ?_⟩
    exact ⟨.ref l, H, I, rfl, q1 hA⟩
  · have hne : xs ≠ [] := fun e => hA (.inl e)
    have hk1 : k ≠ 1 := fun e => hA (.inr e)
    have hi2 : its.toArray.isEmpty = false := by
      rw [hi]
      cases xs with
      | nil => exact absurd rfl hne
      | cons _ _ => rfl
    have c1 : (its.toArray.isEmpty || k == 1) = false := by
      rw [hi2, Bool.false_or]
      exact beq_eq_false_iff_ne.mpr hk1
    by_cases h0 : k ≤ 0
    · have c2 : (decide (k ≤ 0) || its.toArray.isEmpty) = true := by
        rw [decide_eq_true h0]
        rfl
      refine call_meets F.slot_tuple_mul ⟨_, ho, rfl⟩ F.entry_tuple_mul (F.args_tuple_mul_2 _ _) (tuple_mul0 l its.toArray n dd sl k t c0 c1 c2) ⟨ho, ?_⟩
      have e0 : k.toNat = 0 := by omega
      have q3 := q2 hA s.heap.objs.size (I.hok.fresh (Nat.le_refl _))
      rw [e0] at q3
      refine ⟨.ref s.heap.objs.size, _, I.laid (t' := s.toks) (o := .tup (List.replicate 0 xs).flatten) (fun b ob q => Heap.get?_push_of_some _ q) (Nat.le_refl _) ?_, rfl, q3⟩
      exact ⟨Nat.zero_le _, _, .nil, IsTup.new _ _⟩
    · have hm : ((its.toArray.size : Nat) : Int) * k ≤ 10000000 := by
        rw [hsz0]
        have a1 : ((xs.length : Nat) : Int) * k ≤ 100 * k := Int.mul_le_mul_of_nonneg_right (by omega) (by omega)
        omega
      have flen : (List.replicate k.toNat its).flatten.length ≤ sizeLine := by
        rw [PyProof.Rows.lm_len_rep_flat, hle, sizeLine_eq]
        have a1 : k.toNat * xs.length ≤ 100000 * 100 := Nat.mul_le_mul (by omega) hz
        omega
      have c2 : (decide (k ≤ 0) || its.toArray.isEmpty) = false := by
        rw [hi2, Bool.or_false]
        exact decide_eq_false h0
      have c4 : Builtin.Tuple.tupleTooMany (((its.toArray.size : Nat) : Int) * k) = false := by
        unfold Builtin.Tuple.tupleTooMany
        rw [sizeLine_eq]
        exact decide_eq_false (by omega)
      refine call_meets F.slot_tuple_mul ⟨_, ho, rfl⟩ F.entry_tuple_mul (F.args_tuple_mul_2 _ _) (tuple_mulW l its.toArray n dd sl k t c0 c1 c2 (by omega) c4 (by rw [size_rep, List.size_toArray]; exact flen)) ⟨ho, ?_⟩
      rw [size_rep]
      refine ⟨.ref s.heap.objs.size, _, I.laid (t' := s.toks) (o := .tup (List.replicate k.toNat xs).flatten) (fun b ob q => Heap.get?_push_of_some _ q) (Nat.le_refl _) ?_, rfl, q2 hA _ (I.hok.fresh (Nat.le_refl _))⟩
      exact ⟨by rw [PyProof.Rows.lm_len_rep_flat, sizeLine_eq]; have a1 : k.toNat * xs.length ≤ 100000 * 100 := Nat.mul_le_mul (by omega) hz; omega, _, r.rep k.toNat, IsTup.new _ _⟩
/-- a list times an int, as the list may be read -/
theorem op_repL2 : OpR X (binaryOp .Mult) (fun x y H Q => ∃ l k xs, x = .ref l ∧ y = .int k ∧ Rd H l (.lst xs) ∧ -(2 ^ 63) ≤ k ∧ k < 2 ^ 63 ∧ xs.length * k.toNat ≤ sizeLine ∧
  ∀ p, H p = none → Q (.ref p) (upd H p (.lst (List.replicate k.toNat xs).flatten))) := by
  intro pins s σ H x y v u Q I rx ry h
  obtain ⟨l, k, xs, rfl, rfl, hH, h1, h2, hz, q⟩ := h
  cases rx
  obtain ⟨t, rfl⟩ := ry
  obtain ⟨z, its, n, r, e⟩ := hH.ok I.hok
  have hl := r.length
  have hlen : its.toArray.size * k.toNat ≤ sizeLine := by rw [List.size_toArray, ← hl]; exact hz
  have hcap : ¬ its.toArray.size * k.toNat > (2 ^ 63 - 1) / 8 := by
    have : (sizeLine : Nat) ≤ (2 ^ 63 - 1) / 8 := by decide
    omega
  have hfit : ¬ (!Builtin.List.listFitsIndex k) = true := by
    rw [fitsIndex_both h1 h2]
    exact Bool.false_ne_true
  have hlong : ¬ Builtin.List.listTooLong (its.toArray.size * k.toNat) = true := by
    rw [notLongL hlen]
    exact Bool.false_ne_true
  have hnew : List.foldl (fun x1 x2 => x1 ++ x2) #[] (List.replicate (if its.toArray.isEmpty = true then 0 else k.toNat) its.toArray) = (List.replicate k.toNat its).flatten.toArray := by
    have f0 : ∀ m : Nat, List.foldl (fun x1 x2 => x1 ++ x2) #[] (List.replicate m its.toArray) = (List.replicate m its).flatten.toArray := fun m => by
      have := foldl_rep its m []
      rw [List.nil_append] at this
      exact this
    rw [f0]
    cases its with
    | nil => simp
    | cons a r' => rw [if_neg (by simp)]
  refine wpAny_binaryOp_repeat_ref (T := "list") (U := "int") (by decide) ⟨_, e, rfl⟩ (fun s' => typeIs_int s' k t) noFill_list_mul F.fills_int_mul F.slot_int_rmul repeat_list F.slot_int_index.lookup
    (call_meets F.slot_int_rmul (typeIs_int s k t) F.entry_int_rmul (F.args_int_rmul_2 _ _) (int___rmul___int_list k t l its.toArray n)
      ⟨e, rfl, ⟨_, e, rfl⟩, call_meets F.slot_list_mul ⟨_, e, rfl⟩ F.entry_list_mul (F.args_list_mul_2 _ _) (AutoListH.list___mul___list_int_3 l its.toArray n k t hfit hcap hlong) ⟨e, ?_⟩⟩)
  rw [hnew]
  exact ⟨.ref _, _, I.lnew (t' := s.toks) (r.rep k.toNat) (by rw [PyProof.Rows.lm_len_rep_flat, Nat.mul_comm]; exact hz), rfl, q _ I.fresh⟩
theorem strOk_append {x y : Str} (hx : PyData.strOk x = true) (hy : PyData.strOk y = true) : PyData.strOk (x ++ y) = true := by
  unfold PyData.strOk at *
  have e : (x ++ y).cps = x.cps ++ y.cps := rfl
  rw [e, Array.all_append, hx, hy]
  rfl
theorem sz_le {n : Nat} (h : n ≤ SZ) : n ≤ sizeLine := by
  rw [sizeLine_eq]
  exact h
/-- the operators -/
theorem op_bin (o : BinOp) : OpR X (binaryOp (toOp o)) (rB TT X.K C (bin o)) := by
  intro pins s σ H vx vy v u Q I rx ry h
  obtain ⟨β, m, x, y, QE, rep, hx, hy, hp⟩ := h
  unfold bin at hp
  cases ex : x.py? m with
  | none => rw [ex] at hp; exact hp.elim
  | some d =>
    cases ey : y.py? m with
    | none => rw [ex, ey] at hp; exact hp.elim
    | some e =>
      rw [ex, ey] at hp
      have px := py_pv rep hx ex
      have py := py_pv rep hy ey
      dsimp only at hp
      clear ex ey hx hy
      cases o with
      | add =>
        cases px <;> cases py <;> first | exact (show False from hp).elim | skip
        · exact op_add pins s σ H _ _ v u Q I rx ry ⟨_, _, rfl, rfl, hp.val rep (.int _)⟩
        · rename_i i hi j hj
          unfold binD at hp
          dsimp only at hp
          split at hp
          · rename_i hz
            exact op_add_str pins s σ H _ _ v u Q I rx ry ⟨_, _, rfl, rfl, sz_le hz, hp.val rep (.str _ (strOk_append hi hj))⟩
          · exact hp.elim
        · rename_i a vs ds h1 h2 b ws es h3 h4
          unfold binD at hp
          dsimp only at hp
          split at hp
          · rename_i hz
            refine op_catL pins s σ H _ _ v u Q I rx ry ⟨_, _, _, _, rfl, rfl, h1, h3, ?_, fun p hn => hp.newL rep (h2.append h4) hn⟩
            rw [← h2.length, ← h4.length]
            exact sz_le hz
          · exact hp.elim
        · rename_i a vs ds h1 h2 b ws es h3 h4
          unfold binD at hp
          dsimp only at hp
          split at hp
          · rename_i hz
            refine op_catA pins s σ H _ _ v u Q I rx ry ⟨_, _, _, _, rfl, rfl, h1, h3, ?_, ?_⟩
            · rw [← h2.length, ← h4.length]
              exact sz_le hz
            · refine ⟨fun e0 => ?_, fun _ e1 => ?_, fun _ _ p hn => hp.newT rep (h2.append h4) hn⟩
              · have e2 : ds = [] := List.eq_nil_of_length_eq_zero (by rw [h2.length, e0]; rfl)
                rw [e2, List.nil_append] at hp
                exact hp.val rep (.tup h3 h4)
              · have e2 : es = [] := List.eq_nil_of_length_eq_zero (by rw [h4.length, e1]; rfl)
                rw [e2, List.append_nil] at hp
                exact hp.val rep (.tup h1 h2)
          · exact hp.elim
      | sub =>
        cases px <;> cases py <;> first | exact (show False from hp).elim | skip
        exact op_sub pins s σ H _ _ v u Q I rx ry ⟨_, _, rfl, rfl, hp.val rep (.int _)⟩
      | mul =>
        cases px <;> cases py <;> first | exact (show False from hp).elim | skip
        · rename_i i j
          unfold binD at hp
          dsimp only at hp
          split at hp
          · rename_i hz
            refine op_mul pins s σ H _ _ v u Q I rx ry ⟨_, _, rfl, rfl, ?_, hp.val rep (.int _)⟩
            unfold mulOk at hz
            simp only [Bool.or_eq_true, Bool.and_eq_true, decide_eq_true_eq] at hz
            exact hz
          · exact hp.elim
        · rename_i a vs ds h1 h2 k
          unfold binD at hp
          dsimp only at hp
          split at hp
          · rename_i hz
            refine op_repL2 pins s σ H _ _ v u Q I rx ry ⟨_, _, _, rfl, rfl, h1, by omega, by omega, ?_, fun p hn => hp.newL rep (h2.rep k.toNat) hn⟩
            rw [← h2.length, sizeLine_eq]
            have a1 : ds.length * k.toNat ≤ 100 * 100000 := Nat.mul_le_mul hz.2.2 (by omega)
            omega
          · exact hp.elim
        · rename_i a vs ds h1 h2 k
          unfold binD at hp
          dsimp only at hp
          split at hp
          · rename_i hz
            refine op_repT2 pins s σ H _ _ v u Q I rx ry ⟨_, _, _, rfl, rfl, h1, hz.1, hz.2.1, by rw [← h2.length]; exact hz.2.2, fun hA => hp.val rep ?_, fun _ p hn => hp.newT rep (h2.rep k.toNat) hn⟩
            have e : MN.rep ds k = ds := by
              rcases hA with e | e
              · have e2 : ds = [] := List.eq_nil_of_length_eq_zero (by rw [h2.length, e]; rfl)
                rw [e2]
                unfold MN.rep
                simp
              · rw [e]
                unfold MN.rep
                simp
            rw [e]
            exact .tup h1 h2
          · exact hp.elim
      | fdiv =>
        cases px <;> cases py <;> first | exact (show False from hp).elim | skip
        unfold binD at hp
        dsimp only at hp
        split at hp
        · rename_i hz
          exact op_fdiv pins s σ H _ _ v u Q I rx ry ⟨_, _, rfl, rfl, hz, hp.val rep (.int _)⟩
        · exact hp.elim
      | mod =>
        cases px <;> cases py <;> first | exact (show False from hp).elim | skip
        unfold binD at hp
        dsimp only at hp
        split at hp
        · rename_i hz
          exact op_mod pins s σ H _ _ v u Q I rx ry ⟨_, _, rfl, rfl, hz, hp.val rep (.int _)⟩
        · exact hp.elim
      | pow =>
        cases px <;> cases py <;> first | exact (show False from hp).elim | skip
        unfold binD at hp
        dsimp only at hp
        split at hp
        · rename_i hz
          exact op_pow pins s σ H _ _ v u Q I rx ry ⟨_, _, rfl, rfl, ⟨hz.1, by omega, by omega⟩, hp.val rep (.int _)⟩
        · exact hp.elim
/-! comparisons -/
def toCmp : CmpO → CmpOp
  | .eq => .Eq
  | .ne => .NotEq
  | .lt => .Lt
  | .le => .LtE
  | .gt => .Gt
  | .ge => .GtE
  | .inn => .In
  | .notin => .NotIn
  | .isN => .Is
  | .notN => .IsNot
theorem RV.isNone {K : PySem.W.Frag} {β : BB} {H : Hp} {x : Val} {v : V} (h : RV K β H x v) : decide (v = V.non) = isNone x := by
  cases x with
  | d y =>
    have h' : DP K β H y v := h
    cases h' <;> rfl
  | loc n =>
    obtain ⟨a, _, rfl⟩ := h
    rfl
theorem key_kV {K : PySem.W.Frag} {β : BB} {H : Hp} {d : PyData} {v : V} {k : Ky} (h : DP K β H d v) (e : keyOf d = some k) : v = kV k := by
  cases h <;> first | (cases e; rfl) | cases e
theorem RKs.look {K : PySem.W.Frag} {β : BB} {H : Hp} (k : Ky) : ∀ {kvs : List (Ky × Val)} {kws : List (Key × V)}, RKs K β H kvs kws →
    (lookK kvs k = none ∧ valV kws k = none) ∨ ∃ x v, lookK kvs k = some x ∧ valV kws k = some v ∧ RV K β H x v
  | _, _, .nil => .inl ⟨rfl, rfl⟩
  | _, _, .cons (k := j) (x := x) (v := v) h hs => by
    by_cases e : j = k
    · exact .inr ⟨x, v, by simp [lookK, List.find?_cons, e], by simp [valV, List.find?_cons, e], h⟩
    · have e1 : ∀ (r : List (Ky × Val)), lookK ((j, x) :: r) k = lookK r k := fun r => by simp [lookK, List.find?_cons, e]
      have e2 : ∀ (r : List (Key × V)), valV ((j, v) :: r) k = valV r k := fun r => by simp [valV, List.find?_cons, e]
      rw [e1, e2]
      exact RKs.look k hs
theorem op_cmp (hr : X.A.units + 200 < cLine) (o : CmpO) : OpR X (compareOp (toCmp o)) (rB TT X.K C (cmp o)) := by
  intro pins s σ H vx vy v u Q I rx ry h
  obtain ⟨β, m, x, y, QE, rep, hx, hy, hp⟩ := h
  have two : ∀ {o : CmpO}, Post TT X.K C (RV X.K) β H (match x.py? m, y.py? m with
      | some a, some b => cmpD o a b m
      | _, _ => .no) Q QE → ∃ a b, PV X.K β H a vx ∧ PV X.K β H b vy ∧ Post TT X.K C (RV X.K) β H (cmpD o a b m) Q QE := fun {o} hp => by
    cases ex : x.py? m with
    | none => rw [ex] at hp; exact hp.elim
    | some d =>
      cases ey : y.py? m with
      | none => rw [ex, ey] at hp; exact hp.elim
      | some e =>
        rw [ex, ey] at hp
        exact ⟨d, e, py_pv rep hx ex, py_pv rep hy ey, hp⟩
  have eqs : ∀ {a b : PyData}, PV X.K β H a vx → PV X.K β H b vy → eqOk a b = true → ∃ as bs, Reads s.heap v a as ∧ Reads s.heap u b bs ∧ a.canLay0 = true ∧ b.canLay0 = true ∧ X.A.units + min a.depth b.depth < cLine := fun {a b} px py hz => by
    obtain ⟨as, r1⟩ := Dp.reads I a vx v px.dp rx
    obtain ⟨bs, r2⟩ := Dp.reads I b vy u py.dp ry
    have z : min a.depth b.depth ≤ 64 := of_decide_eq_true hz
    exact ⟨as, bs, r1, r2, px.lay, py.lay, by omega⟩
  have mem : ∀ (neg : Bool), Post TT X.K C (RV X.K) β H (inV neg x y m) Q QE → wpAny (model X.prog X.w) X.A (compareOp (if neg = true then .NotIn else .In) v u) (EP X pins σ Q) X.xe s := fun neg hp => by
    have seq : ∀ {xs : List PyData} {d : PyData} {b : Addr} {ws : List V}, (vy = .ref b ∧ (Rd H b (.lst ws) ∨ SqT X.K H b ws)) → DPs X.K β H xs ws → x.py? m = some d → Post TT X.K C (RV X.K) β H (inD neg d xs m) Q QE →
        wpAny (model X.prog X.w) X.A (compareOp (if neg = true then .NotIn else .In) v u) (EP X pins σ Q) X.xe s := fun {xs d b ws} hb hs ex hp => by
      have px := py_pv rep hx ex
      unfold inD at hp
      split at hp
      · rename_i hz
        have hz : min (PyData.depthAll xs) d.depth ≤ 64 := by
          rcases hz with z | z
          · have := of_decide_eq_true z
            omega
          · have := of_decide_eq_true z
            omega
        obtain ⟨as, r1⟩ := Dp.reads I d vx v px.dp rx
        obtain ⟨e1, hb⟩ := hb
        have q : ∀ {c : Bool}, Post TT X.K C (RV X.K) β H (.ok (.d (.bool c)) m) Q QE → Q (.bl c) H := fun {c} hp => hp.val rep (.bl c)
        rcases hb with hb | hb
        · obtain ⟨bs, r2⟩ := Dp.reads I (.list xs) vy u (by rw [e1]; exact .lst (.inl hb) hs.dp) ry
          cases neg with
          | false => exact SeqAt.in_list_reads r2 r1 (by simpa [PyData.canLay0] using hs.lay) px.lay (by omega) ⟨.bl _, H, I, rfl, q hp⟩
          | true => exact SeqAt.notIn_list_reads r2 r1 (by simpa [PyData.canLay0] using hs.lay) px.lay (by omega) ⟨.bl _, H, I, rfl, q hp⟩
        · obtain ⟨bs, r2⟩ := Dp.reads I (.tuple xs) vy u (by rw [e1]; exact .tup hb hs.dp) ry
          cases neg with
          | false => exact SeqAt.in_tuple_reads r2 r1 (by simpa [PyData.canLay0] using hs.lay) px.lay (by omega) ⟨.bl _, H, I, rfl, q hp⟩
          | true => exact SeqAt.notIn_tuple_reads r2 r1 (by simpa [PyData.canLay0] using hs.lay) px.lay (by omega) ⟨.bl _, H, I, rfl, q hp⟩
      · exact hp.elim
    cases y with
    | loc n =>
      obtain ⟨b, eb, rfl⟩ := hy
      unfold inV at hp
      dsimp only at hp
      cases hm : m[n]? with
      | none => rw [hm] at hp; exact hp.elim
      | some o =>
        rw [hm] at hp
        cases o with
        | lst xs =>
          obtain ⟨ws, h1, h2⟩ := rep.lst eb hm
          dsimp only at hp
          cases ex : x.py? m with
          | none => rw [ex] at hp; exact hp.elim
          | some d =>
            rw [ex] at hp
            exact seq ⟨rfl, .inl (.inl h1)⟩ h2 ex hp
        | dic kvs =>
          obtain ⟨kws, h1, h2, _⟩ := rep.dic eb hm
          dsimp only at hp
          cases x with
          | loc _ => exact hp.elim
          | d d =>
            dsimp only [Val.data?] at hp
            cases ek : keyOf d with
            | none => rw [ek] at hp; exact hp.elim
            | some k =>
              rw [ek] at hp
              have ekv : vx = kV k := key_kV (show DP X.K β H d vx from hx) ek
              subst ekv
              have g := DGet.k (k := k) h1
              have hs : (valV kws k).isSome = (lookK kvs k).isSome := by
                rcases h2.look k with ⟨e1, e2⟩ | ⟨_, _, e1, e2, _⟩ <;> rw [e1, e2] <;> rfl
              cases ry
              cases neg with
              | false =>
                refine d_in (by omega) I g rx fun s' I' => ⟨.bl _, H, I', rfl, ?_⟩
                rw [hs]
                exact hp.val rep (.bl _)
              | true =>
                refine d_notIn (by omega) I g rx fun s' I' => ⟨.bl _, H, I', rfl, ?_⟩
                rw [hs]
                exact hp.val rep (.bl _)
    | d y =>
      have hy' : DP X.K β H y vy := hy
      unfold inV at hp
      cases hy' with
      | lst ha h1 h2 =>
        dsimp only at hp
        cases ex : x.py? m with
        | none => rw [ex] at hp; exact hp.elim
        | some d =>
          rw [ex] at hp
          exact seq ⟨rfl, .inl h1⟩ h2 ex hp
      | tup h1 h2 =>
        dsimp only at hp
        cases ex : x.py? m with
        | none => rw [ex] at hp; exact hp.elim
        | some d =>
          rw [ex] at hp
          exact seq ⟨rfl, .inr h1⟩ h2 ex hp
      | non => exact hp.elim
      | bl _ => exact hp.elim
      | int _ => exact hp.elim
      | str _ _ => exact hp.elim
  cases o with
  | eq =>
    obtain ⟨a, b, px, py, hp⟩ := two (o := .eq) hp
    unfold cmpD at hp
    dsimp only at hp
    split at hp
    · rename_i hz
      obtain ⟨as, bs, r1, r2, l1, l2, hu⟩ := eqs px py hz
      exact SeqAt.compareEq_reads r1 r2 l1 l2 hu ⟨.bl _, H, I, rfl, hp.val rep (.bl _)⟩
    · exact hp.elim
  | ne =>
    obtain ⟨a, b, px, py, hp⟩ := two (o := .ne) hp
    unfold cmpD at hp
    dsimp only at hp
    split at hp
    · rename_i hz
      obtain ⟨as, bs, r1, r2, l1, l2, hu⟩ := eqs px py hz
      exact SeqAt.compareNe_reads r1 r2 l1 l2 hu ⟨.bl _, H, I, rfl, hp.val rep (.bl _)⟩
    · exact hp.elim
  | lt =>
    obtain ⟨a, b, px, py, hp⟩ := two (o := .lt) hp
    have hx1 := px
    have hy1 := py
    cases px <;> cases py <;> first | exact (show False from hp).elim | skip
    · exact op_lt pins s σ H _ _ v u Q I rx ry ⟨_, _, rfl, rfl, hp.val rep (.bl _)⟩
    · unfold cmpD at hp
      dsimp only at hp
      split at hp
      · rename_i hz
        obtain ⟨as, r1⟩ := Dp.reads I _ _ v hx1.dp rx
        obtain ⟨bs, r2⟩ := Dp.reads I _ _ u hy1.dp ry
        refine PySem.W.lt_data r1 r2 hz.1 (fun z => by cases z) ?_ ⟨.bl _, H, I, rfl, hp.val rep (.bl _)⟩
        exact Nat.lt_of_le_of_lt (Nat.add_le_add_left (Nat.le_trans (Nat.min_le_left _ _) hz.2) _) (by omega)
      · exact hp.elim
  | le =>
    obtain ⟨a, b, px, py, hp⟩ := two (o := .le) hp
    cases px <;> cases py <;> first | exact (show False from hp).elim | skip
    exact op_le pins s σ H _ _ v u Q I rx ry ⟨_, _, rfl, rfl, hp.val rep (.bl _)⟩
  | gt =>
    obtain ⟨a, b, px, py, hp⟩ := two (o := .gt) hp
    cases px <;> cases py <;> first | exact (show False from hp).elim | skip
    exact op_gt pins s σ H _ _ v u Q I rx ry ⟨_, _, rfl, rfl, hp.val rep (.bl _)⟩
  | ge =>
    obtain ⟨a, b, px, py, hp⟩ := two (o := .ge) hp
    cases px <;> cases py <;> first | exact (show False from hp).elim | skip
    exact op_ge pins s σ H _ _ v u Q I rx ry ⟨_, _, rfl, rfl, hp.val rep (.bl _)⟩
  | inn => exact mem false hp
  | notin => exact mem true hp
  | isN =>
    unfold cmp at hp
    dsimp only at hp
    split at hp
    · rename_i hz
      have ey : vy = .non := of_decide_eq_true (by rw [hy.isNone]; exact hz)
      refine op_isN pins s σ H _ _ v u Q I rx ry ⟨ey, ?_⟩
      rw [hx.isNone]
      exact hp.val rep (.bl _)
    · exact hp.elim
  | notN =>
    unfold cmp at hp
    dsimp only at hp
    split at hp
    · rename_i hz
      have ey : vy = .non := of_decide_eq_true (by rw [hy.isNone]; exact hz)
      refine op_notN pins s σ H _ _ v u Q I rx ry ⟨ey, ?_⟩
      rw [hx.isNone]
      exact hp.val rep (.bl _)
    · exact hp.elim
end
end MN

set_option maxRecDepth 100000
set_option maxHeartbeats 4000000
/-! MnBi: indexing, slices, truth, built-in functions, methods, stores by the evaluator's words. -/
namespace MN
open PySem PySem.Spec PyProof.Rows L2

section
variable {TT : TB} {K : PySem.W.Frag} {C : CA} {β : BB} {H : Hp} {m : Store} {QE : XK} {Q : VK}
theorem atI_dp {ds : List PyData} {vs : List V} {i : Int} {d : PyData} (h : DPs K β H ds vs) (e : MN.atI ds i = some d) : ∃ v, L2.atI vs i = some v ∧ DP K β H d v := by
  unfold MN.atI at e
  rw [h.length] at e
  cases q : MN.ixN vs.length i with
  | none => rw [q] at e; cases e
  | some j =>
    rw [q] at e
    obtain ⟨v, h1, h2⟩ := h.get (i := j) (d := d) e
    refine ⟨v, ?_, h2⟩
    unfold L2.atI
    rw [show L2.ixN vs.length i = some j from q]
    exact h1
theorem cut_dp {ds : List PyData} {vs : List V} {lo hi : Option Int} (h : DPs K β H ds vs) : DPs K β H (cut ds lo hi) (cutV vs lo hi) := by
  unfold cut cutV
  rw [h.length]
  exact (h.drop _).take _
theorem RVs.length : ∀ {xs : List Val} {vs : List V}, RVs K β H xs vs → xs.length = vs.length
  | _, _, .nil => rfl
  | _, _, .cons _ hs => by rw [List.length_cons, List.length_cons, RVs.length hs]
theorem RVs.datas : ∀ {xs : List Val} {vs : List V} {ds : List PyData}, RVs K β H xs vs → datas? xs = some ds → DPs K β H ds vs
  | _, _, _, .nil, e => by cases e; exact .nil
  | x :: xs, v :: vs, ds, .cons h hs, e => by
    unfold datas? at e
    cases x with
    | loc n => simp [Val.data?] at e
    | d x =>
      cases q : datas? xs with
      | none => simp [Val.data?, q] at e
      | some ys =>
        simp [Val.data?, q] at e
        subst e
        exact .cons h (RVs.datas hs q)
theorem ints_V : ∀ {ds : List PyData} {vs : List V} {ns : List Int}, DPs K β H ds vs → ints? ds = some ns → vs = ns.map V.int
  | _, _, _, .nil, e => by cases e; rfl
  | d :: ds, v :: vs, ns, .cons h hs, e => by
    cases h with
    | int i =>
      unfold ints? at e
      cases q : ints? ds with
      | none => simp [q] at e
      | some is =>
        simp [q] at e
        subst e
        rw [List.map_cons, ints_V hs q]
    | _ => simp [ints?] at e
/-- a store at a place -/
theorem Grow.write {a : Addr} {o o' : HO} (ha : a ∈ β.pos) (h : H a = some o) (k : (∃ vs, o = .lst vs) ∨ ∃ kws, o = .dK kws) : Grow β H [] (upd H a o') where
  new := fun _ h => absurd h (by simp)
  tup := fun b xs e => by
    rw [upd_ne (fun z => by subst z; rw [h] at e; cases e; rcases k with ⟨_, k⟩ | ⟨_, k⟩ <;> cases k)]
    exact e
  frz := fun b ob u e => by
    rw [upd_ne (fun z => by subst z; rw [h] at e; cases e; rcases k with ⟨_, k⟩ | ⟨_, k⟩ <;> cases k)]
    exact e
  keep := fun b ob e nb _ => by
    rw [upd_ne (fun z => by subst z; exact nb ha)]
    exact e
  tbl := fun b ps e => ⟨ps, by
    rw [upd_ne (fun z => by subst z; rw [h] at e; cases e; rcases k with ⟨_, k⟩ | ⟨_, k⟩ <;> cases k)]
    exact e⟩
theorem tabs_write {a : Addr} {o o' : HO} (t : LamX.Tabs TT.tb H) (h : H a = some o) (k : (∃ vs, o = .lst vs) ∨ ∃ kws, o = .dK kws) : LamX.Tabs TT.tb (upd H a o') := fun p hp => by
  obtain ⟨ps, e1, e2, e3⟩ := t p hp
  refine ⟨ps, ?_, e2, fun pos cv hc => ?_⟩
  · rw [upd_ne (fun z => by rw [z, h] at e1; cases e1; rcases k with ⟨_, k⟩ | ⟨_, k⟩ <;> cases k)]
    exact e1
  · obtain ⟨c, f1, f2⟩ := e3 pos cv hc
    refine ⟨c, f1, ?_⟩
    rw [upd_ne (fun z => by rw [z, h] at f2; unfold LamX.CodeO at f2; cases f2; rcases k with ⟨_, k⟩ | ⟨_, k⟩ <;> cases k)]
    exact f2
theorem RepS.write {a : Addr} {n : Nat} {o o' : HO} {ob : MO} (r : RepS TT K β H m) (hn : β.pos[n]? = some a) (h : H a = some o) (k : (∃ vs, o = .lst vs) ∨ ∃ kws, o = .dK kws) (q : RO K β H ob o') (old : oldB n ob = true) :
    RepS TT K β (upd H a o') (m.set n ob) where
  nd := r.nd
  len := by rw [List.length_set]; exact r.len
  outs := fun b hb => by
    by_cases z : b = a
    · subst z
      exact ⟨o', upd_same, q.kind⟩
    · obtain ⟨u, e, k⟩ := r.outs b hb
      exact ⟨u, by rw [upd_ne z]; exact e, k⟩
  at_ := fun j b ob' e e' => by
    have g : Grow β H [] (upd H a o') := Grow.write (List.mem_of_getElem? hn) h k
    by_cases hj : n = j
    · subst hj
      rw [hn] at e
      cases e
      have hl : n < m.length := by rw [← r.len]; exact (List.getElem?_eq_some_iff.mp hn).1
      rw [List.getElem?_set_self hl] at e'
      cases e'
      refine ⟨o', upd_same, ?_, old⟩
      have := RO.grow g q
      rwa [BB.app_nil] at this
    · rw [List.getElem?_set_ne hj] at e'
      obtain ⟨u, e1, q1, old1⟩ := r.at_ j b ob' e e'
      refine ⟨u, ?_, ?_, old1⟩
      · rw [upd_ne (fun z => ?_)]
        · exact e1
        · subst z
          have hl : n < β.pos.length := (List.getElem?_eq_some_iff.mp hn).1
          exact hj ((List.getElem?_inj hl r.nd).mp (hn.trans e.symm))
      · have := RO.grow g q1
        rwa [BB.app_nil] at this
  tabs := tabs_write r.tabs h k
  er := r.er
  ac := r.ac
theorem DP.write {a : Addr} {o o' : HO} {d : PyData} {v : V} (x : DP K β H d v) (ha : a ∈ β.pos) (h : H a = some o) (k : (∃ vs, o = .lst vs) ∨ ∃ kws, o = .dK kws) : DP K β (upd H a o') d v := by
  have := x.grow (Grow.write (o' := o') ha h k)
  rwa [BB.app_nil] at this
def RU (β : BB) (H : Hp) (a b : Unit) : Prop := True
end
section
variable {X : Cx} {TT : TB} {C : CA}
/-! ### o[i] -/
theorem ix_dict (hu : X.A.units + 1 < cLine) : IxR X (fun x y H Q => ∃ a v, x = .ref a ∧ DGet H a y (some v) ∧ Q v H) := by
  intro value slice pins s σ H x y v u Q I rx ry h hs
  obtain ⟨a, z, rfl, g, q⟩ := h
  obtain rfl : v = Value.ref a := rx
  exact tail_any (dict_typeIs I g) slot_dict_getitem.lookup (d_getItem hu I g ry fun w' s' I' r => ⟨z, H, I', r, q⟩) hs
theorem ix_all (hu : X.A.units + 1 < cLine) : IxR X (rB TT X.K C idx) := by
  intro value slice pins s σ H vx vy v u Q I rx ry h hs
  obtain ⟨β, m, x, y, QE, rep, hx, hy, hp⟩ := h
  unfold idx at hp
  cases x with
  | d x =>
    cases y with
    | loc _ => cases x <;> exact hp.elim
    | d y =>
      have hx' : DP X.K β H x vx := hx
      have hy' : DP X.K β H y vy := hy
      cases hx' with
      | lst ha h1 h2 =>
        cases hy' with
        | int i =>
          dsimp only at hp
          split at hp
          · rename_i d e
            obtain ⟨w, e1, e2⟩ := atI_dp h2 e
            exact ix_list value slice pins s σ H _ _ v u Q I rx ry ⟨_, _, i, w, rfl, rfl, .inl h1, e1, hp.val rep e2⟩ hs
          · exact hp.elim
        | _ => exact hp.elim
      | tup h1 h2 =>
        cases hy' with
        | int i =>
          dsimp only at hp
          split at hp
          · rename_i d e
            obtain ⟨w, e1, e2⟩ := atI_dp h2 e
            exact ix_tup value slice pins s σ H _ _ v u Q I rx ry ⟨_, _, i, w, rfl, rfl, h1, e1, hp.val rep e2⟩ hs
          · exact hp.elim
        | _ => exact hp.elim
      | _ => exact hp.elim
  | loc n =>
    obtain ⟨a, ea, rfl⟩ := hx
    cases y with
    | loc _ => exact hp.elim
    | d y =>
      have hy' : DP X.K β H y vy := hy
      dsimp only at hp
      cases hm : m[n]? with
      | none => rw [hm] at hp; exact hp.elim
      | some o =>
        rw [hm] at hp
        cases o with
        | lst xs =>
          obtain ⟨vs, h1, h2⟩ := rep.lst ea hm
          cases hy' with
          | int i =>
            dsimp only at hp
            split at hp
            · rename_i d e
              obtain ⟨w, e1, e2⟩ := atI_dp h2 e
              exact ix_list value slice pins s σ H _ _ v u Q I rx ry ⟨_, _, i, w, rfl, rfl, .inl (.inl h1), e1, hp.val rep e2⟩ hs
            · exact hp.elim
          | _ => exact hp.elim
        | dic kvs =>
          obtain ⟨kws, h1, h2, _⟩ := rep.dic ea hm
          dsimp only at hp
          cases ek : keyOf y with
          | none => rw [ek] at hp; exact hp.elim
          | some k =>
            rw [ek] at hp
            have ekv : vy = kV k := key_kV hy' ek
            subst ekv
            dsimp only at hp
            rcases h2.look k with ⟨e1, e2⟩ | ⟨z, w, e1, e2, r⟩
            · rw [e1] at hp
              exact hp.elim
            · rw [e1] at hp
              have g := DGet.k (k := k) h1
              rw [e2] at g
              exact ix_dict hu value slice pins s σ H _ _ v u Q I rx ry ⟨a, w, rfl, g, hp.val rep r⟩ hs
/-! ### o[lo:hi] -/
def rSl (TT : TB) (K : PySem.W.Frag) (C : CA) : V → Option Int → Option Int → Hp → VK → Prop := fun x lo hi H Q => ∃ β m xv QE, RepS TT K β H m ∧ RV K β H xv x ∧ Post TT K C (RV K) β H (slice xv lo hi m) Q QE
theorem sl_all : SlR X (rSl TT X.K C) := by
  intro pins s σ H vx v vl vu lo hi sl Q I rx hs pl pu h
  obtain ⟨β, m, x, QE, rep, hx, hp⟩ := h
  unfold slice at hp
  cases ex : x.py? m with
  | none => rw [ex] at hp; exact hp.elim
  | some d =>
    rw [ex] at hp
    have px := py_pv rep hx ex
    cases px with
    | lst h1 h2 => exact sl_list pins s σ H _ v vl vu lo hi sl Q I rx hs pl pu ⟨_, _, rfl, .inl h1, fun p hn => hp.newL rep (cut_dp h2) hn⟩
    | tup h1 h2 =>
      refine sl_tupA pins s σ H _ v vl vu lo hi sl Q I rx hs pl pu ⟨_, _, rfl, h1, fun hw => ?_, fun _ p hn => hp.newT rep (cut_dp h2) hn⟩
      rename_i a vs ds
      have e : cut ds lo hi = ds := by
        unfold cut
        rw [h2.length]
        rw [show MN.sIx vs.length 0 lo = 0 from hw.1, show MN.sIx vs.length vs.length hi = vs.length from hw.2, List.drop_zero, Nat.sub_zero, ← h2.length, List.take_length]
      dsimp only at hp
      rw [e] at hp
      exact hp.val rep (.tup h1 h2)
    | _ => exact hp.elim
/-! ### truth -/
def rTru (TT : TB) (K : PySem.W.Frag) : V → Hp → (Bool → Hp → Prop) → Prop := fun x H Q => ∃ β m xv k, RepS TT K β H m ∧ RV K β H xv x ∧ truth xv m = some k ∧ Q k H
theorem DPs.isEmpty {K : PySem.W.Frag} {β : BB} {H : Hp} {ds : List PyData} {vs : List V} (h : DPs K β H ds vs) : ds.isEmpty = vs.isEmpty := by
  cases h <;> rfl
theorem RKs.isEmpty {K : PySem.W.Frag} {β : BB} {H : Hp} {ds : List (Ky × Val)} {vs : List (Key × V)} (h : RKs K β H ds vs) : ds.isEmpty = vs.isEmpty := by
  cases h <;> rfl
theorem RKs.length {K : PySem.W.Frag} {β : BB} {H : Hp} : ∀ {ds : List (Ky × Val)} {vs : List (Key × V)}, RKs K β H ds vs → ds.length = vs.length
  | _, _, .nil => rfl
  | _, _, .cons _ h => by rw [List.length_cons, List.length_cons, RKs.length h]
theorem tru_all : TruR X (rTru TT X.K) := by
  intro pins s σ H vx v Q I rx h
  obtain ⟨β, m, x, k, rep, hx, e, q⟩ := h
  refine tru_ok pins s σ H vx v Q I rx ⟨k, ?_, q⟩
  unfold truth at e
  cases x with
  | d x =>
    have hx' : DP X.K β H x vx := hx
    cases hx' with
    | non => cases e; exact rfl
    | bl b => cases e; exact rfl
    | int i => cases e; exact rfl
    | str y hy =>
      dsimp only at e
      split at e
      · rename_i hz
        cases e
        refine ⟨sz_le hz, ?_⟩
        rw [Bool.eq_iff_iff]
        simp
      · cases e
    | lst ha h1 h2 => cases e; exact .inl ⟨_, .inl h1, by rw [h2.isEmpty]⟩
    | tup h1 h2 => cases e; exact .inr (.inl ⟨_, h1, by rw [h2.isEmpty]⟩)
  | loc n =>
    obtain ⟨a, ea, rfl⟩ := hx
    dsimp only at e
    cases hm : m[n]? with
    | none => rw [hm] at e; cases e
    | some o =>
      rw [hm] at e
      cases o with
      | lst xs =>
        obtain ⟨vs, h1, h2⟩ := rep.lst ea hm
        cases e
        exact .inl ⟨_, .inl (.inl h1), by rw [h2.isEmpty]⟩
      | dic kvs =>
        obtain ⟨kws, h1, h2, _⟩ := rep.dic ea hm
        cases e
        exact .inr (.inr ⟨_, h1, by rw [h2.isEmpty]⟩)
end
end MN

set_option maxRecDepth 100000
set_option maxHeartbeats 4000000
/-! MnBi2: built-in functions, methods, stores by the evaluator's words. -/
namespace MN
open PySem PySem.Spec PyProof.Rows L2

/-! ### texts -/
theorem strOk_iff {x : Str} : PyData.strOk x = true ↔ ∀ c ∈ x.cps.toList, c < 0x110000 := by
  unfold PyData.strOk
  rw [← Array.all_toList, List.all_eq_true]
  constructor
  · intro h c hc
    exact of_decide_eq_true (h c hc)
  · intro h c hc
    exact decide_eq_true (h c hc)
theorem chr_lt (c : Char) : c.toNat < 0x110000 := by
  have h := c.valid
  unfold UInt32.isValidChar Nat.isValidChar at h
  show c.val.toNat < _
  omega
theorem strOk_ofString (x : String) : PyData.strOk (Str.ofString x) = true := by
  rw [strOk_iff, Str.ofString_eq_toList]
  intro c hc
  obtain ⟨d, _, rfl⟩ := List.mem_map.mp hc
  exact chr_lt d
theorem strOk_reprChar {q c : Nat} (hc : c < 0x110000) : ∀ d ∈ Builtin.Str.reprChar q c, d < 0x110000 := by
  intro d hd
  have hx : ∀ (n : Nat) (l : List Nat), (∀ y ∈ l, y < 0x110000) → ∀ y ∈ List.replicate n 48 ++ l, y < 0x110000 := fun n l hl y hy => by
    rcases List.mem_append.mp hy with h | h
    · rw [(List.mem_replicate.mp h).2]
      decide
    · exact hl y h
  have hm : ∀ y ∈ (Nat.toDigits 16 c).map Char.toNat, y < 0x110000 := fun y hy => by
    obtain ⟨e, _, rfl⟩ := List.mem_map.mp hy
    exact chr_lt e
  unfold Builtin.Str.reprChar at hd
  dsimp only at hd
  split at hd
  · simp at hd; omega
  split at hd
  · simp at hd; omega
  split at hd
  · simp at hd; omega
  split at hd
  · simp at hd; omega
  split at hd
  · simp at hd; omega
  split at hd
  · rcases List.mem_append.mp hd with h | h
    · simp at h; omega
    · exact hx _ _ hm d h
  split at hd
  · rcases List.mem_append.mp hd with h | h
    · simp at h; omega
    · exact hx _ _ hm d h
  · rcases List.mem_append.mp hd with h | h
    · simp at h; omega
    · exact hx _ _ hm d h
theorem strOk_reprText {x : Str} (h : PyData.strOk x = true) : PyData.strOk (reprText x) = true := by
  rw [strOk_iff] at h ⊢
  have hq : reprQuote x < 0x110000 := by
    unfold reprQuote
    split <;> decide
  have step : ∀ (l : List Nat) (acc : Array Nat), (∀ c ∈ l, c < 0x110000) → (∀ c ∈ acc.toList, c < 0x110000) → ∀ c ∈ (l.foldl (fun out c => out ++ (Builtin.Str.reprChar (reprQuote x) c).toArray) acc).toList, c < 0x110000 := by
    intro l
    induction l with
    | nil => intro acc _ h; exact h
    | cons y l ih =>
      intro acc h1 h2
      refine ih _ (fun c hc => h1 c (List.mem_cons_of_mem _ hc)) fun c hc => ?_
      rw [Array.toList_append, List.mem_append] at hc
      rcases hc with hc | hc
      · exact h2 c hc
      · exact strOk_reprChar (h1 y List.mem_cons_self) c (by simpa using hc)
  intro c hc
  unfold reprText at hc
  rw [Array.toList_push, List.mem_append] at hc
  rcases hc with hc | hc
  · rw [← Array.foldl_toList] at hc
    exact step x.cps.toList _ h (fun d hd => by simp at hd; rw [hd]; exact hq) c hc
  · simp at hc
    rw [hc]
    exact hq
theorem strOk_textFrom : ∀ (ts : List Str) (k : Nat) (acc : Str), PyData.strOk acc = true → (∀ t ∈ ts, PyData.strOk t = true) → PyData.strOk (textFrom k acc ts) = true
  | [], _, _, h, _ => h
  | t :: ts, k, acc, h, ht => strOk_textFrom ts (k + 1) _ (strOk_append (strOk_append h (strOk_ofString _)) (ht t List.mem_cons_self)) fun u hu => ht u (List.mem_cons_of_mem _ hu)
theorem strOk_list {ts : List Str} (h : ∀ t ∈ ts, PyData.strOk t = true) : PyData.strOk (listText ts) = true := strOk_append (strOk_textFrom ts 0 _ (strOk_ofString _) h) (strOk_ofString _)
theorem strOk_join : ∀ (ts : List Str), (∀ t ∈ ts, PyData.strOk t = true) → PyData.strOk (Str.join ", " ts) = true
  | [], _ => by
    unfold Str.join
    exact strOk_iff.mpr fun c hc => by simp [Str.empty] at hc
  | [x], h => h x List.mem_cons_self
  | x :: y :: r, h => strOk_append (strOk_append (h x List.mem_cons_self) (strOk_ofString _)) (strOk_join (y :: r) fun u hu => h u (List.mem_cons_of_mem _ hu))
theorem strOk_tuple {ts : List Str} (h : ∀ t ∈ ts, PyData.strOk t = true) : PyData.strOk (tupleText ts) = true := strOk_append (strOk_append (strOk_ofString _) (strOk_join ts h)) (strOk_ofString _)
mutual
theorem strOk_shown : ∀ d : PyData, d.canLay0 = true → PyData.strOk d.shown = true
  | .none, _ => strOk_ofString _
  | .bool b, _ => by
    unfold PyData.shown
    cases b <;> exact strOk_ofString _
  | .int i, _ => by
    unfold PyData.shown
    exact strOk_ofString _
  | .str x, h => by
    unfold PyData.shown
    exact strOk_reprText (by simpa [PyData.canLay0] using h)
  | .list xs, h => by
    unfold PyData.shown
    exact strOk_list (strOk_shownAll xs (by simpa [PyData.canLay0] using h))
  | .tuple xs, h => by
    unfold PyData.shown
    exact strOk_tuple (strOk_shownAll xs (by simpa [PyData.canLay0] using h))
  | .dict kvs, h => by simp [PyData.canLay0] at h
theorem strOk_shownAll : ∀ ds : List PyData, PyData.canLayAll0 ds = true → ∀ t ∈ PyData.shownAll ds, PyData.strOk t = true
  | [], _ => fun t ht => by simp [PyData.shownAll] at ht
  | d :: ds, h => by
    simp [PyData.canLayAll0] at h
    intro t ht
    unfold PyData.shownAll at ht
    rcases List.mem_cons.mp ht with rfl | ht
    · exact strOk_shown d h.1
    · exact strOk_shownAll ds h.2 t ht
end

/-! ### calls of built-in functions, by values -/
def rBi (TT : TB) (K : PySem.W.Frag) (C : CA) (b : Bi) : List V → Hp → VK → Prop := fun xs H Q => ∃ β m vs QE, RepS TT K β H m ∧ RVs K β H vs xs ∧ Post TT K C (RV K) β H (bi b vs m) Q QE
section
variable {X : Cx} {TT : TB} {C : CA}
theorem RVs.one {K : PySem.W.Frag} {β : BB} {H : Hp} {vs : List Val} {xs : List V} {n : Nat} (h : RVs K β H vs xs) (e : vs.length = 1) : ∃ x v, vs = [x] ∧ xs = [v] ∧ RV K β H x v := by
  cases h with
  | nil => cases e
  | cons h hs =>
    cases hs with
    | nil => exact ⟨_, _, rfl, rfl, h⟩
    | cons _ _ => simp at e
theorem bi_len : CallR X (.builtin "len") (rBi TT X.K C .len) := by
  intro pins s σ H xs us Q I r h
  obtain ⟨β, m, vs, QE, rep, hv, hp⟩ := h
  cases hv with
  | nil => exact hp.elim
  | @cons x xs v vs h0 hs =>
    cases hs with
    | cons _ _ => cases x with
      | d x => cases x <;> exact hp.elim
      | loc _ => exact hp.elim
    | nil =>
      unfold bi at hp
      cases x with
      | d x =>
        have h' : DP X.K β H x v := h0
        cases h' with
        | str y hy =>
          dsimp only at hp
          split at hp
          · rename_i hz
            exact call_len pins s σ H _ us Q I r ⟨_, y.length, rfl, ⟨sz_le hz, rfl⟩, hp.val rep (.int _)⟩
          · exact hp.elim
        | lst ha h1 h2 => exact call_len pins s σ H _ us Q I r ⟨_, _, rfl, .inl ⟨_, .inl h1, h2.length⟩, hp.val rep (.int _)⟩
        | tup h1 h2 => exact call_len pins s σ H _ us Q I r ⟨_, _, rfl, .inr ⟨_, h1, h2.length⟩, hp.val rep (.int _)⟩
        | _ => exact hp.elim
      | loc n =>
        obtain ⟨a, ea, rfl⟩ := h0
        dsimp only at hp
        cases hm : m[n]? with
        | none => rw [hm] at hp; exact hp.elim
        | some o =>
          rw [hm] at hp
          cases o with
          | lst xs =>
            obtain ⟨vs, h1, h2⟩ := rep.lst ea hm
            exact call_len pins s σ H _ us Q I r ⟨_, _, rfl, .inl ⟨_, .inl (.inl h1), h2.length⟩, hp.val rep (.int _)⟩
          | dic kvs =>
            obtain ⟨kws, h1, h2, _⟩ := rep.dic ea hm
            obtain ⟨u, rfl, rx⟩ := vals1 r
            cases rx
            refine d_len I (.inl h1) fun t s' I' => ⟨.int kws.length, H, I', ⟨t, rfl⟩, ?_⟩
            rw [← h2.length]
            exact hp.val rep (.int _)
theorem bi_int : CallR X (.type "int") (rBi TT X.K C .int) := by
  intro pins s σ H xs us Q I r h
  obtain ⟨β, m, vs, QE, rep, hv, hp⟩ := h
  cases hv with
  | nil => exact hp.elim
  | @cons x xs v vs h0 hs =>
    cases hs with
    | cons _ _ => cases x with
      | d x => cases x <;> exact hp.elim
      | loc _ => exact hp.elim
    | nil =>
      unfold bi at hp
      cases x with
      | loc _ => exact hp.elim
      | d x =>
        have h' : DP X.K β H x v := h0
        cases h' with
        | int i => exact call_int1 pins s σ H _ us Q I r (.inl ⟨i, rfl, hp.val rep (.int _)⟩)
        | _ => exact hp.elim
theorem seq_at {K : PySem.W.Frag} {β : BB} {H : Hp} {m : Store} {x : Val} {v : V} {ds : List PyData} (rep : RepS TT K β H m) (h : RV K β H x v) (e : x.seq? m = some ds) :
    ∃ a ws, v = .ref a ∧ (Rd H a (.lst ws) ∨ (SqT K H a ws ∧ x = .d (.tuple ds))) ∧ DPs K β H ds ws := by
  unfold Val.seq? at e
  cases q : x.py? m with
  | none => rw [q] at e; cases e
  | some d =>
    rw [q] at e
    have px := py_pv rep h q
    cases px with
    | lst h1 h2 => cases e; exact ⟨_, _, rfl, .inl h1, h2⟩
    | tup h1 h2 =>
      cases e
      refine ⟨_, _, rfl, .inr ⟨h1, ?_⟩, h2⟩
      cases x with
      | d x => cases q; rfl
      | loc n =>
        unfold Val.py? at q
        dsimp only at q
        cases hm : m[n]? with
        | none => rw [hm] at q; cases q
        | some o =>
          rw [hm] at q
          cases o <;> cases q
    | _ => cases e
theorem bi_tuple : CallR X (.type "tuple") (rBi TT X.K C .tuple) := by
  intro pins s σ H xs us Q I r h
  obtain ⟨β, m, vs, QE, rep, hv, hp⟩ := h
  cases hv with
  | nil => exact hp.elim
  | @cons x xs v vs h0 hs =>
    cases hs with
    | cons _ _ => cases x with
      | d x => cases x <;> exact hp.elim
      | loc _ => exact hp.elim
    | nil =>
      have hp : Post TT X.K C (RV X.K) β H (match x.seq? m with
        | some xs => .ok (.d (.tuple xs)) m
        | none => .no) Q QE := by
        cases x with
        | d x => cases x <;> exact hp
        | loc _ => exact hp
      cases e : x.seq? m with
      | none => rw [e] at hp; exact hp.elim
      | some ds =>
        rw [e] at hp
        obtain ⟨a, ws, rfl, h1, h2⟩ := seq_at rep h0 e
        rcases h1 with h1 | ⟨h1, e1⟩
        · exact call_tuple_of pins s σ H _ us Q I r ⟨a, ws, rfl, .inl ⟨.inl h1, fun l hn => hp.newT rep h2 hn⟩⟩
        · exact call_tuple_of pins s σ H _ us Q I r ⟨a, ws, rfl, .inr ⟨h1, hp.val rep (.tup h1 h2)⟩⟩
theorem bi_list : CallR X (.type "list") (rBi TT X.K C .list) := by
  intro pins s σ H xs us Q I r h
  obtain ⟨β, m, vs, QE, rep, hv, hp⟩ := h
  cases hv with
  | nil => exact hp.elim
  | @cons x xs v vs h0 hs =>
    cases hs with
    | cons _ _ => cases x with
      | d x => cases x <;> exact hp.elim
      | loc _ => exact hp.elim
    | nil =>
      have hp : Post TT X.K C (RV X.K) β H (match x.seq? m with
        | some xs => .ok (.d (.list xs)) m
        | none => .no) Q QE := by
        cases x with
        | d x => cases x <;> exact hp
        | loc _ => exact hp
      cases e : x.seq? m with
      | none => rw [e] at hp; exact hp.elim
      | some ds =>
        rw [e] at hp
        obtain ⟨a, ws, rfl, h1, h2⟩ := seq_at rep h0 e
        refine call_list_of pins s σ H _ us Q I r ⟨a, ws, rfl, ?_, fun l hn => hp.newL rep h2 hn⟩
        rcases h1 with h1 | ⟨h1, e1⟩
        · exact .inl (.inl h1)
        · exact .inr h1
def rBl (TT : TB) (K : PySem.W.Frag) (C : CA) (b : Bi) : List V → Hp → VK → Prop := fun xs H Q => ∃ β m vs QE, RepS TT K β H m ∧ RVs K β H vs xs ∧ Post TT K C (RV K) β H (bloc b vs m) Q QE
theorem bl_list : CallR X (.type "list") (rBl TT X.K C .list) := by
  intro pins s σ H xs us Q I r h
  obtain ⟨β, m, vs, QE, rep, hv, hp⟩ := h
  cases hv with
  | nil => exact hp.elim
  | @cons x xs v vs h0 hs =>
    cases hs with
    | cons _ _ => exact hp.elim
    | nil =>
      unfold bloc at hp
      dsimp only at hp
      cases e : x.seq? m with
      | none => rw [e] at hp; exact hp.elim
      | some ds =>
        rw [e] at hp
        obtain ⟨a, ws, rfl, h1, h2⟩ := seq_at rep h0 e
        refine call_list_of pins s σ H _ us Q I r ⟨a, ws, rfl, ?_, fun l hn => hp.newM rep h2 rfl hn⟩
        rcases h1 with h1 | ⟨h1, e1⟩
        · exact .inl (.inl h1)
        · exact .inr h1
theorem bl_dict : CallR X (.type "dict") (rBl TT X.K C .dict) := by
  intro pins s σ H xs us Q I r h
  obtain ⟨β, m, vs, QE, rep, hv, hp⟩ := h
  cases hv with
  | nil => exact hp.elim
  | @cons x xs v vs h0 hs =>
    cases hs with
    | cons _ _ => cases x <;> exact hp.elim
    | nil =>
      unfold bloc at hp
      cases x with
      | d _ => exact hp.elim
      | loc n =>
        obtain ⟨a, ea, rfl⟩ := h0
        dsimp only at hp
        cases hm : m[n]? with
        | none => rw [hm] at hp; exact hp.elim
        | some o =>
          rw [hm] at hp
          cases o with
          | lst _ => exact hp.elim
          | dic kvs =>
            obtain ⟨kws, h1, h2, h3⟩ := rep.dic ea hm
            refine call_dictD pins s σ H _ us Q I r ⟨a, kws, rfl, .inl h1, fun p hn => hp.newM (o := .dK kws) rep h2 ?_ hn⟩
            unfold oldB
            rw [List.all_eq_true] at h3 ⊢
            intro p hp
            have h4 := h3 p hp
            have hl : n < m.length := (List.getElem?_eq_some_iff.mp hm).1
            cases e4 : p.2 with
            | d _ => rfl
            | loc j =>
              rw [e4] at h4
              have := of_decide_eq_true (show decide (j < n) = true from h4)
              exact decide_eq_true (show j < m.length by omega)
theorem bi_max2 (hc : X.calm = true) : CallR X (.builtin "max") (rBi TT X.K C .max2) := by
  intro pins s σ H xs us Q I r h
  obtain ⟨β, m, vs, QE, rep, hv, hp⟩ := h
  cases hv with
  | nil => exact hp.elim
  | @cons x xs v vs h0 hs =>
    cases hs with
    | nil => cases x with
      | d x => cases x <;> exact hp.elim
      | loc _ => exact hp.elim
    | @cons y ys w ws h1 hs2 =>
      cases x with
      | loc _ => cases y <;> exact hp.elim
      | d x =>
        cases y with
        | loc _ => cases x <;> exact hp.elim
        | d y =>
          have h0' : DP X.K β H x v := h0
          have h1' : DP X.K β H y w := h1
          cases hs2 with
          | cons _ _ => cases h0' <;> cases h1' <;> exact (show False from hp).elim
          | nil =>
            cases h0' <;> cases h1' <;> first | exact (show False from hp).elim | skip
            exact call_max2 hc pins s σ H _ us Q I r ⟨_, _, rfl, hp.val rep (.int _)⟩
theorem bi_min2 (hc : X.calm = true) : CallR X (.builtin "min") (rBi TT X.K C .min2) := by
  intro pins s σ H xs us Q I r h
  obtain ⟨β, m, vs, QE, rep, hv, hp⟩ := h
  cases hv with
  | nil => exact hp.elim
  | @cons x xs v vs h0 hs =>
    cases hs with
    | nil => cases x with
      | d x => cases x <;> exact hp.elim
      | loc _ => exact hp.elim
    | @cons y ys w ws h1 hs2 =>
      cases x with
      | loc _ => cases y <;> exact hp.elim
      | d x =>
        cases y with
        | loc _ => cases x <;> exact hp.elim
        | d y =>
          have h0' : DP X.K β H x v := h0
          have h1' : DP X.K β H y w := h1
          cases hs2 with
          | cons _ _ => cases h0' <;> cases h1' <;> exact (show False from hp).elim
          | nil =>
            cases h0' <;> cases h1' <;> first | exact (show False from hp).elim | skip
            exact call_min2 hc pins s σ H _ us Q I r ⟨_, _, rfl, hp.val rep (.int _)⟩
theorem maxL_spec : ∀ (a : Int) (r : List Int), maxL a r ∈ a :: r ∧ ∀ y ∈ a :: r, y ≤ maxL a r
  | a, [] => ⟨List.mem_singleton.mpr rfl, fun y hy => by rw [List.mem_singleton.mp hy]; exact Int.le_refl _⟩
  | a, b :: r => by
    unfold maxL
    by_cases hb : b > a
    · rw [if_pos hb]
      obtain ⟨h1, h2⟩ := maxL_spec b r
      refine ⟨List.mem_cons_of_mem _ h1, fun y hy => ?_⟩
      rcases List.mem_cons.mp hy with rfl | hy
      · have := h2 b List.mem_cons_self
        omega
      · exact h2 y hy
    · rw [if_neg hb]
      obtain ⟨h1, h2⟩ := maxL_spec a r
      refine ⟨?_, fun y hy => ?_⟩
      · rcases List.mem_cons.mp h1 with h | h
        · rw [h]
          exact List.mem_cons_self
        · exact List.mem_cons_of_mem _ (List.mem_cons_of_mem _ h)
      · rcases List.mem_cons.mp hy with rfl | hy
        · exact h2 _ List.mem_cons_self
        · rcases List.mem_cons.mp hy with rfl | hy
          · have := h2 a List.mem_cons_self
            omega
          · exact h2 y (List.mem_cons_of_mem _ hy)
theorem lst_ints {K : PySem.W.Frag} {β : BB} {H : Hp} {m : Store} {x : Val} {v : V} {ds : List PyData} {ns : List Int} (rep : RepS TT K β H m) (h : RV K β H x v) (e : x.py? m = some (.list ds)) (e2 : ints? ds = some ns) :
    ∃ a, v = .ref a ∧ SqL K H a (ns.map V.int) := by
  have px := py_pv rep h e
  cases px with
  | lst h1 h2 =>
    rw [ints_V h2 e2] at h1
    exact ⟨_, rfl, .inl h1⟩
theorem max_eq {ns : List Int} {a M : Int} {r : List Int} (e : ns = a :: r) (h1 : M ∈ ns) (h2 : ∀ y ∈ ns, y ≤ M) : M = maxL a r := by
  subst e
  obtain ⟨g1, g2⟩ := maxL_spec a r
  have := h2 _ g1
  have := g2 _ h1
  omega
theorem mm_ok {xs : List PyData} (h : mmOk xs = true) : PySem.W.AlikeAll xs ∧ PyData.depthAll xs ≤ 64 := by
  unfold mmOk at h
  simp only [Bool.and_eq_true, List.all_eq_true, decide_eq_true_iff] at h
  refine ⟨⟨fun x hx y hy => (h.1 x hx).1 y hy, fun x hx e => ?_⟩, h.2⟩
  subst e
  exact absurd (h.1 _ hx).2 (by decide)
/-- the item at a place, as it stands in both heaps -/
theorem mm_item {pins : List (Addr × Obj)} {s : Shared} {σ : L2.St} {β : BB} {ds : List PyData} {ws : List V} {its : List Value} {i : Nat} {v : Value} {d : PyData} {h' : Heap} {bs : List Addr} (I : Inv X pins σ H s) (hd : DPs X.K β H ds ws) (rv : Vals ws its) (hv : its.toArray[i]? = some v)
    (hk : ∀ b o, s.heap.get? b = some o → h'.get? b = some o) (rd : Reads h' v d bs) : ∃ w, DP X.K β H d w ∧ RelV w v := by
  have hv : its[i]? = some v := by simpa using hv
  have hi : i < its.length := (List.getElem?_eq_some_iff.mp hv).1
  have l1 := rv.length
  have l2 := hd.length
  obtain ⟨w, hw, hdw⟩ := hd.get (List.getElem?_eq_getElem (show i < ds.length by omega))
  obtain ⟨u, hu, rw⟩ := rv.get hw
  rw [hv] at hu
  cases hu
  obtain ⟨as, r2⟩ := Dp.reads I _ w v hdw.pv.dp rw
  have e := (Reads.unique (PyProof.Rows.Reads.keeps hk r2) _ _ rd).1
  rw [e] at hdw
  exact ⟨w, hdw, rw⟩
theorem bi_min1 (hc : X.calm = true) (hu : X.A.units + 200 < cLine) : CallR X (.builtin "min") (rBi TT X.K C .min1) := by
  intro pins s σ H xs us Q I r h
  obtain ⟨β, m, vs, QE, rep, hv, hp⟩ := h
  cases hv with
  | nil => exact hp.elim
  | @cons x xs v vs h0 hs =>
    cases hs with
    | cons _ _ => cases x with
      | d x => cases x <;> exact hp.elim
      | loc _ => exact hp.elim
    | nil =>
      have hp : Post TT X.K C (RV X.K) β H (match x.py? m with
        | some (.list xs) => minX xs m
        | _ => .no) Q QE := by
        cases x with
        | d x => cases x <;> exact hp
        | loc _ => exact hp
      split at hp
      · rename_i ds e
        cases ds with
        | nil => exact hp.elim
        | cons y ys =>
          unfold minX at hp
          dsimp only at hp
          split at hp
          · rename_i hz
            obtain ⟨al, dp⟩ := mm_ok hz
            have px := py_pv rep h0 e
            cases px with
            | lst h1 h2 =>
              obtain ⟨its, rv, hl, _⟩ := I.list (.inl h1)
              rw [Vals.ref1 r]
              obtain ⟨as, rd⟩ := Dp.readsAll I _ _ _ h2.dp rv
              refine PySem.W.min_list_data (I.ok.hd hc) hl.isList (by simpa using rd) al (by omega) fun i v h' tk bs hv hr hk => ?_
              obtain ⟨w, hw, rw⟩ := mm_item I h2 rv hv hk hr
              exact ⟨w, H, I.kept hk, rw, hp.val rep hw⟩
          · exact hp.elim
      · exact hp.elim
theorem bi_max1 (hc : X.calm = true) (hu : X.A.units + 200 < cLine) : CallR X (.builtin "max") (rBi TT X.K C .max1) := by
  intro pins s σ H xs us Q I r h
  obtain ⟨β, m, vs, QE, rep, hv, hp⟩ := h
  cases hv with
  | nil => exact hp.elim
  | @cons x xs v vs h0 hs =>
    cases hs with
    | cons _ _ => cases x with
      | d x => cases x <;> exact hp.elim
      | loc _ => exact hp.elim
    | nil =>
      have hp : Post TT X.K C (RV X.K) β H (match x.py? m with
        | some (.list xs) => (match ints? xs with
          | some (a :: r) => .ok (.d (.int (maxL a r))) m
          | some [] => .no
          | none => maxX xs m)
        | _ => .no) Q QE := by
        cases x with
        | d x => cases x <;> exact hp
        | loc _ => exact hp
      split at hp
      · rename_i ds e
        split at hp
        · rename_i a ns e2
          obtain ⟨p, rfl, h1⟩ := lst_ints rep h0 e e2
          refine cr_max hc pins s σ H _ us Q I r ⟨p, a :: ns, rfl, h1, by simp, fun M g1 g2 => ?_⟩
          rw [max_eq rfl g1 g2]
          exact hp.val rep (.int _)
        · exact hp.elim
        · cases ds with
          | nil => exact hp.elim
          | cons y ys =>
            unfold maxX at hp
            dsimp only at hp
            split at hp
            · rename_i hz
              obtain ⟨al, dp⟩ := mm_ok hz
              have px := py_pv rep h0 e
              cases px with
              | lst h1 h2 =>
                obtain ⟨its, rv, hl, _⟩ := I.list (.inl h1)
                rw [Vals.ref1 r]
                obtain ⟨as, rd⟩ := Dp.readsAll I _ _ _ h2.dp rv
                refine PySem.W.max_list_data (I.ok.hd hc) hl.isList (by simpa using rd) al (by omega) fun i v h' tk bs hv hr hk => ?_
                obtain ⟨w, hw, rw⟩ := mm_item I h2 rv hv hk hr
                exact ⟨w, H, I.kept hk, rw, hp.val rep hw⟩
            · exact hp.elim
      · exact hp.elim
theorem bi_sum (hc : X.calm = true) : CallR X (.builtin "sum") (rBi TT X.K C .sum) := by
  intro pins s σ H xs us Q I r h
  obtain ⟨β, m, vs, QE, rep, hv, hp⟩ := h
  cases hv with
  | nil => exact hp.elim
  | @cons x xs v vs h0 hs =>
    cases hs with
    | cons _ _ => cases x with
      | d x => cases x <;> exact hp.elim
      | loc _ => exact hp.elim
    | nil =>
      have hp : Post TT X.K C (RV X.K) β H (match x.py? m with
        | some (.list xs) => (match ints? xs with
          | some is => .ok (.d (.int is.sum)) m
          | _ => .no)
        | _ => .no) Q QE := by
        cases x with
        | d x => cases x <;> exact hp
        | loc _ => exact hp
      split at hp
      · rename_i ds e
        split at hp
        · rename_i ns e2
          obtain ⟨p, rfl, h1⟩ := lst_ints rep h0 e e2
          exact cr_sum hc pins s σ H _ us Q I r ⟨p, ns, rfl, h1, hp.val rep (.int _)⟩
        · exact hp.elim
      · exact hp.elim
theorem bi_repr (hg : X.A.guards = some []) (hu : X.A.units + 200 < cLine) : CallR X (.builtin "repr") (rBi TT X.K C .repr) := by
  intro pins s σ H xs us Q I r h
  obtain ⟨β, m, vs, QE, rep, hv, hp⟩ := h
  cases hv with
  | nil => exact hp.elim
  | @cons x xs v vs h0 hs =>
    cases hs with
    | cons _ _ => cases x with
      | d x => cases x <;> exact hp.elim
      | loc _ => exact hp.elim
    | nil =>
      have hp : Post TT X.K C (RV X.K) β H (match x.py? m with
        | some x => if shOk x = true then .ok (.d (.str x.shown)) m else .no
        | none => .no) Q QE := by
        cases x with
        | d x => cases x <;> exact hp
        | loc _ => exact hp
      split at hp
      · rename_i d e
        split at hp
        · rename_i hz
          unfold shOk at hz
          simp only [Bool.and_eq_true, decide_eq_true_eq] at hz
          obtain ⟨⟨z1, z2⟩, z3⟩ := hz
          have z2 := sz_le z2
          have px := py_pv rep h0 e
          have ok := px.lay
          obtain ⟨u, rfl, rx⟩ := vals1 r
          have q : Q (.str d.shown) H := hp.val rep (.str _ (strOk_shown d ok))
          have fin : ∀ (h' : Heap) (w : Tok) (tk : Nat), (∀ b o, s.heap.get? b = some o → h'.get? b = some o) → EP X pins σ Q (.str d.shown w) { s with heap := h', toks := tk } := fun h' w tk k => ⟨.str _, H, I.kept k, ⟨_, rfl⟩, q⟩
          cases px with
          | non => cases rx; exact PySem.P.repr_of_none ⟨.str _, H, I.tok _, ⟨_, rfl⟩, q⟩
          | bl b =>
            cases rx
            refine PySem.P.repr_of_bool ⟨.str _, H, I.tok _, ⟨s.toks, ?_⟩, q⟩
            unfold PyData.shown
            cases b <;> rfl
          | int i =>
            obtain ⟨t, rfl⟩ := rx
            unfold PyData.showable at z1
            refine PySem.P.repr_of_int (of_decide_eq_true z1) ⟨.str _, H, I.tok _, ⟨s.toks, ?_⟩, q⟩
            unfold PyData.shown
            rfl
          | str y hy =>
            obtain ⟨t, rfl⟩ := rx
            unfold PyData.shown at z2 q
            exact PySem.P.repr_of_str ⟨.str _, H, I.tok _, ⟨s.toks, rfl⟩, q⟩ z2
          | lst h1 h2 =>
            cases rx
            obtain ⟨as, r1⟩ := Dp.reads I (.list _) _ _ (.lst (.inl h1) h2.dp) rfl
            exact repr_of_reads' r1 z1 (PyData.noDict_hsm (PyData.hasDict_of_canLay _ ok)) hg (by omega) (fun _ _ e => e) fin z2
          | tup h1 h2 =>
            cases rx
            obtain ⟨as, r1⟩ := Dp.reads I (.tuple _) _ _ (.tup h1 h2.dp) rfl
            exact repr_of_reads' r1 z1 (PyData.noDict_hsm (PyData.hasDict_of_canLay _ ok)) hg (by omega) (fun _ _ e => e) fin z2
        · exact hp.elim
      · exact hp.elim
end
end MN

set_option maxRecDepth 100000
set_option maxHeartbeats 4000000
/-! MnBi3: isinstance, methods, stores by the evaluator's words. -/
namespace MN
open PySem PySem.Spec PyProof.Rows L2

section
variable {X : Cx} {TT : TB} {C : CA}
/-! ### isinstance -/
def rIs (TT : TB) (K : PySem.W.Frag) (b : Bi) (T : String) : List V → Hp → VK → Prop := fun xs H Q => ∃ β m x v k, xs = [v, .ty T] ∧ RepS TT K β H m ∧ RV K β H x v ∧ isK b x m = some k ∧ Q (.bl k) H
def biTy : Bi → Option String
  | .isInt => some "int"
  | .isBool => some "bool"
  | .isStr => some "str"
  | .isTup => some "tuple"
  | .isList => some "list"
  | .isDict => some "dict"
  | _ => none
theorem tyx_rd {K : PySem.W.Frag} {H : Hp} {a : Addr} {vs : List V} (h : Rd H a (.lst vs)) : TyX K H (.ref a) (.type "list") := by
  rcases h with h | ⟨o, h⟩
  · exact .base (.lst h)
  · exact .base (.frz h)
theorem tyx_sqt {K : PySem.W.Frag} {H : Hp} {a : Addr} {vs : List V} (h : SqT K H a vs) : TyX K H (.ref a) (.type "tuple") := by
  rcases h with (h | ⟨o, h⟩) | ⟨o, its, n, h1, h2, _⟩
  · exact .base (.tup h)
  · exact .fTuple h
  · exact .kTuple h1 h2
theorem bi_is {b : Bi} {T : String} (hT : biTy b = some T) : CallR X (.builtin "isinstance") (rIs TT X.K b T) := by
  intro pins s σ H xs us Q I r h
  obtain ⟨β, m, x, v, k, rfl, rep, hx, e, q⟩ := h
  have go : ∀ {t : String}, TyX X.K H v (.type t) → kitB t T = some k → wpAny (model X.prog X.w) X.A (call (.builtin "isinstance") us) (EP X pins σ Q) X.xe s := fun {t} ty kk =>
    call_isi pins s σ H _ us Q I r ⟨v, .ty T, .type t, .type T, k, rfl, .ty T, ty, kit_ty kk, q⟩
  cases x with
  | d x =>
    have hx' : DP X.K β H x v := hx
    cases hx' with
    | non => cases b <;> cases hT <;> cases e <;> exact go (.base .non) (by decide +kernel)
    | bl c => cases b <;> cases hT <;> cases e <;> exact go (.base (.bl c)) (by decide +kernel)
    | int i => cases b <;> cases hT <;> cases e <;> exact go (.base (.int i)) (by decide +kernel)
    | str y _ => cases b <;> cases hT <;> cases e <;> exact go (.base (.str y)) (by decide +kernel)
    | lst ha h1 h2 => cases b <;> cases hT <;> cases e <;> exact go (tyx_rd h1) (by decide +kernel)
    | tup h1 h2 => cases b <;> cases hT <;> cases e <;> exact go (tyx_sqt h1) (by decide +kernel)
  | loc n =>
    obtain ⟨a, ea, rfl⟩ := hx
    have hl : n < m.length := by rw [← rep.len]; exact (List.getElem?_eq_some_iff.mp ea).1
    obtain ⟨o, hm⟩ : ∃ o, m[n]? = some o := ⟨_, List.getElem?_eq_getElem hl⟩
    cases o with
    | lst xs =>
      obtain ⟨vs, h1, h2⟩ := rep.lst ea hm
      cases b <;> cases hT <;> simp only [isK, hm, Option.some.injEq] at e <;> subst e <;> exact go (tyx_rd (.inl h1)) (by decide +kernel)
    | dic kvs =>
      obtain ⟨kws, h1, h2, _⟩ := rep.dic ea hm
      cases b <;> cases hT <;> simp only [isK, hm, Option.some.injEq] at e <;> subst e <;> exact go (.base (.dK h1)) (by decide +kernel)
/-! ### methods -/
def mtId : Mt → String
  | .append => "list.append"
  | .pop => "list.pop"
  | .reverse => "list.reverse"
  | .get1 => "dict.get"
  | .get2 => "dict.get"
def mtTy : Mt → String
  | .append => "list"
  | .pop => "list"
  | .reverse => "list"
  | .get1 => "dict"
  | .get2 => "dict"
def rMt (TT : TB) (K : PySem.W.Frag) (C : CA) (k : Mt) : V → List V → Hp → VK → Prop := fun x xs H Q => ∃ β m o vs QE, RepS TT K β H m ∧ RV K β H o x ∧ RVs K β H vs xs ∧ Post TT K C (RV K) β H (mt k o vs m) Q QE
theorem mtOk_ty {K : PySem.W.Frag} {β : BB} {H : Hp} {m : Store} {o : Val} {v : V} {k : Mt} (rep : RepS TT K β H m) (h : RV K β H o v) (e : mtOk k o m = true) : tyV K (mtTy k) v H := by
  cases o with
  | d _ => cases e
  | loc n =>
    obtain ⟨a, ea, rfl⟩ := h
    have hl : n < m.length := by rw [← rep.len]; exact (List.getElem?_eq_some_iff.mp ea).1
    obtain ⟨o, hm⟩ : ∃ o, m[n]? = some o := ⟨_, List.getElem?_eq_getElem hl⟩
    unfold mtOk at e
    dsimp only at e
    rw [hm] at e
    cases o with
    | lst xs =>
      obtain ⟨vs, h1, h2⟩ := rep.lst ea hm
      cases k <;> first | exact .inl ⟨rfl, vs, .inl (.inl h1)⟩ | cases e
    | dic kvs =>
      obtain ⟨kws, h1, h2, _⟩ := rep.dic ea hm
      cases k <;> first | exact .inr (.inr (.inl ⟨rfl, .inl ⟨kws, h1⟩⟩)) | cases e
theorem Post.set {K : PySem.W.Frag} {β : BB} {H : Hp} {m : Store} {Q : VK} {QE : XK} {n : Nat} {a : Addr} {o o' : HO} {ob : MO} {x : Val} {v : V} (h : Post TT K C (RV K) β H (.ok x (m.set n ob)) Q QE) (r : RepS TT K β H m) (hn : β.pos[n]? = some a) (ha : H a = some o)
    (k : (∃ vs, o = .lst vs) ∨ ∃ kws, o = .dK kws) (q : RO K β H ob o') (old : oldB n ob = true) (rv : RV K β H x v) : Q v (upd H a o') := by
  have g : Grow β H [] (upd H a o') := Grow.write (List.mem_of_getElem? hn) ha k
  exact h [] _ _ g (by rw [BB.app_nil]; exact r.write hn ha k q old) (rv.grow g)
theorem mt_all (hu : X.A.units + 1 < cLine) (k : Mt) : MtR X (mtId k) (rMt TT X.K C k) := by
  intro pins s σ H x xs v us Q I rx rs h
  obtain ⟨β, m, o, vs, QE, rep, ho, hv, hp⟩ := h
  cases o with
  | d _ => cases k <;> exact hp.elim
  | loc n =>
    obtain ⟨a, ea, rfl⟩ := ho
    have hl : n < m.length := by rw [← rep.len]; exact (List.getElem?_eq_some_iff.mp ea).1
    obtain ⟨o, hm⟩ : ∃ o, m[n]? = some o := ⟨_, List.getElem?_eq_getElem hl⟩
    cases k with
    | append =>
      cases hv with
      | nil => exact hp.elim
      | @cons y ys w ws h0 hs =>
        cases hs with
        | cons _ _ => cases y <;> exact hp.elim
        | nil =>
          cases y with
          | loc _ => exact hp.elim
          | d y =>
            unfold mt at hp
            dsimp only at hp
            rw [hm] at hp
            cases o with
            | dic _ => exact hp.elim
            | lst zs =>
              obtain ⟨vs, h1, h2⟩ := rep.lst ea hm
              dsimp only at hp
              split at hp
              · rename_i hz
                refine mt_append pins s σ H _ _ v us Q I rx rs ⟨a, vs, w, rfl, rfl, h1, ?_, ?_⟩
                · rw [← h2.length, sizeLine_eq]
                  exact hz
                · exact Post.set (ob := .lst (zs ++ [y])) hp rep ea h1 (.inl ⟨_, rfl⟩) (show DPs X.K β H _ _ from h2.append (.cons h0 .nil)) rfl (show DP X.K β H _ _ from .non)
              · exact hp.elim
    | pop =>
      cases hv with
      | cons _ _ => exact hp.elim
      | nil =>
        unfold mt at hp
        dsimp only at hp
        rw [hm] at hp
        cases o with
        | dic _ => exact hp.elim
        | lst zs =>
          obtain ⟨vs, h1, h2⟩ := rep.lst ea hm
          dsimp only at hp
          split at hp
          · rename_i z e
            obtain ⟨w, e1, e2⟩ := h2.get e
            rw [h2.length] at e1
            exact mt_pop pins s σ H _ _ v us Q I rx rs ⟨a, vs, w, rfl, rfl, h1, e1, Post.set (ob := .lst zs.dropLast) (x := .d z) hp rep ea h1 (.inl ⟨_, rfl⟩) (show DPs X.K β H _ _ from h2.dropLast) rfl e2⟩
          · exact hp.elim
    | reverse =>
      cases hv with
      | cons _ _ => exact hp.elim
      | nil =>
        unfold mt at hp
        dsimp only at hp
        rw [hm] at hp
        cases o with
        | dic _ => exact hp.elim
        | lst zs =>
          obtain ⟨vs, h1, h2⟩ := rep.lst ea hm
          exact mt_reverse pins s σ H _ _ v us Q I rx rs ⟨a, vs, rfl, rfl, h1, Post.set (ob := .lst zs.reverse) (x := .d .none) hp rep ea h1 (.inl ⟨_, rfl⟩) (show DPs X.K β H _ _ from h2.reverse) rfl (show DP X.K β H _ _ from .non)⟩
    | get1 =>
      cases hv with
      | nil => exact hp.elim
      | @cons y ys w ws h0 hs =>
        cases hs with
        | cons _ _ => cases y <;> exact hp.elim
        | nil =>
          cases y with
          | loc _ => exact hp.elim
          | d y =>
            unfold mt at hp
            dsimp only at hp
            rw [hm] at hp
            cases o with
            | lst _ => exact hp.elim
            | dic kvs =>
              obtain ⟨kws, h1, h2, _⟩ := rep.dic ea hm
              cases ek : keyOf y with
              | none => rw [ek] at hp; exact hp.elim
              | some k =>
                rw [ek] at hp
                have ekv : w = kV k := key_kV h0 ek
                subst ekv
                cases rx
                obtain ⟨u, rfl, ru⟩ := vals1 rs
                refine d_get1 hu I (DGet.k (k := k) h1) ru fun w' s' I' rw' => ⟨_, H, I', rw', ?_⟩
                rcases h2.look k with ⟨e1, e2⟩ | ⟨z, w2, e1, e2, rz⟩
                · rw [e2]
                  dsimp only at hp
                  rw [e1] at hp
                  exact hp.val rep (show DP X.K β H _ _ from .non)
                · rw [e2]
                  dsimp only at hp
                  rw [e1] at hp
                  exact hp.val rep rz
    | get2 =>
      cases hv with
      | nil => exact hp.elim
      | @cons y ys w ws h0 hs =>
        cases hs with
        | nil => cases y <;> exact hp.elim
        | @cons y2 ys2 w2 ws2 h02 hs2 =>
          cases hs2 with
          | cons _ _ => cases y <;> exact hp.elim
          | nil =>
            cases y with
            | loc _ => exact hp.elim
            | d y =>
              unfold mt at hp
              dsimp only at hp
              rw [hm] at hp
              cases o with
              | lst _ => exact hp.elim
              | dic kvs =>
                obtain ⟨kws, h1, h2, _⟩ := rep.dic ea hm
                cases ek : keyOf y with
                | none => rw [ek] at hp; exact hp.elim
                | some k =>
                  rw [ek] at hp
                  have ekv : w = kV k := key_kV h0 ek
                  subst ekv
                  cases rx
                  obtain ⟨u, u2, rfl, ru, ru2⟩ := vals2 rs
                  refine d_get2 hu I (DGet.k (k := k) h1) ru ru2 fun w' s' I' rw' => ⟨_, H, I', rw', ?_⟩
                  rcases h2.look k with ⟨e1, e2⟩ | ⟨z, w3, e1, e2, rz⟩
                  · rw [e2]
                    dsimp only at hp
                    rw [e1] at hp
                    exact hp.val rep h02
                  · rw [e2]
                    dsimp only at hp
                    rw [e1] at hp
                    exact hp.val rep rz
/-! ### o[i] = v -/
def rSet (TT : TB) (K : PySem.W.Frag) (C : CA) : TSet := fun ov iv vv H Q => ∃ β m o i v QE, RepS TT K β H m ∧ RV K β H o ov ∧ RV K β H i iv ∧ RV K β H v vv ∧ Post TT K C RU β H (setItem o i v m) (fun _ H1 => Q H1) QE
theorem RKs.any {K : PySem.W.Frag} {β : BB} {H : Hp} (k : Ky) : ∀ {kvs : List (Ky × Val)} {kws : List (Key × V)}, RKs K β H kvs kws → (kvs.any fun kv => decide (kv.1 = k)) = kws.any fun kv => decide (kv.1 = k)
  | _, _, .nil => rfl
  | _, _, .cons _ hs => by rw [List.any_cons, List.any_cons, RKs.any k hs]
theorem RKs.map {K : PySem.W.Frag} {β : BB} {H : Hp} (k : Ky) {x : Val} {v : V} (r : RV K β H x v) : ∀ {kvs : List (Ky × Val)} {kws : List (Key × V)}, RKs K β H kvs kws →
    RKs K β H (kvs.map fun kv => if kv.1 = k then (kv.1, x) else kv) (kws.map fun kv => if kv.1 = k then (kv.1, v) else kv)
  | _, _, .nil => .nil
  | _, _, .cons (k := j) h hs => by
    rw [List.map_cons, List.map_cons]
    by_cases e : j = k
    · rw [if_pos e, if_pos e]
      exact .cons r (RKs.map k r hs)
    · rw [if_neg e, if_neg e]
      exact .cons h (RKs.map k r hs)
theorem RKs.snoc {K : PySem.W.Frag} {β : BB} {H : Hp} (k : Ky) {x : Val} {v : V} (r : RV K β H x v) : ∀ {kvs : List (Ky × Val)} {kws : List (Key × V)}, RKs K β H kvs kws → RKs K β H (kvs ++ [(k, x)]) (kws ++ [(k, v)])
  | _, _, .nil => .cons r .nil
  | _, _, .cons h hs => .cons h (RKs.snoc k r hs)
theorem RKs.put {K : PySem.W.Frag} {β : BB} {H : Hp} (k : Ky) {x : Val} {v : V} (r : RV K β H x v) {kvs : List (Ky × Val)} {kws : List (Key × V)} (h : RKs K β H kvs kws) : RKs K β H (MN.putK kvs k x) (L2.putK kws k v) := by
  unfold MN.putK L2.putK
  rw [h.any k]
  split
  · exact h.map k r
  · exact h.snoc k r
theorem old_put {n : Nat} {kvs : List (Ky × Val)} {k : Ky} {x : PyData} (h : (kvs.all fun p => oldV n p.2) = true) : oldB n (.dic (MN.putK kvs k (.d x))) = true := by
  unfold oldB
  rw [List.all_eq_true] at h ⊢
  unfold MN.putK
  intro p hp
  split at hp
  · obtain ⟨q, hq, rfl⟩ := List.mem_map.mp hp
    split
    · rfl
    · exact h q hq
  · rcases List.mem_append.mp hp with hp | hp
    · exact h p hp
    · rw [List.mem_singleton.mp hp]
      rfl
theorem Post.setU {K : PySem.W.Frag} {β : BB} {H : Hp} {m : Store} {Q : Unit → Hp → Prop} {QE : XK} {n : Nat} {a : Addr} {o o' : HO} {ob : MO} (h : Post TT K C RU β H (.ok () (m.set n ob)) Q QE) (r : RepS TT K β H m) (hn : β.pos[n]? = some a) (ha : H a = some o)
    (k : (∃ vs, o = .lst vs) ∨ ∃ kws, o = .dK kws) (q : RO K β H ob o') (old : oldB n ob = true) : Q () (upd H a o') := by
  have g : Grow β H [] (upd H a o') := Grow.write (List.mem_of_getElem? hn) ha k
  exact h [] _ _ g (by rw [BB.app_nil]; exact r.write hn ha k q old) trivial
theorem set_all (hu : X.A.units + 1 < cLine) : PSet X (rSet TT X.K C) := by
  intro pins s σ H ov iv vv v0 v1 v2 Q I ro ri rv h
  obtain ⟨β, m, o, i, v, QE, rep, ho, hi, hv, hp⟩ := h
  cases o with
  | d _ => cases i <;> cases v <;> exact hp.elim
  | loc n =>
    obtain ⟨a, ea, rfl⟩ := ho
    cases i with
    | loc _ => cases v <;> exact hp.elim
    | d i =>
      cases v with
      | loc _ => exact hp.elim
      | d x =>
        have hl : n < m.length := by rw [← rep.len]; exact (List.getElem?_eq_some_iff.mp ea).1
        obtain ⟨ob, hm⟩ : ∃ o, m[n]? = some o := ⟨_, List.getElem?_eq_getElem hl⟩
        unfold MN.setItem at hp
        dsimp only at hp
        rw [hm] at hp
        cases ob with
        | lst xs =>
          obtain ⟨vs, h1, h2⟩ := rep.lst ea hm
          have hi' : DP X.K β H i iv := hi
          cases hi' with
          | int j =>
            dsimp only at hp
            split at hp
            · rename_i p e
              refine set_list pins s σ H _ _ vv v0 v1 v2 Q I ro ri rv ⟨a, vs, j, p, rfl, rfl, h1, ?_, ?_⟩
              · rw [← h2.length]
                exact e
              · exact Post.setU (Q := fun _ H1 => Q H1) (ob := .lst (xs.set p x)) hp rep ea h1 (.inl ⟨_, rfl⟩) (show DPs X.K β H _ _ from h2.set hv p) rfl
            · exact hp.elim
          | _ => exact hp.elim
        | dic kvs =>
          obtain ⟨kws, h1, h2, h3⟩ := rep.dic ea hm
          dsimp only at hp
          cases ek : keyOf i with
          | none => rw [ek] at hp; exact hp.elim
          | some k =>
            rw [ek] at hp
            dsimp only at hp
            have ekv : iv = kV k := key_kV hi ek
            subst ekv
            split at hp
            · rename_i hz
              refine set_dict hu pins s σ H _ _ vv v0 v1 v2 Q I ro ri rv ⟨a, _, rfl, DPut.k (k := k) (v := vv) h1 ?_, ?_⟩
              · rw [← h2.length, sizeLine_eq]
                exact hz
              · exact Post.setU (Q := fun _ H1 => Q H1) (ob := .dic (MN.putK kvs k (.d x))) hp rep ea h1 (.inr ⟨_, rfl⟩) (show RKs X.K β H _ _ from h2.put k hv) (old_put h3)
            · exact hp.elim
end
end MN

set_option maxRecDepth 100000
set_option maxHeartbeats 4000000
/-! MnSo: each form of an expression comes to what the evaluator says. -/
namespace MN
open PySem PySem.Spec PyProof.Rows L2

def RBo (β : BB) (H : Hp) (a b : Bool) : Prop := a = b
def RPa (β : BB) (H : Hp) (a b : Option Int) : Prop := a = b
section
variable (TT : TB) (K : PySem.W.Frag) (C : CA) (E : L2.St → XK) (cx : Cxt)
def tE (c : CE) : TE := fun σ H Q => ∃ β m ρ, RepS TT K β H m ∧ RF K β H ρ σ ∧ Post TT K C (RV K) β H (evE cx c ρ m) Q (E σ)
def tT (c : CE) : L2.TT := fun σ H Q => ∃ β m ρ, RepS TT K β H m ∧ RF K β H ρ σ ∧ Post TT K C RBo β H (evT cx c ρ m) Q (E σ)
def tA (cs : List CE) : TA := fun σ H Q => ∃ β m ρ, RepS TT K β H m ∧ RF K β H ρ σ ∧ Post TT K C (RVs K) β H (evEs cx cs ρ m) Q (E σ)
def tP (cs : List CE) : TO := fun σ H Q => ∃ β m ρ, RepS TT K β H m ∧ RF K β H ρ σ ∧ Post TT K C RPa β H (toPart (evEs cx cs ρ m)) Q (E σ)
end
theorem pe_imp {X : Cx} {e : Expr} {t t' : TE} (h : PE X e t) (w : ∀ σ H Q, t' σ H Q → t σ H Q) : PE X e t' := ⟨fun pins s σ H Q I q => h.run pins s σ H Q I (w σ H Q q)⟩
theorem pt_imp {X : Cx} {e : Expr} {t t' : L2.TT} (h : PT X e t) (w : ∀ σ H Q, t' σ H Q → t σ H Q) : PT X e t' := ⟨fun pins s σ H Q I q => h.run pins s σ H Q I (w σ H Q q)⟩
theorem pw_imp {X : Cx} {e : Expr} {t t' : L2.TT} (h : PW X e t) (w : ∀ σ H Q, t' σ H Q → t σ H Q) : PW X e t' := ⟨fun wh pins s σ H Q I q => h.run wh pins s σ H Q I (w σ H Q q)⟩
theorem pa_imp {X : Cx} {e : List Expr} {t t' : TA} (h : PA X e t) (w : ∀ σ H Q, t' σ H Q → t σ H Q) : PA X e t' := ⟨fun pos pins s σ H Q I q => h.run pos pins s σ H Q I (w σ H Q q)⟩
theorem po_imp {X : Cx} {e : Option Expr} {t t' : TO} (h : PO X e t) (w : ∀ σ H Q, t' σ H Q → t σ H Q) : PO X e t' := ⟨fun pins s σ H Q I q => h.run pins s σ H Q I (w σ H Q q)⟩

section
variable {TT : TB} {K : PySem.W.Frag} {C : CA} {E : L2.St → XK} {cx : Cxt} {β : BB} {H : Hp} {m : Store} {ρ : Fr} {σ : L2.St} {α ζ : Type} {Rel : BB → Hp → α → ζ → Prop} {Q : ζ → Hp → Prop}
theorem ev1 {a : CE} {f : Val → Store → R α} {R0 : VK} (rep : RepS TT K β H m) (rf : RF K β H ρ σ) (hp : Post TT K C Rel β H ((evE cx a ρ m).bind f) Q (E σ))
    (k : ∀ δ x m1 v H1, Grow β H δ H1 → RepS TT K (β ++ δ) H1 m1 → RF K (β ++ δ) H1 ρ σ → RV K (β ++ δ) H1 x v → Post TT K C Rel (β ++ δ) H1 (f x m1) Q (E σ) → R0 v H1) : tE TT K C E cx a σ H R0 :=
  ⟨β, m, ρ, rep, rf, (Post.bind hp).mono fun v H1 ⟨δ, x, m1, g, r, q, p⟩ => k δ x m1 v H1 g r (rf.grow g) q p⟩
theorem ev1T {a : CE} {f : Bool → Store → R α} {R0 : Bool → Hp → Prop} (rep : RepS TT K β H m) (rf : RF K β H ρ σ) (hp : Post TT K C Rel β H ((evT cx a ρ m).bind f) Q (E σ))
    (k : ∀ δ x m1 H1, Grow β H δ H1 → RepS TT K (β ++ δ) H1 m1 → RF K (β ++ δ) H1 ρ σ → Post TT K C Rel (β ++ δ) H1 (f x m1) Q (E σ) → R0 x H1) : tT TT K C E cx a σ H R0 :=
  ⟨β, m, ρ, rep, rf, (Post.bind hp).mono fun v H1 ⟨δ, x, m1, g, r, q, p⟩ => by
    cases (show x = v from q)
    exact k δ v m1 H1 g r (rf.grow g) p⟩
theorem ev1A {a : List CE} {f : List Val → Store → R α} {R0 : List V → Hp → Prop} (rep : RepS TT K β H m) (rf : RF K β H ρ σ) (hp : Post TT K C Rel β H ((evEs cx a ρ m).bind f) Q (E σ))
    (k : ∀ δ x m1 v H1, Grow β H δ H1 → RepS TT K (β ++ δ) H1 m1 → RF K (β ++ δ) H1 ρ σ → RVs K (β ++ δ) H1 x v → Post TT K C Rel (β ++ δ) H1 (f x m1) Q (E σ) → R0 v H1) : tA TT K C E cx a σ H R0 :=
  ⟨β, m, ρ, rep, rf, (Post.bind hp).mono fun v H1 ⟨δ, x, m1, g, r, q, p⟩ => k δ x m1 v H1 g r (rf.grow g) q p⟩
theorem ev1P {a : List CE} {f : Option Int → Store → R α} {R0 : Option Int → Hp → Prop} (rep : RepS TT K β H m) (rf : RF K β H ρ σ) (hp : Post TT K C Rel β H ((toPart (evEs cx a ρ m)).bind f) Q (E σ))
    (k : ∀ δ x m1 H1, Grow β H δ H1 → RepS TT K (β ++ δ) H1 m1 → RF K (β ++ δ) H1 ρ σ → Post TT K C Rel (β ++ δ) H1 (f x m1) Q (E σ) → R0 x H1) : tP TT K C E cx a σ H R0 :=
  ⟨β, m, ρ, rep, rf, (Post.bind hp).mono fun v H1 ⟨δ, x, m1, g, r, q, p⟩ => by
    cases (show x = v from q)
    exact k δ v m1 H1 g r (rf.grow g) p⟩
end
section
variable {X : Cx} {TT : TB} {C : CA} {E : L2.St → XK} {cx : Cxt} {a b e : Expr} {ca cb cc : CE} {pos pos2 p2 : Pos}
theorem so_var {i : Nat} {x : Str} (hN : X.N[i]? = some x) (hv : Vis X.env.scope x) (hd : (x == ("__debug__" : Str)) = false) (hcd : (x == ("__classdict__" : Str)) = false) : PE X (.Name x pos) (tE TT X.K C E cx (.var i)) :=
  pe_imp (pe_var hN hv hd hcd) fun σ H Q ⟨β, m, ρ, rep, rf, hp⟩ => by
    simp only [evE] at hp
    cases e : ρ[i]? with
    | none => rw [e] at hp; exact hp.elim
    | some o =>
      rw [e] at hp
      cases o with
      | none => exact hp.elim
      | some x =>
        cases x with
        | err _ => exact hp.elim
        | lam => exact hp.elim
        | v x =>
          obtain ⟨v, e1, r⟩ := rf.val i x e
          exact ⟨v, e1, hp.val rep r⟩
def cstE : Const → Option PyData
  | .int i => some (.int i)
  | .bool b => some (.bool b)
  | .none => some .none
  | .str x => if PyData.strOk x = true then some (.str x) else none
  | _ => none
theorem so_cst {k : Const} {d : PyData} {j : Nat} (h : cstE k = some d) : PE X (.Constant k j pos) (tE TT X.K C E cx (.cst d)) := by
  cases k with
  | int i => cases h; exact pe_imp pe_int fun σ H Q ⟨β, m, ρ, rep, rf, hp⟩ => Post.val (x := .d (.int i)) hp rep (.int i)
  | bool i => cases h; exact pe_imp pe_bl fun σ H Q ⟨β, m, ρ, rep, rf, hp⟩ => Post.val (x := .d (.bool i)) hp rep (.bl i)
  | none => cases h; exact pe_imp pe_non fun σ H Q ⟨β, m, ρ, rep, rf, hp⟩ => Post.val (x := .d .none) hp rep .non
  | str x =>
    unfold cstE at h
    dsimp only at h
    split at h
    · rename_i hx
      cases h
      exact pe_imp pe_str fun σ H Q ⟨β, m, ρ, rep, rf, hp⟩ => Post.val (x := .d (.str x)) hp rep (.str x hx)
    · cases h
  | _ => cases h
theorem so_con {x : Str} {d : PyData} {v : V} {u : Value} (hg : Gl X x) (hm : X.mg x = some u) (r : RelV v u) (hd : (x == ("__debug__" : Str)) = false) (hv : ∀ β H, DP X.K β H d v) : PE X (.Name x pos) (tE TT X.K C E cx (.cst d)) :=
  pe_imp (pe_glob hg hm r hd) fun σ H Q ⟨β, m, ρ, rep, rf, hp⟩ => Post.val (x := .d d) hp rep (hv β H)
/-! ### lists of expressions -/
theorem so_nil : PA X [] (tA TT X.K C E cx []) := pa_imp pa_nil fun σ H Q ⟨β, m, ρ, rep, rf, hp⟩ => Post.ok0 hp rep .nil
theorem so_cons {es : List Expr} {cs : List CE} (ha : PE X a (tE TT X.K C E cx ca)) (hr : PA X es (tA TT X.K C E cx cs)) (hs : starEach (a :: es) X.env = (false, eval a X.env) :: starEach es X.env) : PA X (a :: es) (tA TT X.K C E cx (ca :: cs)) :=
  pa_imp (pa_cons ha hr hs) fun σ H Q ⟨β, m, ρ, rep, rf, hp⟩ => by
    simp only [evEs] at hp
    exact ev1 rep rf hp fun δ x m1 v H1 g r f q p => ev1A r f p fun δ2 xs m2 vs H2 g2 r2 f2 q2 p2 => Post.ok0 p2 r2 (.cons (q.grow g2) q2)
theorem thousand {n : Nat} (h : n ≤ 1000) : n ≤ sizeLine := by
  rw [sizeLine_eq]
  omega
theorem so_tup {es : List Expr} {cs : List CE} {k : Nat} (ha : PA X es (tA TT X.K C E cx cs)) : PE X (.Tuple es k pos) (tE TT X.K C E cx (.tup cs)) :=
  pe_imp (pe_tup ha) fun σ H Q ⟨β, m, ρ, rep, rf, hp⟩ => by
    simp only [evE] at hp
    refine ev1A rep rf hp fun δ x m1 v H1 g r f q p => ?_
    split at p
    · rename_i ds e
      split at p
      · rename_i hz
        have h := q.datas e
        exact ⟨by rw [← h.length]; exact thousand hz, fun p0 hn => p.newT r h hn⟩
      · exact p.elim
    · exact p.elim
theorem so_lst {es : List Expr} {cs : List CE} (ha : PA X es (tA TT X.K C E cx cs)) : PE X (.List es pos) (tE TT X.K C E cx (.lst cs)) :=
  pe_imp (pe_lst ha) fun σ H Q ⟨β, m, ρ, rep, rf, hp⟩ => by
    simp only [evE] at hp
    refine ev1A rep rf hp fun δ x m1 v H1 g r f q p => ?_
    split at p
    · rename_i ds e
      split at p
      · rename_i hz
        have h := q.datas e
        exact ⟨by rw [← h.length]; exact thousand hz, fun p0 hn => p.newL r h hn⟩
      · exact p.elim
    · exact p.elim
theorem so_nlst {es : List Expr} {cs : List CE} (ha : PA X es (tA TT X.K C E cx cs)) : PE X (.List es pos) (tE TT X.K C E cx (.nlst cs)) :=
  pe_imp (pe_lst ha) fun σ H Q ⟨β, m, ρ, rep, rf, hp⟩ => by
    simp only [evE] at hp
    refine ev1A rep rf hp fun δ x m1 v H1 g r f q p => ?_
    split at p
    · rename_i ds e
      split at p
      · rename_i hz
        have h := q.datas e
        exact ⟨by rw [← h.length]; exact thousand hz, fun p0 hn => Post.newM (ob := .lst ds) (o := .lst v) p r h rfl hn⟩
      · exact p.elim
    · exact p.elim
/-! ### operators -/
theorem so_op (o : BinOp) (ha : PE X a (tE TT X.K C E cx ca)) (hb : PE X b (tE TT X.K C E cx cb)) : PE X (.BinOp a (toOp o) b pos) (tE TT X.K C E cx (.op o ca cb)) :=
  pe_imp (pe_op (op_bin o) ha hb) fun σ H Q ⟨β, m, ρ, rep, rf, hp⟩ => by
    simp only [evE] at hp
    exact ev1 rep rf hp fun δ x m1 v H1 g r f q p => ev1 r f p fun δ2 y m2 w H2 g2 r2 f2 q2 p2 => ⟨_, m2, x, y, E σ, r2, q.grow g2, q2, p2⟩
theorem so_neg (ha : PE X a (tE TT X.K C E cx ca)) : PE X (.UnaryOp .USub a pos) (tE TT X.K C E cx (.neg ca)) :=
  pe_imp (pe_un un_neg ha) fun σ H Q ⟨β, m, ρ, rep, rf, hp⟩ => by
    simp only [evE] at hp
    refine ev1 rep rf hp fun δ x m1 v H1 g r f q p => ?_
    cases x with
    | loc _ => exact p.elim
    | d x =>
      have q' : DP X.K (β ++ δ) H1 x v := q
      cases q' with
      | int i => exact ⟨i, rfl, Post.val p r (.int _)⟩
      | _ => exact p.elim
theorem so_cmp (hu : X.A.units + 200 < cLine) (o : CmpO) (ha : PE X a (tE TT X.K C E cx ca)) (hb : PE X b (tE TT X.K C E cx cb)) (hm : behindInMarks (toCmp o) b = false) : PE X (.Compare a [toCmp o] [b] pos) (tE TT X.K C E cx (.cmp o ca cb)) :=
  pe_imp (pe_cmpR (op_cmp hu o) ha hb hm) fun σ H Q ⟨β, m, ρ, rep, rf, hp⟩ => by
    simp only [evE] at hp
    exact ev1 rep rf hp fun δ x m1 v H1 g r f q p => ev1 r f p fun δ2 y m2 w H2 g2 r2 f2 q2 p2 => ⟨_, m2, x, y, E σ, r2, q.grow g2, q2, p2⟩
theorem bind_assoc {α β γ : Type} (r : R α) (f : α → Store → R β) (g : β → Store → R γ) : (r.bind f).bind g = r.bind fun a m => (f a m).bind g := by
  cases r <;> rfl
theorem bl_end {K : PySem.W.Frag} {β : BB} {H : Hp} {m : Store} {x : Val} {v : V} {Q : Bool → Hp → Prop} {QE : XK} (p : Post TT K C RBo β H (match x with
    | .d (.bool c) => .ok c m
    | _ => .no) Q QE) (r : RepS TT K β H m) (q : RV K β H x v) : ∃ k, v = .bl k ∧ Q k H := by
  cases x with
  | loc _ => exact p.elim
  | d x =>
    have q' : DP K β H x v := q
    cases q' with
    | bl k => exact ⟨k, rfl, Post.ok0 p r rfl⟩
    | _ => exact p.elim
theorem st_cmp (hu : X.A.units + 200 < cLine) (o : CmpO) (ha : PE X a (tE TT X.K C E cx ca)) (hb : PE X b (tE TT X.K C E cx cb)) (hm : behindInMarks (toCmp o) b = false) : PT X (.Compare a [toCmp o] [b] pos) (tT TT X.K C E cx (.cmp o ca cb)) :=
  pt_imp (pt_cmpR (op_cmp hu o) ha hb hm) fun σ H Q ⟨β, m, ρ, rep, rf, hp⟩ => by
    simp only [evT, bind_assoc] at hp
    refine ev1 rep rf hp fun δ x m1 v H1 g r f q p => ev1 r f p fun δ2 y m2 w H2 g2 r2 f2 q2 p2 => ⟨_, m2, x, y, E σ, r2, q.grow g2, q2, (Post.bind p2).mono ?_⟩
    intro z H3 ⟨δ3, c, m3, g3, r3, q3, p3⟩
    exact bl_end p3 r3 q3
theorem marks2 {o o' : CmpO} {b c : Expr} (h : behindInMarks (toCmp o') c = false) : lastMarks [toCmp o, toCmp o'] [b, c] = false := h
theorem so_chain (hu : X.A.units + 200 < cLine) (o o' : CmpO) {c : Expr} (ha : PE X a (tE TT X.K C E cx ca)) (hb : PE X b (tE TT X.K C E cx cb)) (hc : PE X c (tE TT X.K C E cx cc)) (hm : behindInMarks (toCmp o') c = false) :
    PE X (.Compare a [toCmp o, toCmp o'] [b, c] pos) (tE TT X.K C E cx (.chain o o' ca cb cc)) :=
  pe_imp (pe_chain (op_cmp hu o) (op_cmp hu o') ha hb hc (marks2 hm)) fun σ H Q ⟨β, m, ρ, rep, rf, hp⟩ => by
    simp only [evE] at hp
    refine ev1 rep rf hp fun δ x m1 v H1 g r f q p => ev1 r f p fun δ2 y m2 w H2 g2 r2 f2 q2 p2 => ⟨_, m2, x, y, E σ, r2, q.grow g2, q2, (Post.bind p2).mono ?_⟩
    intro z H3 ⟨δ3, k, m3, g3, r3, q3, p3⟩
    cases k with
    | loc _ => exact p3.elim
    | d k =>
      have q3' : DP X.K _ H3 k z := q3
      cases q3' with
      | bl k =>
        refine ⟨k, rfl, ?_⟩
        cases k with
        | false => exact Post.val p3 r3 (.bl false)
        | true => exact ev1 r3 (f2.grow g3) p3 fun δ4 u m4 t H4 g4 r4 f4 q4 p4 => ⟨_, m4, y, u, E σ, r4, (q2.grow g3).grow g4, q4, p4⟩
      | _ => exact p3.elim
theorem st_chain (hu : X.A.units + 200 < cLine) (o o' : CmpO) {c : Expr} (ha : PE X a (tE TT X.K C E cx ca)) (hb : PE X b (tE TT X.K C E cx cb)) (hc : PE X c (tE TT X.K C E cx cc)) (hm : behindInMarks (toCmp o') c = false) :
    PT X (.Compare a [toCmp o, toCmp o'] [b, c] pos) (tT TT X.K C E cx (.chain o o' ca cb cc)) :=
  pt_imp (pt_chain (op_cmp hu o) (op_cmp hu o') ha hb hc (marks2 hm)) fun σ H Q ⟨β, m, ρ, rep, rf, hp⟩ => by
    simp only [evT, bind_assoc] at hp
    refine ev1 rep rf hp fun δ x m1 v H1 g r f q p => ev1 r f p fun δ2 y m2 w H2 g2 r2 f2 q2 p2 => ⟨_, m2, x, y, E σ, r2, q.grow g2, q2, (Post.bind p2).mono ?_⟩
    intro z H3 ⟨δ3, k, m3, g3, r3, q3, p3⟩
    cases k with
    | loc _ => exact p3.elim
    | d k =>
      have q3' : DP X.K _ H3 k z := q3
      cases q3' with
      | bl k =>
        refine ⟨k, rfl, ?_⟩
        cases k with
        | false =>
          refine ⟨false, rfl, ?_⟩
          exact Post.ok0 (a := false) p3 r3 rfl
        | true =>
          simp only [bind_assoc] at p3
          refine ev1 r3 (f2.grow g3) p3 fun δ4 u m4 t H4 g4 r4 f4 q4 p4 => ⟨_, m4, y, u, E σ, r4, (q2.grow g3).grow g4, q4, (Post.bind p4).mono ?_⟩
          intro z5 H5 ⟨δ5, k5, m5, g5, r5, q5, p5⟩
          exact bl_end p5 r5 q5
      | _ => exact p3.elim
/-! ### and, or, not, if -/
theorem so_and {es : List Expr} (ha : PE X a (tE TT X.K C E cx ca)) (hb : PE X (.BoolOp .And (b :: es) pos) (tE TT X.K C E cx cb)) : PE X (.BoolOp .And (a :: b :: es) pos) (tE TT X.K C E cx (.and ca cb)) :=
  pe_imp (pe_and ha hb) fun σ H Q ⟨β, m, ρ, rep, rf, hp⟩ => by
    simp only [evE] at hp
    refine ev1 rep rf hp fun δ x m1 v H1 g r f q p => ?_
    cases x with
    | loc _ => exact p.elim
    | d x =>
      have q' : DP X.K _ H1 x v := q
      cases q' with
      | bl k =>
        refine ⟨k, rfl, ?_⟩
        cases k with
        | false => exact Post.val p r (.bl false)
        | true => exact ⟨_, m1, ρ, r, f, p⟩
      | _ => exact p.elim
theorem so_or {es : List Expr} (ha : PE X a (tE TT X.K C E cx ca)) (hb : PE X (.BoolOp .Or (b :: es) pos) (tE TT X.K C E cx cb)) : PE X (.BoolOp .Or (a :: b :: es) pos) (tE TT X.K C E cx (.or ca cb)) :=
  pe_imp (pe_or ha hb) fun σ H Q ⟨β, m, ρ, rep, rf, hp⟩ => by
    simp only [evE] at hp
    refine ev1 rep rf hp fun δ x m1 v H1 g r f q p => ?_
    cases x with
    | loc _ => exact p.elim
    | d x =>
      have q' : DP X.K _ H1 x v := q
      cases q' with
      | bl k =>
        refine ⟨k, rfl, ?_⟩
        cases k with
        | true => exact Post.val p r (.bl true)
        | false => exact ⟨_, m1, ρ, r, f, p⟩
      | _ => exact p.elim
theorem so_not (ha : PE X a (tE TT X.K C E cx ca)) : PE X (.UnaryOp .Not a pos) (tE TT X.K C E cx (.not ca)) :=
  pe_imp (pe_not ha) fun σ H Q ⟨β, m, ρ, rep, rf, hp⟩ => by
    simp only [evE] at hp
    refine ev1 rep rf hp fun δ x m1 v H1 g r f q p => ?_
    cases x with
    | loc _ => exact p.elim
    | d x =>
      have q' : DP X.K _ H1 x v := q
      cases q' with
      | bl k => exact ⟨k, rfl, Post.val p r (.bl _)⟩
      | _ => exact p.elim
theorem st_not (ha : PT X a (tT TT X.K C E cx ca)) : PT X (.UnaryOp .Not a pos) (tT TT X.K C E cx (.not ca)) :=
  pt_imp (pt_not ha) fun σ H Q ⟨β, m, ρ, rep, rf, hp⟩ => by
    simp only [evT] at hp
    exact ev1T rep rf hp fun δ x m1 H1 g r f p => Post.ok0 p r rfl
theorem st_and {es : List Expr} (ha : PT X a (tT TT X.K C E cx ca)) (hb : PW X (.BoolOp .And (b :: es) pos) (tT TT X.K C E cx cb)) : PW X (.BoolOp .And (a :: b :: es) pos) (tT TT X.K C E cx (.and ca cb)) :=
  pw_imp (pw_and ha hb) fun σ H Q ⟨β, m, ρ, rep, rf, hp⟩ => by
    simp only [evT] at hp
    refine ev1T rep rf hp fun δ x m1 H1 g r f p => ?_
    cases x with
    | true => exact ⟨_, m1, ρ, r, f, p⟩
    | false => exact Post.ok0 p r rfl
theorem st_or {es : List Expr} (ha : PT X a (tT TT X.K C E cx ca)) (hb : PW X (.BoolOp .Or (b :: es) pos) (tT TT X.K C E cx cb)) : PW X (.BoolOp .Or (a :: b :: es) pos) (tT TT X.K C E cx (.or ca cb)) :=
  pw_imp (pw_or ha hb) fun σ H Q ⟨β, m, ρ, rep, rf, hp⟩ => by
    simp only [evT] at hp
    refine ev1T rep rf hp fun δ x m1 H1 g r f p => ?_
    cases x with
    | false => exact ⟨_, m1, ρ, r, f, p⟩
    | true => exact Post.ok0 p r rfl
theorem st_tst (ha : PE X a (tE TT X.K C E cx ca)) (he : ∀ whole, isTrue a X.env whole = (do let v ← whole; standAt a.pos; holding [v] (truthy v))) : PT X a (tT TT X.K C E cx (.tst ca)) :=
  ⟨fun pins s σ H Q I ⟨β, m, ρ, rep, rf, hp⟩ => by
    simp only [evT, toTruth] at hp
    refine isTrue_plain (thn (ha.run pins s σ H (fun v H1 => rTru TT X.K v H1 Q) I (ev1 rep rf hp fun δ x m1 v H1 g r f q p => ?_)) fun v s1 ⟨x, H1, I1, r1, q1⟩ => tru_all pins s1 σ H1 x v Q I1 r1 q1) (he _)
    split at p
    · rename_i k e
      exact ⟨_, m1, x, k, r, q, e, Post.ok0 p r rfl⟩
    · exact p.elim⟩
theorem so_ite {c : Expr} (hc : PT X c (tT TT X.K C E cx cc)) (ha : PE X a (tE TT X.K C E cx ca)) (hb : PE X b (tE TT X.K C E cx cb)) : PE X (.IfExp c a b pos) (tE TT X.K C E cx (.ite cc ca cb)) :=
  pe_imp (pe_ifExp hc ha hb) fun σ H Q ⟨β, m, ρ, rep, rf, hp⟩ => by
    simp only [evE] at hp
    refine ev1T rep rf hp fun δ x m1 H1 g r f p => ?_
    cases x with
    | true => exact ⟨_, m1, ρ, r, f, p⟩
    | false => exact ⟨_, m1, ρ, r, f, p⟩
/-! ### places -/
theorem so_idx (hu : X.A.units + 1 < cLine) (ha : PE X a (tE TT X.K C E cx ca)) (hb : PE X b (tE TT X.K C E cx cb)) (hs : PlainIx b) : PE X (.Subscript a b pos) (tE TT X.K C E cx (.idx ca cb)) :=
  pe_imp (pe_ix (ix_all hu) ha hb hs) fun σ H Q ⟨β, m, ρ, rep, rf, hp⟩ => by
    simp only [evE] at hp
    exact ev1 rep rf hp fun δ x m1 v H1 g r f q p => ev1 r f p fun δ2 y m2 w H2 g2 r2 f2 q2 p2 => ⟨_, m2, x, y, E σ, r2, q.grow g2, q2, p2⟩
theorem so_po0 : PO X none (tP TT X.K C E cx []) := po_imp po_none fun σ H Q ⟨β, m, ρ, rep, rf, hp⟩ => Post.ok0 (a := none) hp rep rfl
theorem so_po1 (ha : PE X a (tE TT X.K C E cx ca)) : PO X (some a) (tP TT X.K C E cx [ca]) :=
  po_imp (po_some ha) fun σ H Q ⟨β, m, ρ, rep, rf, hp⟩ => by
    simp only [toPart, evEs, bind_assoc] at hp
    refine ev1 rep rf hp fun δ x m1 v H1 g r f q p => ?_
    cases x with
    | loc _ => exact p.elim
    | d x =>
      have q' : DP X.K _ H1 x v := q
      cases q' with
      | int i => exact ⟨i, rfl, Post.ok0 (a := some i) p r rfl⟩
      | _ => exact p.elim
theorem so_sl {lo hi : Option Expr} {cl ch : List CE} (ha : PE X a (tE TT X.K C E cx ca)) (hl : PO X lo (tP TT X.K C E cx cl)) (hh : PO X hi (tP TT X.K C E cx ch)) : PE X (.Subscript a (.Slice lo hi none p2) pos) (tE TT X.K C E cx (.sl ca cl ch)) :=
  pe_imp (pe_slice sl_all ha hl hh) fun σ H Q ⟨β, m, ρ, rep, rf, hp⟩ => by
    simp only [evE] at hp
    exact ev1 rep rf hp fun δ x m1 v H1 g r f q p => ev1P r f p fun δ2 l m2 H2 g2 r2 f2 p2 => ev1P r2 f2 p2 fun δ3 h m3 H3 g3 r3 f3 p3 => ⟨_, m3, x, E σ, r3, (q.grow g2).grow g3, p3⟩
/-! ### calls -/
theorem star_any {es : List Expr} {env : Env} : (∀ e ∈ es, (match e with | .Starred .. => false | _ => true) = true) → (backTo pos (starEach es env)).any (·.1) = false ∧ (backTo pos (starEach es env)).all (fun x => !x.1) = true := by
  induction es with
  | nil => intro _; exact ⟨rfl, rfl⟩
  | cons e es ih =>
    intro h
    obtain ⟨h1, h2⟩ := ih fun x hx => h x (List.mem_cons_of_mem _ hx)
    have h3 := h e List.mem_cons_self
    have e1 : starEach (e :: es) env = (false, eval e env) :: starEach es env := by cases e <;> first | rfl | cases h3
    rw [e1]
    unfold backTo at h1 h2 ⊢
    rw [List.map_cons, List.any_cons, List.all_cons, h1, h2]
    exact ⟨rfl, rfl⟩
end
end MN

set_option maxRecDepth 100000
set_option maxHeartbeats 4000000
/-! MnHide: an object that is under way; targets; what is walked. -/
namespace MN
open PySem PySem.Spec PyProof.Rows L2

def BB.hide (β : BB) (a : Addr) : BB := ⟨β.pos, a :: β.out, β.err, β.act⟩
theorem BB.mem_hide {β : BB} {a b : Addr} : b ∈ β.hide a ↔ b = a ∨ b ∈ β := by
  show (b ∈ β.pos ∨ b ∈ a :: β.out) ↔ b = a ∨ (b ∈ β.pos ∨ b ∈ β.out)
  rw [List.mem_cons]
  constructor
  · rintro (h | h | h)
    · exact .inr (.inl h)
    · exact .inl h
    · exact .inr (.inr h)
  · rintro (h | h | h)
    · exact .inr (.inl h)
    · exact .inl h
    · exact .inr (.inr h)
section
variable {TT : TB} {K : PySem.W.Frag} {C : CA} {β γ : BB} {δ : List Addr} {H H1 : Hp} {m : Store} {D : Addr} {o o' : HO} {ρ : Fr} {σ : L2.St}
mutual
theorem DP.re (w : ∀ a, a ∈ γ → (∃ u, H a = some u) → a ∈ β) : ∀ {d : PyData} {v : V}, DP K β H d v → DP K γ H d v
  | _, _, .non => .non
  | _, _, .bl b => .bl b
  | _, _, .int i => .int i
  | _, _, .str x h => .str x h
  | _, _, .lst ha h hs => .lst (fun z => ha (w _ z (Rd.some_ h))) h (DPs.re w hs)
  | _, _, .tup h hs => .tup h (DPs.re w hs)
theorem DPs.re (w : ∀ a, a ∈ γ → (∃ u, H a = some u) → a ∈ β) : ∀ {ds : List PyData} {vs : List V}, DPs K β H ds vs → DPs K γ H ds vs
  | _, _, .nil => .nil
  | _, _, .cons h hs => .cons (DP.re w h) (DPs.re w hs)
end
theorem RV.re (w : ∀ a, a ∈ γ → (∃ u, H a = some u) → a ∈ β) (p : ∀ (n : Nat) (a : Addr), β.pos[n]? = some a → γ.pos[n]? = some a) {x : Val} {v : V} (h : RV K β H x v) : RV K γ H x v := by
  cases x with
  | d x => exact DP.re w h
  | loc n =>
    obtain ⟨a, e, h⟩ := h
    exact ⟨a, p n a e, h⟩
theorem RVs.re (w : ∀ a, a ∈ γ → (∃ u, H a = some u) → a ∈ β) (p : ∀ (n : Nat) (a : Addr), β.pos[n]? = some a → γ.pos[n]? = some a) : ∀ {xs : List Val} {vs : List V}, RVs K β H xs vs → RVs K γ H xs vs
  | _, _, .nil => .nil
  | _, _, .cons h hs => .cons (RV.re w p h) (RVs.re w p hs)
theorem RKs.re (w : ∀ a, a ∈ γ → (∃ u, H a = some u) → a ∈ β) (p : ∀ (n : Nat) (a : Addr), β.pos[n]? = some a → γ.pos[n]? = some a) : ∀ {xs : List (Ky × Val)} {vs : List (Key × V)}, RKs K β H xs vs → RKs K γ H xs vs
  | _, _, .nil => .nil
  | _, _, .cons h hs => .cons (RV.re w p h) (RKs.re w p hs)
theorem RO.re (w : ∀ a, a ∈ γ → (∃ u, H a = some u) → a ∈ β) (p : ∀ (n : Nat) (a : Addr), β.pos[n]? = some a → γ.pos[n]? = some a) {ob : MO} {u : HO} (h : RO K β H ob u) : RO K γ H ob u := by
  cases ob with
  | lst xs =>
    cases u with
    | lst vs => exact DPs.re w (show DPs K β H xs vs from h)
    | _ => exact False.elim h
  | dic kvs =>
    cases u with
    | dK kws => exact RKs.re w p (show RKs K β H kvs kws from h)
    | _ => exact False.elim h
theorem ExcAt.re (w : ∀ a, a ∈ γ → (∃ u, H a = some u) → a ∈ β) {e : Exc} {dx : Addr} (h : ExcAt K β H e dx) : ExcAt K γ H e dx := by
  obtain ⟨fs, q, r⟩ := h
  refine ⟨fs, q, fun f x z => ?_⟩
  obtain ⟨v, e1, e2⟩ := r f x z
  exact ⟨v, e1, e2.re w⟩
theorem RF0.re (w : ∀ a, a ∈ γ → (∃ u, H a = some u) → a ∈ β) (p : ∀ (n : Nat) (a : Addr), β.pos[n]? = some a → γ.pos[n]? = some a) (h : RF0 K β H ρ σ) : RF0 K γ H ρ σ := ⟨h.len, fun i x e => by
  obtain ⟨v, q, r⟩ := h.val i x e
  exact ⟨v, q, r.re w p⟩⟩
theorem LamAt.re {L : LamRec} (w : ∀ a, a ∈ γ → (∃ u, H a = some u) → a ∈ β) (p : ∀ (n : Nat) (a : Addr), β.pos[n]? = some a → γ.pos[n]? = some a) (h : LamAt K β H L) : LamAt K γ H L := ⟨h.code, fun z => h.out (w _ z ⟨_, h.code⟩), h.fr.re w p⟩
theorem RF.re (w : ∀ a, a ∈ γ → (∃ u, H a = some u) → a ∈ β) (p : ∀ (n : Nat) (a : Addr), β.pos[n]? = some a → γ.pos[n]? = some a) (pn : ∀ a, a ∉ β.pos → a ∉ γ.pos) (pe : γ.err = β.err) (pa : γ.act = β.act) (h : RF K β H ρ σ) : RF K γ H ρ σ := ⟨h.len, fun i x e => by
  obtain ⟨v, q, r⟩ := h.val i x e
  exact ⟨v, q, r.re w p⟩, fun i e q => by
  obtain ⟨a, dd, h1, h2, h3, h4⟩ := h.err i e q
  exact ⟨a, dd, by rw [pe]; exact h1, h2, pn dd h3, h4.re w⟩, fun i q => by
  obtain ⟨L, h1, h2, h3⟩ := h.lam i q
  exact ⟨L, by rw [pa]; exact h1, h2, h3.re w p⟩⟩
theorem hide_w (hD : H D = none) : ∀ a, a ∈ β.hide D → (∃ u, H a = some u) → a ∈ β := fun a h ⟨u, e⟩ => by
  rcases BB.mem_hide.mp h with z | z
  · rw [z, hD] at e
    cases e
  · exact z
theorem un_w : ∀ a, a ∈ β → (∃ u, H a = some u) → a ∈ β.hide D := fun a h _ => BB.mem_hide.mpr (.inr h)
theorem Grow.un (g : Grow (β.hide D) H δ H1) : Grow β H δ H1 := ⟨g.new, g.tup, g.frz, g.keep, g.tbl⟩
theorem Grow.hid (g : Grow β H δ H1) : Grow (β.hide D) H δ H1 := ⟨g.new, g.tup, g.frz, g.keep, g.tbl⟩
/-- an object that was not there at the start may be written -/
theorem Grow.touch (g : Grow β H δ H1) (hD : H D = none) : Grow β H δ (upd H1 D o) :=
  ⟨g.new, fun a xs h => by rw [upd_ne (ne_of_none h hD)]; exact g.tup a xs h, fun a ob u h => by rw [upd_ne (ne_of_none h hD)]; exact g.frz a ob u h, fun a ob h h1 h2 => by rw [upd_ne (ne_of_none h hD)]; exact g.keep a ob h h1 h2,
    fun a ps h => by rw [upd_ne (ne_of_none h hD)]; exact g.tbl a ps h⟩
theorem RepS.un (r : RepS TT K (β.hide D) H m) : RepS TT K β H m where
  nd := r.nd
  len := r.len
  outs := fun a ha => r.outs a (List.mem_cons_of_mem _ ha)
  at_ := fun n a ob e h => by
    obtain ⟨u, e1, q, old⟩ := r.at_ n a ob e h
    exact ⟨u, e1, q.re un_w fun _ _ z => z, old⟩
  tabs := r.tabs
  er := r.er
  ac := r.ac
theorem RepS.hid (r : RepS TT K β H m) (hD : H D = none) (ko : (∃ vs, o = .lst vs) ∨ ∃ kws, o = .dK kws) : RepS TT K (β.hide D) (upd H D o) m where
  nd := r.nd
  len := r.len
  outs := fun a ha => by
    rcases List.mem_cons.mp ha with z | z
    · subst z
      exact ⟨o, upd_same, ko⟩
    · exact r.outs_fresh hD a z
  at_ := fun n a ob e h => by
    obtain ⟨u, e1, q, old⟩ := r.at_ n a ob e h
    refine ⟨u, by rw [upd_ne (ne_of_none e1 hD)]; exact e1, ?_, old⟩
    have q2 : RO K (β.hide D) H ob u := q.re (hide_w hD) fun _ _ z => z
    have := q2.grow (Grow.fresh (o := o) hD)
    rwa [BB.app_nil] at this
  tabs := tabs_fresh r.tabs hD
  er := r.er
  ac := r.ac
theorem RF.hid (r : RF K β H ρ σ) (hD : H D = none) : RF K (β.hide D) (upd H D o) ρ σ := by
  have q2 : RF K (β.hide D) H ρ σ := r.re (hide_w hD) (fun _ _ z => z) (fun _ z => z) rfl rfl
  have := q2.grow (Grow.fresh (o := o) hD)
  rwa [BB.app_nil] at this
theorem RF.un (r : RF K (β.hide D) H ρ σ) : RF K β H ρ σ := r.re un_w (fun _ _ z => z) (fun _ z => z) rfl rfl
theorem DP.hid {d : PyData} {v : V} (r : DP K β H d v) (hD : H D = none) : DP K (β.hide D) (upd H D o) d v := by
  have q2 : DP K (β.hide D) H d v := r.re (hide_w hD)
  have := q2.grow (Grow.fresh (o := o) hD)
  rwa [BB.app_nil] at this
theorem DPs.un {d : List PyData} {v : List V} (r : DPs K (β.hide D) H d v) : DPs K β H d v := r.re un_w
theorem DPs.hid {d : List PyData} {v : List V} (r : DPs K β H d v) (hD : H D = none) : DPs K (β.hide D) (upd H D o) d v := by
  have q2 : DPs K (β.hide D) H d v := r.re (hide_w hD)
  have := q2.grow (Grow.fresh (o := o) hD)
  rwa [BB.app_nil] at this
/-! the object under way is written -/
def LD (o : HO) : Prop := (∃ vs, o = .lst vs) ∨ ∃ kws, o = .dK kws
theorem LD.nt {o : HO} (h : LD o) : (∀ xs, o ≠ .tup xs) ∧ (∀ ob u, o ≠ .frz ob u) ∧ ∀ ps, o ≠ .tbl ps := by
  rcases h with ⟨_, rfl⟩ | ⟨_, rfl⟩
  · exact ⟨(fun _ z => by cases z), (fun _ _ z => by cases z), (fun _ z => by cases z)⟩
  · exact ⟨(fun _ z => by cases z), (fun _ _ z => by cases z), (fun _ z => by cases z)⟩
theorem SqT.outw {a : Addr} {vs : List V} (h : SqT K H a vs) (hD : H D = some o) (k : LD o) : SqT K (upd H D o') a vs := by
  rcases h with (h | ⟨ob, h⟩) | h
  · exact .inl (.inl (by rw [upd_ne (fun z => by rw [z, hD] at h; cases h; exact k.nt.1 _ rfl)]; exact h))
  · exact .inl (.inr ⟨ob, by rw [upd_ne (fun z => by rw [z, hD] at h; cases h; exact k.nt.2.1 _ _ rfl)]; exact h⟩)
  · exact .inr h
mutual
theorem DP.outw (hm : D ∈ β) (hD : H D = some o) (k : LD o) : ∀ {d : PyData} {v : V}, DP K β H d v → DP K β (upd H D o') d v
  | _, _, .non => .non
  | _, _, .bl b => .bl b
  | _, _, .int i => .int i
  | _, _, .str x h => .str x h
  | _, _, .lst (a := a) ha h hs => .lst ha (by
      have ne : a ≠ D := fun z => ha (z ▸ hm)
      rcases h with h | ⟨ob, h⟩
      · exact .inl (by rw [upd_ne ne]; exact h)
      · exact .inr ⟨ob, by rw [upd_ne ne]; exact h⟩) (DPs.outw hm hD k hs)
  | _, _, .tup h hs => .tup (SqT.outw h hD k) (DPs.outw hm hD k hs)
theorem DPs.outw (hm : D ∈ β) (hD : H D = some o) (k : LD o) : ∀ {ds : List PyData} {vs : List V}, DPs K β H ds vs → DPs K β (upd H D o') ds vs
  | _, _, .nil => .nil
  | _, _, .cons h hs => .cons (DP.outw hm hD k h) (DPs.outw hm hD k hs)
end
theorem RV.outw (hm : D ∈ β) (hD : H D = some o) (k : LD o) {x : Val} {v : V} (h : RV K β H x v) : RV K β (upd H D o') x v := by
  cases x with
  | d x => exact DP.outw hm hD k h
  | loc n => exact h
theorem RKs.outw (hm : D ∈ β) (hD : H D = some o) (k : LD o) : ∀ {xs : List (Ky × Val)} {vs : List (Key × V)}, RKs K β H xs vs → RKs K β (upd H D o') xs vs
  | _, _, .nil => .nil
  | _, _, .cons h hs => .cons (RV.outw hm hD k h) (RKs.outw hm hD k hs)
theorem RO.outw (hm : D ∈ β) (hD : H D = some o) (k : LD o) {ob : MO} {u : HO} (h : RO K β H ob u) : RO K β (upd H D o') ob u := by
  cases ob with
  | lst xs =>
    cases u with
    | lst vs => exact DPs.outw hm hD k (show DPs K β H xs vs from h)
    | _ => exact False.elim h
  | dic kvs =>
    cases u with
    | dK kws => exact RKs.outw hm hD k (show RKs K β H kvs kws from h)
    | _ => exact False.elim h
theorem RepS.outw (r : RepS TT K β H m) (hm : D ∈ β.out) (hp : D ∉ β.pos) (hD : H D = some o) (k : LD o) (k' : LD o') : RepS TT K β (upd H D o') m where
  nd := r.nd
  len := r.len
  outs := fun b hb => by
    by_cases z : b = D
    · subst z
      exact ⟨o', upd_same, k'⟩
    · obtain ⟨u, e, kk⟩ := r.outs b hb
      exact ⟨u, by rw [upd_ne z]; exact e, kk⟩
  at_ := fun n a ob e h => by
    obtain ⟨u, e1, q, old⟩ := r.at_ n a ob e h
    refine ⟨u, ?_, q.outw (.inr hm) hD k, old⟩
    have ne : a ≠ D := fun z => hp (z ▸ List.mem_of_getElem? e)
    rw [upd_ne ne]
    exact e1
  tabs := tabs_write r.tabs hD k
  er := r.er
  ac := r.ac
/-- the object under way becomes one of the store's -/
theorem RepS.adopt {ob : MO} (r : RepS TT K (β.hide D) H m) (hn : D ∉ β) (hD : H D = some o) (q : RO K (β.hide D) H ob o) (old : oldB m.length ob = true) : RepS TT K (β ++ [D]) H (m ++ [ob]) := by
  have w : ∀ a, a ∈ β ++ [D] → (∃ u, H a = some u) → a ∈ β.hide D := fun a h _ => by
    rcases BB.mem_app.mp h with z | z
    · exact BB.mem_hide.mpr (.inr z)
    · exact BB.mem_hide.mpr (.inl (List.mem_singleton.mp z))
  have p : ∀ (n : Nat) (a : Addr), (β.hide D).pos[n]? = some a → (β ++ [D]).pos[n]? = some a := fun n a e => by
    show (β.pos ++ [D])[n]? = some a
    have e : β.pos[n]? = some a := e
    rw [List.getElem?_append_left (List.getElem?_eq_some_iff.mp e).1]
    exact e
  have hl : β.pos.length = m.length := r.len
  refine ⟨show (β.pos ++ [D]).Nodup from ?_, show (β.pos ++ [D]).length = _ by rw [List.length_append, List.length_append, hl]; rfl, fun a ha => r.outs a (List.mem_cons_of_mem _ ha), fun n a ob' e h => ?_, r.tabs, r.er, r.ac⟩
  · refine List.nodup_append.mpr ⟨r.nd, by simp, fun a ha b hb => ?_⟩
    rw [List.mem_singleton.mp hb]
    exact fun z => hn (.inl (z ▸ ha))
  · rcases getElem?_snoc_lt (l := β.pos) e with ⟨h1, e1⟩ | ⟨h1, e1⟩
    · rcases getElem?_snoc_lt h with ⟨h2, e2⟩ | ⟨h2, e2⟩
      · obtain ⟨u, z1, z2, z3⟩ := r.at_ n a ob' e1 e2
        exact ⟨u, z1, z2.re w p, z3⟩
      · omega
    · subst e1
      rcases getElem?_snoc_lt h with ⟨h2, e2⟩ | ⟨h2, e2⟩
      · omega
      · subst e2
        subst h2
        exact ⟨o, hD, q.re w p, old⟩
end
/-! ### targets -/
mutual
def CT.ix : CT → List Nat
  | .v i => [i]
  | .t ts => CT.ixs ts
termination_by structural t => t
def CT.ixs : List CT → List Nat
  | [] => []
  | x :: xs => CT.ix x ++ CT.ixs xs
termination_by structural t => t
end
def tG (K : PySem.W.Frag) (t : CT) : TG := fun v σ H Q => ∃ β ρ x ρ', RF K β H ρ σ ∧ RV K β H x v ∧ asg t x ρ = some ρ' ∧
  ∀ σ', RF K β H ρ' σ' → σ'.length = σ.length → (∀ j, j ∉ t.ix → σ'[j]? = σ[j]?) → Q σ' H
def tGs (K : PySem.W.Frag) (ts : List CT) : TGs := fun vs σ H Q => ∃ β ρ xs ρ', RF K β H ρ σ ∧ DPs K β H xs vs ∧ asgs ts xs ρ = some ρ' ∧
  ∀ σ', RF K β H ρ' σ' → σ'.length = σ.length → (∀ j, j ∉ CT.ixs ts → σ'[j]? = σ[j]?) → Q σ' H
theorem pg_imp {X : Cx} {e : Expr} {t t' : TG} (h : PG X e t) (w : ∀ v σ H Q, t' v σ H Q → t v σ H Q) : PG X e t' := ⟨fun pins s σ H v u Q I r q => h.run pins s σ H v u Q I r (w v σ H Q q)⟩
theorem pgs_imp {X : Cx} {e : List Expr} {t t' : TGs} (h : PGs X e t) (w : ∀ v σ H Q, t' v σ H Q → t v σ H Q) : PGs X e t' := ⟨fun pins s σ H v u Q I r q => h.run pins s σ H v u Q I r (w v σ H Q q)⟩
section
variable {X : Cx} {pos : Pos}
theorem sg_v {i : Nat} {x : Str} (hN : X.N.Nodup) (hi : X.N[i]? = some x) (hx : Loc X.env.scope x) (hf : X.fn x = true ∨ X.env.scope.names.lookup x = some .local) : PG X (.Name x pos) (tG X.K (.v i)) :=
  pg_imp (pg_name hN hi hx hf) fun v σ H Q ⟨β, ρ, x, ρ', rf, rv, e, q⟩ => by
    unfold asg at e
    split at e
    · cases e
      refine q _ (rf.set rv) (by rw [List.length_set]) fun j hj => ?_
      rw [List.getElem?_set_ne]
      intro z
      exact hj (by unfold CT.ix; simp [z])
    · cases e
theorem sg_nil : PGs X [] (tGs X.K []) := pgs_imp pgs_nil fun v σ H Q ⟨β, ρ, xs, ρ', rf, rv, e, q⟩ => by
  cases rv with
  | nil =>
    cases e
    exact ⟨rfl, q σ rf rfl fun _ _ => rfl⟩
  | cons _ _ => unfold asgs at e; cases e
theorem sg_cons {e : Expr} {es : List Expr} {t : CT} {ts : List CT} (h1 : PG X e (tG X.K t)) (h2 : PGs X es (tGs X.K ts)) (hs : (assignEach (e :: es) X.env).map (·.2) = assign e X.env :: (assignEach es X.env).map (·.2)) : PGs X (e :: es) (tGs X.K (t :: ts)) :=
  pgs_imp (pgs_cons h1 h2 hs) fun v σ H Q ⟨β, ρ, xs, ρ', rf, rv, e, q⟩ => by
    cases rv with
    | nil => unfold asgs at e; cases e
    | @cons d ds v vs h hs =>
      unfold asgs at e
      cases e1 : asg t (.d d) ρ with
      | none => rw [e1] at e; cases e
      | some ρ1 =>
        rw [e1] at e
        refine ⟨v, vs, rfl, β, ρ, .d d, ρ1, rf, h, e1, fun σ1 rf1 l1 k1 => ⟨β, ρ1, ds, ρ', rf1, hs, e, fun σ2 rf2 l2 k2 => q σ2 rf2 (l2.trans l1) fun j hj => ?_⟩⟩
        unfold CT.ixs at hj
        rw [List.mem_append, not_or] at hj
        rw [k2 j hj.2, k1 j hj.1]
theorem sg_t {es : List Expr} {ts : List CT} {k n : Nat} (hc : X.calm = true) (h : PGs X es (tGs X.K ts)) (hn : (assignEach es X.env).length = n) (ht : ts.length = n) (hst : (assignEach es X.env).findIdx? (·.1) = none) : PG X (.Tuple es k pos) (tG X.K (.t ts)) :=
  pg_imp (pg_tup hc h hn hst) fun v σ H Q ⟨β, ρ, x, ρ', rf, rv, e, q⟩ => by
    unfold asg at e
    cases x with
    | loc _ => cases e
    | d x =>
      have rv' : DP X.K β H x v := rv
      cases rv' with
      | tup h1 h2 =>
        refine ⟨_, _, rfl, h1, ?_, β, ρ, _, ρ', rf, h2, e, fun σ' a b c => q σ' a b fun j hj => c j ?_⟩
        · rw [← h2.length, ← ht]
          have len : ∀ (ts : List CT) (xs : List PyData) (ρ ρ' : Fr), asgs ts xs ρ = some ρ' → xs.length = ts.length := by
            intro ts
            induction ts with
            | nil =>
              intro xs ρ ρ' e
              cases xs with
              | nil => rfl
              | cons _ _ => unfold asgs at e; cases e
            | cons t ts ih =>
              intro xs ρ ρ' e
              cases xs with
              | nil => unfold asgs at e; cases e
              | cons x xs =>
                unfold asgs at e
                cases e1 : asg t (.d x) ρ with
                | none => rw [e1] at e; cases e
                | some ρ1 =>
                  rw [e1] at e
                  rw [List.length_cons, List.length_cons, ih _ _ _ e]
          exact len _ _ _ _ e
        · unfold CT.ix at hj
          exact hj
      | _ => cases e
end
theorem wipe_get {σ : L2.St} {j : Nat} : ∀ {vs : List Nat}, (L2.wipe σ vs)[j]? = if j ∈ vs ∧ j < σ.length then some none else σ[j]?
  | [] => by simp [L2.wipe]
  | v :: vs => by
    unfold L2.wipe
    by_cases h : v = j
    · subst h
      by_cases hl : v < σ.length
      · rw [List.getElem?_set_self (by rw [L2.wipe_length]; exact hl), if_pos ⟨List.mem_cons_self, hl⟩]
      · rw [if_neg (fun z => hl z.2), List.getElem?_eq_none (by rw [List.length_set, L2.wipe_length]; omega), List.getElem?_eq_none (by omega)]
    · rw [List.getElem?_set_ne h, wipe_get]
      have : (j ∈ v :: vs ∧ j < σ.length) ↔ (j ∈ vs ∧ j < σ.length) := by
        rw [List.mem_cons]
        constructor
        · rintro ⟨a | a, b⟩
          · exact absurd a.symm h
          · exact ⟨a, b⟩
        · exact fun ⟨a, b⟩ => ⟨.inr a, b⟩
      by_cases q : j ∈ vs ∧ j < σ.length
      · rw [if_pos q, if_pos (this.mpr q)]
      · rw [if_neg q, if_neg (fun z => q (this.mp z))]
theorem wipe_back {σ σ2 : L2.St} {vs ix : List Nat} (hl : σ2.length = (L2.wipe σ vs).length) (hk : ∀ j, j ∉ ix → σ2[j]? = (L2.wipe σ vs)[j]?) (hi : ∀ j ∈ ix, j ∈ vs) : L2.wipe σ2 vs = L2.wipe σ vs := by
  rw [L2.wipe_length] at hl
  apply List.ext_getElem?
  intro j
  rw [wipe_get, wipe_get, hl]
  by_cases q : j ∈ vs ∧ j < σ.length
  · rw [if_pos q, if_pos q]
  · rw [if_neg q, if_neg q]
    by_cases hj : j ∈ vs
    · have : ¬ j < σ.length := fun z => q ⟨hj, z⟩
      rw [List.getElem?_eq_none (by omega), List.getElem?_eq_none (by omega)]
    · rw [hk j (fun z => hj (hi j z)), wipe_get, if_neg q]
end MN

set_option maxRecDepth 100000
set_option maxHeartbeats 4000000
/-! MnWalk: what is walked; list comprehensions. -/
namespace MN
open PySem PySem.Spec PyProof.Rows L2

/-- the iterator J walks the items xs -/
structure ItOk (K : PySem.W.Frag) (J : It) (β : BB) (H : Hp) (xs : List PyData) : Prop where
  go : ∀ i δ H1, i < xs.length → Grow β H δ H1 → J.go i H1
  stop : ∀ i δ H1, xs.length ≤ i → Grow β H δ H1 → J.stop i H1
  yld : ∀ i δ H1 x H2 d, Grow β H δ H1 → xs[i]? = some d → J.yld i H1 x H2 → (H2 = H1 ∧ DP K β H d x) ∨ ∃ p ws ds, H1 p = none ∧ H2 = upd H1 p (.tup ws) ∧ x = .ref p ∧ d = .tuple ds ∧ DPs K β H ds ws
def Wks (K : PySem.W.Frag) (J : It) (β : BB) (H : Hp) : Wk → Prop
  | .items xs => ItOk K J β H xs
  | .dyn n _ => ∃ a, β.pos[n]? = some a ∧ J = Itl K a
  | .no => False
def tI (TT : TB) (K : PySem.W.Frag) (C : CA) (E : L2.St → XK) (cx : Cxt) (k : ItK) (its : List CE) : TI := fun σ H R => ∃ β m ρ, RepS TT K β H m ∧ RF K β H ρ σ ∧
  Post TT K C (RVs K) β H (evEs cx its ρ m) (fun vs H1 => ∃ β' xs m1, RepS TT K β' H1 m1 ∧ RVs K β' H1 xs vs ∧ walk k xs m1 ≠ Wk.no ∧ ∀ J, Wks K J β' H1 (walk k xs m1) → R J H1) (E σ)
theorem pi_imp {X : Cx} {tg e : Expr} {t t' : TI} (h : PI X tg e t) (w : ∀ σ H Q, t' σ H Q → t σ H Q) : PI X tg e t' := ⟨fun pins s σ H R I q => h.run pins s σ H R I (w σ H R q)⟩
def iAny (K : PySem.W.Frag) (tl : TE) : TI := fun σ H R => tl σ H fun x H1 => ∃ a, x = .ref a ∧ (((∃ xs, SqL K H1 a xs) ∧ R (Itl K a) H1) ∨ ((∃ xs, SqT K H1 a xs) ∧ R (Itt K a) H1))
section
variable {X : Cx} {tg : Expr} {TT : TB} {C : CA} {E : L2.St → XK} {cx : Cxt}
theorem pi_any {l : Expr} {tl : TE} (hl : PE X l tl) : PI X tg l (iAny X.K tl) := by
  constructor
  intro pins s σ H R I h
  apply thn (hl.run pins s σ H _ I h)
  rintro v s1 ⟨x, H1, I1, r1, a, rfl, q⟩
  cases r1
  rcases q with ⟨⟨xs, hq⟩, q⟩ | ⟨⟨xs, hq⟩, q⟩
  · obtain ⟨its, rv, p, hz⟩ := I1.list hq
    apply wpAny_pyIter_list p.isList
    refine ⟨s1.heap.objs.size, [s1.heap.objs.size], _, _, H1, rfl, I1.kept (t' := s1.toks) fun b o e => Heap.get?_push_of_some _ e, turn_list a _, ⟨_, Heap.get?_push_size _ rfl, rfl, rfl⟩, ?_, q⟩
    intro b hb
    rw [List.mem_singleton.mp hb]
    exact I1.fpOk (Nat.le_refl _) (I1.hok.fresh (Nat.le_refl _))
  · obtain ⟨its, rv, p, hz⟩ := I1.tuple hq
    apply wpAny_pyIter_tuple (show s1.heap.IsTuple a its.toArray from p)
    refine ⟨s1.heap.objs.size, [s1.heap.objs.size], _, _, H1, rfl, I1.kept (t' := s1.toks) fun b o e => Heap.get?_push_of_some _ e, turn_tuple a _, ⟨_, Heap.get?_push_size _ rfl, rfl, rfl⟩, ?_, q⟩
    intro b hb
    rw [List.mem_singleton.mp hb]
    exact I1.fpOk (Nat.le_refl _) (I1.hok.fresh (Nat.le_refl _))
theorem itl_ok {K : PySem.W.Frag} {β : BB} {H : Hp} {a : Addr} {vs : List V} {ds : List PyData} (ha : a ∉ β) (h : Rd H a (.lst vs)) (hs : DPs K β H ds vs) : ItOk K (Itl K a) β H ds where
  go := fun i δ H1 hi g => by
    obtain ⟨v, e, _⟩ := hs.get (List.getElem?_eq_getElem hi)
    exact ⟨vs, v, .inl (Rd.growL h ha g), e⟩
  stop := fun i δ H1 hi g => ⟨vs, .inl (Rd.growL h ha g), by rw [← hs.length]; exact hi⟩
  yld := fun i δ H1 x H2 d g e y => by
    obtain ⟨rfl, y⟩ := y
    obtain ⟨v, e1, e2⟩ := hs.get e
    have e3 := y vs (.inl (Rd.growL h ha g))
    rw [e1] at e3
    cases e3
    exact .inl ⟨rfl, e2⟩
theorem itt_ok {K : PySem.W.Frag} {β : BB} {H : Hp} {a : Addr} {vs : List V} {ds : List PyData} (h : SqT K H a vs) (hs : DPs K β H ds vs) : ItOk K (Itt K a) β H ds where
  go := fun i δ H1 hi g => by
    obtain ⟨v, e, _⟩ := hs.get (List.getElem?_eq_getElem hi)
    exact ⟨vs, v, SqT.grow h g, e⟩
  stop := fun i δ H1 hi g => ⟨vs, SqT.grow h g, by rw [← hs.length]; exact hi⟩
  yld := fun i δ H1 x H2 d g e y => by
    obtain ⟨rfl, y⟩ := y
    obtain ⟨v, e1, e2⟩ := hs.get e
    have e3 := y vs (SqT.grow h g)
    rw [e1] at e3
    cases e3
    exact .inl ⟨rfl, e2⟩
theorem rangeD_len (a b : Int) : (rangeD a b).length = (b - a).toNat := by
  unfold rangeD
  rw [List.length_map, List.length_range]
theorem itr_ok {K : PySem.W.Frag} {β : BB} {H : Hp} {a b : Int} : ItOk K (Itr a (b - a).toNat) β H (rangeD a b) where
  go := fun i δ H1 hi g => by rw [rangeD_len] at hi; exact hi
  stop := fun i δ H1 hi g => by rw [rangeD_len] at hi; exact hi
  yld := fun i δ H1 x H2 d g e y => by
    obtain ⟨rfl, rfl⟩ := y
    refine .inl ⟨rfl, ?_⟩
    unfold rangeD at e
    rw [List.getElem?_map] at e
    obtain ⟨j, hj, rfl⟩ := Option.map_eq_some_iff.mp e
    have hi := (List.getElem?_eq_some_iff.mp hj).2
    rw [List.getElem_range] at hi
    subst hi
    exact .int _
theorem si_seq {l : Expr} {c : CE} (hl : PE X l (tE TT X.K C E cx c)) : PI X tg l (tI TT X.K C E cx .seq [c]) :=
  pi_imp (pi_any hl) fun σ H R ⟨β, m, ρ, rep, rf, hp⟩ => by
    simp only [evEs] at hp
    refine ev1 rep rf hp fun δ x m1 v H1 g r f q p => ?_
    obtain ⟨β', xs, m2, r2, q2, nw, hJ⟩ := Post.ok0 (a := [x]) p r (.cons q .nil)
    cases q2 with
    | @cons y ys w ws h0 hs =>
      cases hs
      cases y with
      | d y =>
        have h' : DP X.K β' H1 y v := h0
        cases h' with
        | lst ha h1 h2 => exact ⟨_, rfl, .inl ⟨⟨_, .inl h1⟩, hJ _ (itl_ok ha h1 h2)⟩⟩
        | tup h1 h2 => exact ⟨_, rfl, .inr ⟨⟨_, h1⟩, hJ _ (itt_ok h1 h2)⟩⟩
        | _ => exact absurd rfl nw
      | loc n =>
        obtain ⟨a, ea, rfl⟩ := h0
        have hl : n < m2.length := by rw [← r2.len]; exact (List.getElem?_eq_some_iff.mp ea).1
        obtain ⟨o, hm⟩ : ∃ o, m2[n]? = some o := ⟨_, List.getElem?_eq_getElem hl⟩
        cases o with
        | dic _ =>
          refine absurd ?_ nw
          unfold walk
          dsimp only
          rw [hm]
        | lst zs =>
          obtain ⟨vs, h1, h2⟩ := r2.lst ea hm
          refine ⟨a, rfl, .inl ⟨⟨vs, .inl (.inl h1)⟩, hJ _ ?_⟩⟩
          unfold walk
          dsimp only
          rw [hm]
          exact ⟨a, ea, rfl⟩
theorem rg_ok {a b : Int} (h : rgOk a b = true) : -1000000 ≤ a ∧ a ≤ 1000000 ∧ -1000000 ≤ b ∧ b ≤ 1000000 := by
  unfold rgOk at h
  simp only [Bool.and_eq_true, decide_eq_true_eq] at h
  omega
theorem si_range1 {e : Expr} {c : CE} {p pos : Pos} (hg : Gl X "range") (hm : X.mg "range" = none) (ha : PA X [e] (tA TT X.K C E cx [c])) (hs : starEach [e] X.env = [(false, eval e X.env)]) : PI X tg (.Call (.Name "range" p) [e] [] pos) (tI TT X.K C E cx .range1 [c]) :=
  pi_imp (pi_range1 hg hm ha hs) fun σ H R ⟨β, m, ρ, rep, rf, hp⟩ => ⟨β, m, ρ, rep, rf, hp.mono fun vs H1 ⟨β', xs, m1, r, q, nw, hJ⟩ => by
    cases q with
    | nil => exact absurd rfl nw
    | @cons y ys w ws h0 hs =>
      cases y with
      | loc _ => exact absurd rfl nw
      | d y =>
        have h' : DP X.K β' H1 y w := h0
        cases hs with
        | cons _ _ => exact absurd (by cases h' <;> rfl) nw
        | nil =>
          cases h' with
          | int n =>
            unfold walk at nw hJ
            dsimp only at nw hJ
            by_cases hr : rgOk 0 n = true
            · rw [if_pos hr] at hJ
              obtain ⟨_, _, h3, h4⟩ := rg_ok hr
              refine ⟨n, rfl, by omega, by omega, hJ _ ?_⟩
              have := itr_ok (K := X.K) (β := β') (H := H1) (a := 0) (b := n)
              rw [Int.sub_zero] at this
              exact this
            · rw [if_neg hr] at nw
              exact absurd rfl nw
          | _ => exact absurd rfl nw⟩
theorem si_range2 {e1 e2 : Expr} {c1 c2 : CE} {p pos : Pos} (hg : Gl X "range") (hm : X.mg "range" = none) (ha : PA X [e1, e2] (tA TT X.K C E cx [c1, c2])) (hs : starEach [e1, e2] X.env = [(false, eval e1 X.env), (false, eval e2 X.env)]) (hs2 : starEach [e2] X.env = [(false, eval e2 X.env)]) :
    PI X tg (.Call (.Name "range" p) [e1, e2] [] pos) (tI TT X.K C E cx .range2 [c1, c2]) :=
  pi_imp (pi_range2 hg hm ha hs hs2) fun σ H R ⟨β, m, ρ, rep, rf, hp⟩ => ⟨β, m, ρ, rep, rf, hp.mono fun vs H1 ⟨β', xs, m1, r, q, nw, hJ⟩ => by
    cases q with
    | nil => exact absurd rfl nw
    | @cons y ys w ws h0 hs =>
      cases hs with
      | nil => exact absurd (by cases y with | loc _ => rfl | d y => cases y <;> rfl) nw
      | @cons y2 ys2 w2 ws2 h1 hs2 =>
        cases y with
        | loc _ => exact absurd (by cases y2 <;> rfl) nw
        | d y =>
          cases y2 with
          | loc _ => exact absurd (by cases y <;> rfl) nw
          | d y2 =>
            have h0' : DP X.K β' H1 y w := h0
            have h1' : DP X.K β' H1 y2 w2 := h1
            cases hs2 with
            | cons _ _ => exact absurd (by cases h0' <;> cases h1' <;> rfl) nw
            | nil =>
              cases h0' with
              | int i =>
                cases h1' with
                | int j =>
                  unfold walk at nw hJ
                  dsimp only at nw hJ
                  by_cases hr : rgOk i j = true
                  · rw [if_pos hr] at hJ
                    obtain ⟨h1, h2, h3, h4⟩ := rg_ok hr
                    exact ⟨i, j, rfl, ⟨by omega, by omega, by omega, by omega⟩, hJ _ itr_ok⟩
                  · rw [if_neg hr] at nw
                    exact absurd rfl nw
                | _ => exact absurd rfl nw
              | _ => exact absurd (by cases h1' <;> rfl) nw⟩
theorem rangeU_len (a b : Int) : (rangeU a b).length = (a - b).toNat := by
  unfold rangeU
  rw [List.length_map, List.length_range]
theorem itc_ok {K : PySem.W.Frag} {β : BB} {H : Hp} {a b : Int} : ItOk K (Itc a (-1) (a - b).toNat) β H (rangeU a b) where
  go := fun i δ H1 hi g => by rw [rangeU_len] at hi; exact hi
  stop := fun i δ H1 hi g => by rw [rangeU_len] at hi; exact hi
  yld := fun i δ H1 x H2 d g e y => by
    obtain ⟨rfl, rfl⟩ := y
    refine .inl ⟨rfl, ?_⟩
    unfold rangeU at e
    rw [List.getElem?_map] at e
    obtain ⟨j, hj, rfl⟩ := Option.map_eq_some_iff.mp e
    have hi := (List.getElem?_eq_some_iff.mp hj).2
    rw [List.getElem_range] at hi
    subst hi
    exact .int _
theorem w3_is {xs : List Val} {m : Store} (h : walk .range3 xs m ≠ Wk.no) : ∃ i j, xs = [.d (.int i), .d (.int j), .d (.int (-1))] ∧ rgOk i j = true := by
  cases xs with
  | nil => exact absurd rfl h
  | cons x xs =>
    cases xs with
    | nil => exact absurd (by cases x with | loc _ => rfl | d y => cases y <;> rfl) h
    | cons y xs =>
      cases xs with
      | nil => exact absurd (by cases x with | loc _ => rfl | d x => cases x <;> first | rfl | (cases y with | loc _ => rfl | d y => cases y <;> rfl)) h
      | cons z xs =>
        cases x with
        | loc _ => exact absurd rfl h
        | d x =>
          cases x with
          | int i =>
            cases y with
            | loc _ => exact absurd rfl h
            | d y =>
              cases y with
              | int j =>
                cases z with
                | loc _ => exact absurd rfl h
                | d z =>
                  cases z with
                  | int c =>
                    cases xs with
                    | cons _ _ => exact absurd rfl h
                    | nil =>
                      by_cases hr : rgOk i j = true ∧ c = -1
                      · obtain ⟨hr, rfl⟩ := hr
                        exact ⟨i, j, rfl, hr⟩
                      · exact absurd (if_neg hr) h
                  | _ => exact absurd rfl h
              | _ => exact absurd rfl h
          | _ => exact absurd rfl h
theorem w3_eq {i j : Int} {m : Store} (h : rgOk i j = true) : walk .range3 [.d (.int i), .d (.int j), .d (.int (-1))] m = .items (rangeU i j) := if_pos ⟨h, rfl⟩
/-- range(a, b, -1) -/
theorem si_range3 {e1 e2 e3 : Expr} {c1 c2 c3 : CE} {p pos : Pos} (hg : Gl X "range") (hm : X.mg "range" = none) (ha : PA X [e1, e2, e3] (tA TT X.K C E cx [c1, c2, c3])) (hs : starEach [e1, e2, e3] X.env = (false, eval e1 X.env) :: starEach [e2, e3] X.env) (hs2 : starEach [e2, e3] X.env = [(false, eval e2 X.env), (false, eval e3 X.env)]) :
    PI X tg (.Call (.Name "range" p) [e1, e2, e3] [] pos) (tI TT X.K C E cx .range3 [c1, c2, c3]) :=
  pi_imp (pi_range3 hg hm ha hs (by rw [hs2]; rfl)) fun σ H R ⟨β, m, ρ, rep, rf, hp⟩ => ⟨β, m, ρ, rep, rf, hp.mono fun vs H1 ⟨β', xs, m1, r, q, nw, hJ⟩ => by
    obtain ⟨i, j, rfl, hr⟩ := w3_is nw
    rw [w3_eq hr] at hJ
    obtain ⟨h1, h2, h3, h4⟩ := rg_ok hr
    cases q with
    | @cons y ys w ws h0 hs =>
      cases hs with
      | @cons y2 ys2 w2 ws2 h0b hs2 =>
        cases hs2 with
        | @cons y3 ys3 w3 ws3 h0c hs3 =>
          cases hs3
          have q0 : DP X.K β' H1 (.int i) w := h0
          have q1 : DP X.K β' H1 (.int j) w2 := h0b
          have q2 : DP X.K β' H1 (.int (-1)) w3 := h0c
          cases q0
          cases q1
          cases q2
          exact ⟨i, j, -1, _, rfl, RgC.neg (by omega) (by omega) (by omega) (by omega), hJ _ itc_ok⟩⟩
end
/-! ### list comprehensions -/
def tTs (TT : TB) (K : PySem.W.Frag) (C : CA) (E : L2.St → XK) (cx : Cxt) (cs : List CE) : L2.TT := fun σ H Q => ∃ β m ρ, RepS TT K β H m ∧ RF K β H ρ σ ∧ Post TT K C RBo β H (evTs cx cs ρ m) Q (E σ)
theorem pts_imp {X : Cx} {e : List Expr} {t t' : L2.TT} (h : PTs X e t) (w : ∀ σ H Q, t' σ H Q → t σ H Q) : PTs X e t' := ⟨fun pins s σ H Q I q => h.run pins s σ H Q I (w σ H Q q)⟩
section
variable {X : Cx} {TT : TB} {C : CA} {E : L2.St → XK} {cx : Cxt}
theorem sts_nil : PTs X [] (tTs TT X.K C E cx []) := pts_imp pts_nil fun σ H Q ⟨β, m, ρ, rep, rf, hp⟩ => Post.ok0 (a := true) hp rep rfl
theorem sts_one {e : Expr} {c : CE} (h : PT X e (tT TT X.K C E cx c)) : PTs X [e] (tTs TT X.K C E cx [c]) := pts_imp (pts_one h) fun σ H Q ⟨β, m, ρ, rep, rf, hp⟩ => by
  simp only [evTs] at hp
  refine ev1T rep rf hp fun δ x m1 H1 g r f p => ?_
  cases x with
  | true => exact Post.ok0 (a := true) p r rfl
  | false => exact Post.ok0 (a := false) p r rfl
end
/-- where a comprehension stands: D is the list that it fills -/
structure At (TT : TB) (K : PySem.W.Frag) (γ : BB) (H1 : Hp) (D : Addr) (δ : List Addr) (H : Hp) (m : Store) (acc : List PyData) (av : List V) : Prop where
  grow : Grow γ H1 δ H
  nd : D ∉ δ
  rep : RepS TT K ((γ ++ δ).hide D) H m
  at_ : H D = some (.lst av)
  acc : DPs K ((γ ++ δ).hide D) H acc av
section
variable {TT : TB} {K : PySem.W.Frag} {C : CA} {γ : BB} {H1 H H2 : Hp} {D : Addr} {δ δ2 : List Addr} {m m2 : Store} {acc : List PyData} {av : List V}
theorem hide_assoc (γ : BB) (δ δ2 : List Addr) (D : Addr) : (γ ++ δ).hide D ++ δ2 = (γ ++ (δ ++ δ2)).hide D := by
  rw [← BB.app_assoc]
  rfl
theorem At.start (r : RepS TT K γ H1 m) (hD : H1 D = none) : At TT K γ H1 D [] (upd H1 D (.lst [])) m [] [] := by
  refine ⟨Grow.refl.touch hD, by simp, ?_, upd_same, .nil⟩
  rw [BB.app_nil]
  exact r.hid hD (.inl ⟨_, rfl⟩)
theorem At.np (A : At TT K γ H1 D δ H m acc av) (hn : D ∉ γ) : D ∉ (γ ++ δ).pos := fun z => by
  rcases (List.mem_append (s := γ.pos) (t := δ)).mp z with z | z
  · exact hn (.inl z)
  · exact A.nd z
theorem At.step (A : At TT K γ H1 D δ H m acc av) (hn : D ∉ γ) (g : Grow ((γ ++ δ).hide D) H δ2 H2) (r : RepS TT K ((γ ++ δ).hide D ++ δ2) H2 m2) : At TT K γ H1 D (δ ++ δ2) H2 m2 acc av := by
  refine ⟨A.grow.trans g.un A.rep.un, fun z => ?_, by rw [← hide_assoc]; exact r, g.keep D _ A.at_ (A.np hn) (fun _ z => by cases z), by rw [← hide_assoc]; exact A.acc.grow g⟩
  rcases List.mem_append.mp z with z | z
  · exact A.nd z
  · have := g.new D z
    rw [A.at_] at this
    cases this
theorem At.fresh {p : Addr} {o : HO} (A : At TT K γ H1 D δ H m acc av) (hp : H p = none) : At TT K γ H1 D δ (upd H p o) m acc av := by
  refine ⟨?_, A.nd, A.rep.fresh hp, ?_, A.acc.fresh hp⟩
  · have := A.grow.trans (Grow.fresh (o := o) hp) A.rep.un
    rwa [List.append_nil] at this
  · rw [upd_ne (ne_of_none A.at_ hp)]
    exact A.at_
theorem At.push {y : PyData} {v : V} (A : At TT K γ H1 D δ H m acc av) (hD : H1 D = none) (hn : D ∉ γ) (h : DP K ((γ ++ δ).hide D) H y v) : At TT K γ H1 D δ (upd H D (.lst (av ++ [v]))) m (acc ++ [y]) (av ++ [v]) := by
  have hm : D ∈ (γ ++ δ).hide D := BB.mem_hide.mpr (.inl rfl)
  refine ⟨A.grow.touch hD, A.nd, A.rep.outw List.mem_cons_self (A.np hn) A.at_ (.inl ⟨_, rfl⟩) (.inl ⟨_, rfl⟩), upd_same, ?_⟩
  exact (A.acc.append (.cons h .nil)).outw hm A.at_ (.inl ⟨_, rfl⟩)
theorem At.dp {d : PyData} {v : V} (A : At TT K γ H1 D δ H m acc av) (hD : H1 D = none) (h : DP K γ H1 d v) : DP K ((γ ++ δ).hide D) H d v := (h.re (hide_w hD)).grow (A.grow.hid (D := D))
theorem At.dps {d : List PyData} {v : List V} (A : At TT K γ H1 D δ H m acc av) (hD : H1 D = none) (h : DPs K γ H1 d v) : DPs K ((γ ++ δ).hide D) H d v := (h.re (hide_w hD)).grow (A.grow.hid (D := D))
theorem At.rf {ρ : Fr} {σ : L2.St} (A : At TT K γ H1 D δ H m acc av) (hD : H1 D = none) (h : RF K γ H1 ρ σ) : RF K ((γ ++ δ).hide D) H ρ σ := (h.re (hide_w hD) (fun _ _ z => z) (fun _ z => z) rfl rfl).grow (A.grow.hid (D := D))
theorem At.fin {nl : Bool} {Q : VK} {QE : XK} (A : At TT K γ H1 D δ H m acc av) (hD : H1 D = none) (hn : D ∉ γ) (hp : Post TT K C (RV K) γ H1 (if nl = true then .ok (.loc m.length) (m ++ [MO.lst acc]) else .ok (.d (.list acc)) m) Q QE) : Q (.ref D) H := by
  cases nl with
  | false =>
    refine hp δ H (.ref D) A.grow A.rep.un (.lst (fun z => ?_) (.inl A.at_) A.acc.un)
    rcases BB.mem_app.mp z with z | z
    · exact hn z
    · exact A.nd z
  | true =>
    have hn2 : D ∉ γ ++ δ := fun z => by
      rcases BB.mem_app.mp z with z | z
      · exact hn z
      · exact A.nd z
    refine hp (δ ++ [D]) H (.ref D) ⟨fun a ha => ?_, A.grow.tup, A.grow.frz, A.grow.keep, A.grow.tbl⟩ (by rw [← BB.app_assoc]; exact A.rep.adopt hn2 A.at_ A.acc rfl) ⟨D, ?_, rfl⟩
    · rcases List.mem_append.mp ha with z | z
      · exact A.grow.new a z
      · rw [List.mem_singleton.mp z]
        exact hD
    · have hl : (γ.pos ++ δ).length = m.length := A.rep.len
      show (γ.pos ++ (δ ++ [D]))[m.length]? = some D
      rw [← List.append_assoc, ← hl]
      simp
end

section
variable {X : Cx} {TT : TB} {C : CA} {E : L2.St → XK} {cx : Cxt}
/-- no exception leaves a comprehension's block -/
abbrev E0 : L2.St → XK := fun _ _ _ _ => False
/-- one turn's work, by the evaluator -/
def turnC (cx : Cxt) (t : CT) (own : List Nat) (cifs : List CE) (celt : CE) (ρ : Fr) : PyData → Store → R (Option PyData) := fun x m => match asg t (.d x) (wipe ρ own) with
  | none => .no
  | some ρ1 => noEx ((evTs cx cifs ρ1 m).bind fun b m => if b then (evE cx celt ρ1 m).bind fun y m => (match y with
    | .d y => .ok (some y) m
    | .loc _ => .no) else .ok none m)
theorem turn_comp {γ : BB} {H1 H2 : Hp} {D : Addr} {δ : List Addr} {m : Store} {acc : List PyData} {av : List V} {t : CT} {own : List Nat} {cifs : List CE} {celt : CE} {ρ : Fr} {σ : L2.St} {d : PyData} {x : V} {α ζ : Type} {Rel : BB → Hp → α → ζ → Prop} {Q : ζ → Hp → Prop} {QE : XK}
    {g : Option PyData → Store → R α} {Nx : Hp → Prop} (A : At TT X.K γ H1 D δ H2 m acc av) (hD : H1 D = none) (hn : D ∉ γ) (rf : RF X.K γ H1 ρ σ) (hd : DP X.K ((γ ++ δ).hide D) H2 d x) (hix : ∀ j ∈ t.ix, j ∈ own)
    (hp : Post TT X.K C Rel γ H1 ((turnC cx t own cifs celt ρ d m).bind g) Q QE)
    (no : ∀ δ H m, At TT X.K γ H1 D δ H m acc av → Post TT X.K C Rel γ H1 (g none m) Q QE → Nx H)
    (yes : ∀ δ H m y v, At TT X.K γ H1 D δ H m acc av → DP X.K ((γ ++ δ).hide D) H y v → Post TT X.K C Rel γ H1 (g (some y) m) Q QE → av.length = acc.length ∧ acc.length < SZ ∧ Nx (upd H D (.lst (av ++ [v])))) :
    tG X.K t x (L2.wipe σ own) H2 fun σ2 H3 => L2.wipe σ2 own = L2.wipe σ own ∧ tTs TT X.K C E0 cx cifs σ2 H3 fun b H4 => if b = true then tE TT X.K C E0 cx celt σ2 H4 fun y H5 => ∃ ac, H5 D = some (.lst ac) ∧ ac.length < sizeLine ∧ Nx (upd H5 D (.lst (ac ++ [y]))) else Nx H4 := by
  unfold turnC at hp
  cases e : asg t (.d d) (wipe ρ own) with
  | none => rw [e] at hp; exact hp.elim
  | some ρ1 =>
    rw [e] at hp
    dsimp only at hp
    refine ⟨(γ ++ δ).hide D, wipe ρ own, .d d, ρ1, (A.rf hD rf).wipe own, hd, e, fun σ2 rf2 l2 k2 => ⟨wipe_back l2 k2 hix, (γ ++ δ).hide D, m, ρ1, A.rep, rf2, ?_⟩⟩
    cases e1 : evTs cx cifs ρ1 m with
    | no => rw [e1] at hp; exact hp.elim
    | ex _ _ => rw [e1] at hp; exact hp.elim
    | ok b m2 =>
      rw [e1] at hp
      intro δ2 H4 b2 g2 r2 eb
      cases (show b = b2 from eb)
      have A2 := A.step hn g2 r2
      cases b with
      | false =>
        rw [if_neg Bool.false_ne_true]
        exact no _ _ _ A2 hp
      | true =>
        rw [if_pos rfl]
        refine ⟨(γ ++ δ).hide D ++ δ2, m2, ρ1, r2, rf2.grow g2, ?_⟩
        simp only [R.bind, if_true] at hp
        cases e2 : evE cx celt ρ1 m2 with
        | no => rw [e2] at hp; exact hp.elim
        | ex _ _ => rw [e2] at hp; exact hp.elim
        | ok y m3 =>
          rw [e2] at hp
          cases y with
          | loc _ => exact hp.elim
          | d y =>
            intro δ3 H5 v g3 r3 rv
            rw [hide_assoc] at g3 r3 rv
            have A3 := A2.step hn g3 r3
            have rv' : DP X.K ((γ ++ (δ ++ δ2 ++ δ3)).hide D) H5 y v := by
              rw [← hide_assoc]
              exact rv
            obtain ⟨z1, z2, z3⟩ := yes _ _ _ y v A3 rv' hp
            refine ⟨av, A3.at_, ?_, z3⟩
            rw [z1, sizeLine_eq]
            exact z2
theorem comp_read {own : List (Str × Nat)} {nl : Bool} {k : ItK} {its : List CE} {t : CT} {cifs : List CE} {celt : CE} (hix : ∀ j ∈ t.ix, j ∈ own.map (·.2)) : ∀ (σ : L2.St) (H : Hp) (Q : VK), tE TT X.K C E cx (.comp nl k its t (own.map (·.2)) cifs celt) σ H Q →
    tLc (tI TT X.K C E cx k its) (tG X.K t) (tTs TT X.K C E0 cx cifs) (tE TT X.K C E0 cx celt) (own.map (·.2)) σ H Q :=
  fun σ H Q ⟨β, m, ρ, rep, rf, hp⟩ => by
    simp only [evE] at hp
    refine ⟨β, m, ρ, rep, rf, (Post.bind hp).mono ?_⟩
    intro vs H1 ⟨δ0, xs, m1, g, r, q, p⟩
    have rf1 := rf.grow g
    generalize hγ : β ++ δ0 = γ at r q p rf1
    refine ⟨γ, xs, m1, r, q, fun z => ?_, fun J hJ D hD => ?_⟩
    · rw [z] at p
      exact p
    · have hn : D ∉ γ := r.notin hD
      generalize hw : walk k xs m1 = w at p hJ
      cases w with
      | no => exact hJ.elim
      | items ys =>
        refine ⟨fun i k H' => k = ys.length - i ∧ i ≤ ys.length ∧ ∃ δ m' acc av, At TT X.K γ H1 D δ H' m' acc av ∧ Post TT X.K C (RV X.K) γ H1 ((loopC (turnC cx t (own.map (·.2)) cifs celt ρ) (ys.drop i) acc m').bind fun ys m => if nl then .ok (.loc m.length) (m ++ [MO.lst ys]) else .ok (.d (.list ys)) m) Q (E σ),
          ⟨ys.length, rfl, Nat.zero_le _, [], m1, [], [], At.start r hD, p⟩, ?_⟩
        rintro i k H' ⟨rfl, hi, δ, m', acc, av, A, hp⟩
        by_cases hl : i < ys.length
        · refine .inr ⟨hJ.go i δ H' hl A.grow, fun H'' => i + 1 ≤ ys.length ∧ ∃ δ m' acc av, At TT X.K γ H1 D δ H'' m' acc av ∧ Post TT X.K C (RV X.K) γ H1 ((loopC (turnC cx t (own.map (·.2)) cifs celt ρ) (ys.drop (i + 1)) acc m').bind fun ys m => if nl then .ok (.loc m.length) (m ++ [MO.lst ys]) else .ok (.d (.list ys)) m) Q (E σ),
            fun H'' ⟨h1, h2⟩ => ⟨ys.length - (i + 1), by omega, rfl, h1, h2⟩, fun x H2 hy => ?_⟩
          rw [List.drop_eq_getElem_cons hl] at hp
          unfold loopC at hp
          rw [bind_assoc] at hp
          have fin : ∀ {H2 : Hp}, At TT X.K γ H1 D δ H2 m' acc av → DP X.K ((γ ++ δ).hide D) H2 ys[i] x → _ := fun {H2} A2 hd2 =>
            turn_comp (x := x) (σ := σ) (Nx := fun H'' => i + 1 ≤ ys.length ∧ ∃ δ m' acc av, At TT X.K γ H1 D δ H'' m' acc av ∧ Post TT X.K C (RV X.K) γ H1 ((loopC (turnC cx t (own.map (·.2)) cifs celt ρ) (ys.drop (i + 1)) acc m').bind fun ys m => if nl then .ok (.loc m.length) (m ++ [MO.lst ys]) else .ok (.d (.list ys)) m) Q (E σ))
              A2 hD hn rf1 hd2 hix hp (fun δ H m A p => ⟨hl, δ, m, acc, av, A, p⟩) fun δ H m y v A hv p => by
                have el := A.acc.length
                dsimp only at p
                split at p
                · rename_i hz
                  exact ⟨el.symm, hz, hl, δ, m, _, _, A.push hD hn hv, p⟩
                · exact p.elim
          rcases hJ.yld i δ H' x H2 ys[i] A.grow (List.getElem?_eq_getElem hl) hy with ⟨rfl, hd⟩ | ⟨p, ws, ds, hpn, rfl, rfl, ed, hds⟩
          · exact fin A (A.dp hD hd)
          · refine fin (A.fresh hpn) ?_
            rw [ed]
            exact .tup (.inl (.inl upd_same)) ((A.dps hD hds).fresh hpn)
        · have : i = ys.length := by omega
          subst this
          rw [List.drop_length] at hp
          exact .inl ⟨hJ.stop _ δ H' (Nat.le_refl _) A.grow, A.fin hD hn hp⟩
      | dyn n fuel =>
        obtain ⟨a, ea, rfl⟩ := hJ
        have pa : ∀ δ : List Addr, ((γ ++ δ).hide D).pos[n]? = some a := fun δ => by
          show (γ.pos ++ δ)[n]? = some a
          rw [List.getElem?_append_left (List.getElem?_eq_some_iff.mp ea).1]
          exact ea
        refine ⟨fun i k H' => ∃ δ m' acc av, At TT X.K γ H1 D δ H' m' acc av ∧ Post TT X.K C (RV X.K) γ H1 ((loopCD (turnC cx t (own.map (·.2)) cifs celt ρ) n k i acc m').bind fun ys m => if nl then .ok (.loc m.length) (m ++ [MO.lst ys]) else .ok (.d (.list ys)) m) Q (E σ),
          ⟨fuel, [], m1, [], [], At.start r hD, p⟩, ?_⟩
        rintro i k H' ⟨δ, m', acc, av, A, hp⟩
        cases k with
        | zero => exact hp.elim
        | succ k =>
          unfold loopCD at hp
          cases hm : m'[n]? with
          | none => rw [hm] at hp; exact hp.elim
          | some o =>
            rw [hm] at hp
            cases o with
            | dic _ => exact hp.elim
            | lst zs =>
              obtain ⟨vs2, h1, h2⟩ := A.rep.lst (pa δ) hm
              dsimp only at hp
              cases hz : zs[i]? with
              | none =>
                rw [hz] at hp
                refine .inl ⟨⟨vs2, .inl (.inl h1), ?_⟩, A.fin hD hn hp⟩
                rw [← h2.length]
                exact List.getElem?_eq_none_iff.mp hz
              | some z =>
                rw [hz] at hp
                dsimp only at hp
                rw [bind_assoc] at hp
                obtain ⟨w, e1, e2⟩ := h2.get hz
                refine .inr ⟨⟨vs2, w, .inl (.inl h1), e1⟩, fun H'' => ∃ δ m' acc av, At TT X.K γ H1 D δ H'' m' acc av ∧ Post TT X.K C (RV X.K) γ H1 ((loopCD (turnC cx t (own.map (·.2)) cifs celt ρ) n k (i + 1) acc m').bind fun ys m => if nl then .ok (.loc m.length) (m ++ [MO.lst ys]) else .ok (.d (.list ys)) m) Q (E σ),
                  fun H'' h => ⟨k, by omega, h⟩, fun x H2 hy => ?_⟩
                obtain ⟨rfl, hy⟩ := hy
                have e3 := hy vs2 (.inl (.inl h1))
                rw [e1] at e3
                cases e3
                exact turn_comp A hD hn rf1 e2 hix hp (fun δ H m A p => ⟨δ, m, acc, av, A, p⟩) fun δ H m y v A hv p => by
                  have el := A.acc.length
                  dsimp only at p
                  split at p
                  · rename_i hz
                    exact ⟨el.symm, hz, δ, m, _, _, A.push hD hn hv, p⟩
                  · exact p.elim
theorem so_comp {elt tg iter : Expr} {ifs : List Expr} {scope : Scope} {own : List (Str × Nat)} {pos : Pos} {nl : Bool} {k : ItK} {its : List CE} {t : CT} {cifs : List CE} {celt : CE} (hc : X.calm = true) (hN : X.N.Nodup) (hi : PI X tg iter (tI TT X.K C E cx k its)) (ok : BlkOk X.N X.env.scope scope own)
    (hg : ∀ (s : Shared) (H : Hp) (A : Addr) (cl : List (Str × Addr)) (fp : List Addr), PG (X.blk s H scope (compEnvC scope cl A X.env) fp) tg (tG X.K t)) (ht : ∀ (s : Shared) (H : Hp) (A : Addr) (cl : List (Str × Addr)) (fp : List Addr), PTs (X.blk s H scope (compEnvC scope cl A X.env) fp) ifs (tTs TT X.K C E0 cx cifs))
    (he : ∀ (s : Shared) (H : Hp) (A : Addr) (cl : List (Str × Addr)) (fp : List Addr), PE (X.blk s H scope (compEnvC scope cl A X.env) fp) elt (tE TT X.K C E0 cx celt)) (hix : ∀ j ∈ t.ix, j ∈ own.map (·.2)) (hs : ∀ x, foldedSetIterable iter X.env x = pure x) :
    PE X (.ListComp elt [⟨tg, iter, ifs, 0⟩] scope pos) (tE TT X.K C E cx (.comp nl k its t (own.map (·.2)) cifs celt)) :=
  pe_imp (pe_lc hc hN hi ok hg ht he hs) (comp_read hix)
end
end MN

set_option maxRecDepth 100000
set_option maxHeartbeats 4000000
/-! MnEnum: enumerate over a tuple. -/
namespace MN
open PySem PySem.Spec PyProof.Rows L2
/-- the tuple at a, each item in a pair with its number -/
def Itn (K : PySem.W.Frag) (a : Addr) : It where
  go := fun i H => ∃ (ys : List V) (y : V), SqT K H a ys ∧ ys[i]? = some y
  yld := fun i H v G => ∃ p y, v = .ref p ∧ H p = none ∧ G = upd H p (.tup [.int (i : Nat), y]) ∧ ∀ ys, SqT K H a ys → ys[i]? = some y
  stop := fun i H => ∃ ys : List V, SqT K H a ys ∧ ys.length ≤ i
def EnT (h : Heap) (e j a : Addr) (i : Nat) : Prop := (∃ old, IsEnum h e j ((i : Nat) : Int) old) ∧ h.IsTupleIter j a i ∧ e ≠ j
theorem apart_cls {h : Heap} {a b : Addr} {o : Obj} {n : String} {its : Array Value} (ha : h.IsTuple a its) (hb : h.get? b = some o) (hc : o.cls = .type n) (hn : n ≠ "tuple") : a ≠ b := fun z => by
  obtain ⟨o2, h1, h2, _⟩ := ha
  rw [z, hb] at h1
  cases h1
  rw [hc] at h2
  cases h2
  exact hn rfl
theorem turn_numT {P : Program} {w : World} {K : PySem.W.Frag} {ts : List Expr} {kd : Nat} {tp : Pos} (a e j : Addr) : Turn P w K (.Tuple ts kd tp) (Itn K a) [e, j] e (fun i h => EnT h e j a i) where
  mem := List.mem_cons_self
  obj := fun i h ⟨⟨old, q1⟩, ⟨o, q2, q3, q4⟩, _⟩ b hb => by
    rcases List.mem_cons.mp hb with z | z
    · exact ⟨_, z ▸ q1, fun v q => by cases q⟩
    · rw [List.mem_singleton.mp z]
      exact ⟨o, q2, fun v q => by rw [q4] at q; cases q⟩
  keep := fun i h g ⟨⟨old, q1⟩, q2, q3⟩ k => ⟨⟨old, k e List.mem_cons_self _ q1⟩, q2.at fun o q => k j (List.mem_cons_of_mem _ List.mem_cons_self) o q, q3⟩
  self := fun A i s Q E ⟨⟨_, q1⟩, _⟩ h => wpAny_pyIter_enum q1 h
  done := by
    intro X e1 e2 e3 calm i pins s σ H E I fo ⟨⟨old, q1⟩, q2, q3⟩ ⟨ys, hq, hl⟩
    subst e1 e2 e3
    obtain ⟨its, rv, tp, hz⟩ := I.tuple hq
    have tp : s.heap.IsTuple a its.toArray := tp
    obtain ⟨o, o1, o2, o3⟩ := q2
    have naj : a ≠ j := apart_cls tp o1 o2 (by decide)
    have ni : its.toArray.size ≤ i := by
      rw [List.size_toArray, ← rv.length]
      exact hl
    have hnone : its.toArray[i]? = none := Array.getElem?_eq_none ni
    have ht : s.TypeIs (.ref e) "enumerate" := ⟨_, q1, rfl⟩
    obtain ⟨f0, f1, f2, f3, f4, f5⟩ := fo j (List.mem_cons_of_mem _ List.mem_cons_self)
    unfold pyNext
    refine wpAny_bind (wpAny_attempt (wpAny_callSpecial?_slot (name := Str.ofString "__next__") ht F.slot_enumerate_next (wpAny_call_entry F.slot_enumerate_next ht F.entry_enumerate_next ?_ (F.args_enumerate_next_1 _))))
    refine (wpAny_bind (wpAny_field q1 rfl (x := .ref j) rfl ?_) : wpAny _ _ (field (.ref e) 2 >>= _) _ _ _)
    refine wpAny_bind (wpAny_nextOf_tuple_end (I.ok.hd calm) ⟨o, o1, o2, o3⟩ tp hnone fun g x hg ⟨ox, hx, hcx⟩ => ?_)
    refine wpAny_bind (wpAny_isInstance (b := true) (T := "StopIteration") ⟨ox, hx, hcx⟩ isSubtype_stop ?_)
    exact wpAny_pure ⟨rfl, I.turned (t' := s.toks) (fun b o hb q => hg b o hb q) f0 f1 f3 f4 f5⟩
  item := by
    intro X e1 e2 e3 calm i pins s σ H E I fo ⟨⟨old, q1⟩, q2, q3⟩ ⟨ys, y, hq, hy⟩
    subst e1 e2 e3
    obtain ⟨its, rv, tp, hz⟩ := I.tuple hq
    have tp : s.heap.IsTuple a its.toArray := tp
    obtain ⟨u, hu, ru⟩ := rv.get hy
    have hit := q2
    obtain ⟨o, o1, o2, o3⟩ := q2
    have naj : a ≠ j := apart_cls tp o1 o2 (by decide)
    have nae : a ≠ e := apart_cls tp q1 rfl (by decide)
    have le : e < s.heap.objs.size := Heap.lt_size q1
    have lj : j < s.heap.objs.size := Heap.lt_size o1
    have hi : i < its.toArray.size := by
      rw [List.size_toArray]
      exact (List.getElem?_eq_some_iff.mp hu).1
    refine wpAny_pyNext_enum_itemD (Draws.tuple (A := X.A.in1) (I.ok.hd calm) j a naj its.toArray) q1 ⟨hit, tp⟩ hi q3 (by simp [q3, Ne.symm nae]) fun x g tk px go ⟨git, _⟩ gT gs gk => ?_
    have ex : x = u := by
      have z : its.toArray[i]? = some u := by simpa using hu
      rw [z] at px
      exact (Option.some.inj px).symm
    subst ex
    refine ⟨_, rfl, wpAny_letOwnedTupleGo_enum (s := { s with heap := g, toks := tk + 1 }) go fun g2 ge sb => ?_⟩
    have sl : s.heap.objs.size ≠ e := Nat.ne_of_gt le
    have gT2 : g2.get? s.heap.objs.size = some { cls := .type "tuple", data := .seq #[.int i tk, x] } := (sb.2 _ sl).trans gT
    have made : ObjOk X.prog X.w (upd H s.heap.objs.size (.tup [.int (i : Nat), y])) g2 s.heap.objs.size (.tup [.int (i : Nat), y]) := ⟨by show 2 ≤ sizeLine; decide, [.int i tk, x], .cons ⟨_, rfl⟩ (.cons ru .nil), ⟨_, gT2, rfl, _, rfl⟩⟩
    have J := I.turnedNew (ch := [e, j]) (h' := g2) (t' := tk + 1) (fun b ob hb q => (sb.2 b (fun z => hb (by simp [z]))).trans (gk b ob (fun z => hb (by simp [z])) (fun z => hb (by simp [z])) q)) fo (Nat.le_refl _) made
    refine ⟨.ref s.heap.objs.size, _, J, rfl, ⟨_, y, rfl, I.hok.fresh (Nat.le_refl _), rfl, fun zs hz2 => ?_⟩, ⟨⟨x, ?_⟩, git.at fun o q => (sb.2 j (Ne.symm q3)).trans q, q3⟩, fun b hb => ?_⟩
    · rw [I.tuple_inj hz2 hq]
      exact hy
    · have z : ((i + 1 : Nat) : Int) = (i : Int) + 1 := by omega
      rw [z]
      exact ge
    · have lb : b < s.heap.objs.size := by
        rcases List.mem_cons.mp hb with z | z
        · rw [z]; exact le
        · rw [List.mem_singleton.mp z]; exact lj
      rw [upd_ne (Nat.ne_of_lt lb)]
      exact (fo b hb).1
/-- a new walk that counts: over whatever can be begun -/
theorem meets_num {v : Value} {o : Obj} {P : Heap → Prop} (B : Begins v o P) :
    Meets (Builtin.«enumerate.__new__» ⟨[.type "enumerate", v], []⟩) (fun _ R s => P s.heap ∧ R (.ok (.ret (.ref (s.heap.push o).objs.size))) { s with heap := (s.heap.push o).push { cls := .type "enumerate", data := .fields #[.none, .bool false, .ref s.heap.objs.size, rawInt 0, .none, .none] } }) :=
  .of_wp fun prog w A R s h => by
    obtain ⟨hp, gs, dr, tk, os⟩ := s
    obtain ⟨hP, hR⟩ := h
    have sub := sub_enumerate
    have starts : ∀ {A2 : Around} {E Q : Value → Shared → Prop}, Q (.ref hp.objs.size) ⟨hp.push o, gs, dr, tk, os⟩ → wpAny (model prog w) A2 (pyIter v) Q E ⟨hp, gs, dr, tk, os⟩ := fun q => B.iter prog w _ _ ⟨hp, gs, dr, tk, os⟩ _ hP q
    wp_walk using starts
    refine wpAny_stack_any fun st => wpAny_pure ?_
    split
    · rename_i c _ _ _ _ _
      cases (c == Value.type "enumerate")
      all_goals
        wp_walk using starts
        exact ⟨_, rfl, hR⟩
    · wp_walk using starts
      exact ⟨_, rfl, hR⟩
section
variable {prog : Program} {w : World} {A : Around} {E : Value → Shared → Prop} {s : Shared}
theorem call_numT {t : Addr} {its : Array Value} {Q : Value → Shared → Prop} (ht : s.heap.IsTuple t its)
    (k : ∀ g, IsEnum g (s.heap.objs.size + 1) s.heap.objs.size 0 .none → g.IsTupleIter s.heap.objs.size t 0 → (∀ b o, s.heap.get? b = some o → g.get? b = some o) → Q (.ref (s.heap.objs.size + 1)) { s with heap := g }) :
    wpAny (model prog w) A (call (.type "enumerate") [.ref t]) Q E s := by
  have B := begins_tuple t its
  refine callType_new F.called_enumerate (by decide) (F.typeCall_enumerate_1 _) (F.newCall_enumerate_1 _) (fun obj => F.args_object_init_2 obj _) F.entry_enumerate_new (meets_num B) ⟨ht, ?_⟩
  have sz : ∀ o : Obj, (s.heap.push o).objs.size = s.heap.objs.size + 1 := fun o => Heap.size_push ..
  have q : IsEnum ((s.heap.push { cls := .type "tuple_iterator", data := .fields #[.ref t, .int 0 0] }).push { cls := .type "enumerate", data := .fields #[.none, .bool false, .ref s.heap.objs.size, rawInt 0, .none, .none] }) (s.heap.objs.size + 1) s.heap.objs.size 0 .none := by
    have z := Heap.get?_push_size (s.heap.push { cls := .type "tuple_iterator", data := .fields #[.ref t, .int 0 0] }) (o := { cls := .type "enumerate", data := .fields #[.none, .bool false, .ref s.heap.objs.size, rawInt 0, .none, .none] }) rfl
    rw [sz] at z
    exact z
  show _ ∧ _
  rw [sz]
  exact ⟨⟨_, q, rfl⟩, k _ q ⟨_, Heap.get?_push_of_some _ (Heap.get?_push_size _ rfl), rfl, rfl⟩ fun b o x => Heap.get?_push_of_some _ (Heap.get?_push_of_some _ x)⟩
end
def iNum (K : PySem.W.Frag) (ta : TA) : TI := fun σ H R => ta σ H fun vs H1 => ∃ a, vs = [.ref a] ∧ (((∃ xs, SqL K H1 a xs) ∧ R (Ite K a) H1) ∨ ((∃ xs, SqT K H1 a xs) ∧ R (Itn K a) H1))
theorem pi_num {X : Cx} {e : Expr} {ta : TA} {p pos tp : Pos} {ts : List Expr} {kd : Nat} (hg : Gl X "enumerate") (hm : X.mg "enumerate" = none) (ha : PA X [e] ta) (hs : starEach [e] X.env = [(false, eval e X.env)]) : PI X (.Tuple ts kd tp) (.Call (.Name "enumerate" p) [e] [] pos) (iNum X.K ta) := by
  constructor
  intro pins s σ H R I h
  refine Call_ (ld_blt I hg hm boot_enumerate (PyProof.Rows.callWith_type1 (thn (ha.run pos pins s σ H _ I h) fun us s1 ⟨vs, H1, I1, r1, a, ex, q⟩ => ?_) hs rfl))
  subst ex
  rw [Vals.ref1 r1]
  have two : ∀ b ∈ [s1.heap.objs.size + 1, s1.heap.objs.size], FpOk X pins H1 b := fun b hb => by
    have le : s1.heap.objs.size ≤ b := by
      rcases List.mem_cons.mp hb with z | z
      · rw [z]; exact Nat.le_add_right _ _
      · rw [List.mem_singleton.mp z]; exact Nat.le_refl _
    exact I1.fpOk le (I1.hok.fresh le)
  rcases q with ⟨⟨xs, hq⟩, q⟩ | ⟨⟨xs, hq⟩, q⟩
  · obtain ⟨its, rv, lp, hz⟩ := I1.list hq
    refine call_enumerate_list lp.isList fun g he hit hsz hk => wpAny_pyIter_enum he ?_
    exact ⟨s1.heap.objs.size + 1, _, _, _, H1, rfl, I1.kept (t' := s1.toks) hk, turn_enum a (s1.heap.objs.size + 1) s1.heap.objs.size, ⟨⟨.none, he⟩, hit, Nat.succ_ne_self _⟩, two, q⟩
  · obtain ⟨its, rv, lp, hz⟩ := I1.tuple hq
    have lp : s1.heap.IsTuple a its.toArray := lp
    refine call_numT lp fun g he hit hk => wpAny_pyIter_enum he ?_
    exact ⟨s1.heap.objs.size + 1, _, _, _, H1, rfl, I1.kept (t' := s1.toks) hk, turn_numT a (s1.heap.objs.size + 1) s1.heap.objs.size, ⟨⟨.none, he⟩, hit, Nat.succ_ne_self _⟩, two, q⟩
/-! ### what it yields -/
theorem enumFrom_get : ∀ (ds : List PyData) (k i : Nat), (enumFrom k ds)[i]? = (ds[i]?).map fun d => .tuple [.int ((k + i : Nat) : Int), d]
  | [], k, i => by simp [enumFrom]
  | d :: ds, k, 0 => by simp [enumFrom]
  | d :: ds, k, i + 1 => by
    have := enumFrom_get ds (k + 1) i
    simp only [enumFrom, List.getElem?_cons_succ]
    rw [this, show k + 1 + i = k + (i + 1) by omega]
theorem enumFrom_len : ∀ (ds : List PyData) (k : Nat), (enumFrom k ds).length = ds.length
  | [], _ => rfl
  | d :: ds, k => by simp [enumFrom, enumFrom_len ds (k + 1)]
section
variable {K : PySem.W.Frag} {β : BB} {H : Hp} {a : Addr} {vs : List V} {ds : List PyData}
theorem ite_ok (ha : a ∉ β) (h : Rd H a (.lst vs)) (hs : DPs K β H ds vs) : ItOk K (Ite K a) β H (enumFrom 0 ds) where
  go := fun i δ H1 hi g => by
    rw [enumFrom_len] at hi
    obtain ⟨v, e, _⟩ := hs.get (List.getElem?_eq_getElem hi)
    exact ⟨vs, v, .inl (Rd.growL h ha g), e⟩
  stop := fun i δ H1 hi g => ⟨vs, .inl (Rd.growL h ha g), by rw [← hs.length, ← enumFrom_len ds 0]; exact hi⟩
  yld := fun i δ H1 x H2 d g e y => by
    obtain ⟨p, u, rfl, hp, rfl, hy⟩ := y
    rw [enumFrom_get] at e
    obtain ⟨d0, e0, rfl⟩ := Option.map_eq_some_iff.mp e
    obtain ⟨v, e1, e2⟩ := hs.get e0
    have e3 := hy vs (.inl (Rd.growL h ha g))
    rw [e1] at e3
    cases e3
    refine .inr ⟨p, _, _, hp, rfl, rfl, rfl, .cons ?_ (.cons e2 .nil)⟩
    rw [Nat.zero_add]
    exact .int _
theorem itn_ok (h : SqT K H a vs) (hs : DPs K β H ds vs) : ItOk K (Itn K a) β H (enumFrom 0 ds) where
  go := fun i δ H1 hi g => by
    rw [enumFrom_len] at hi
    obtain ⟨v, e, _⟩ := hs.get (List.getElem?_eq_getElem hi)
    exact ⟨vs, v, SqT.grow h g, e⟩
  stop := fun i δ H1 hi g => ⟨vs, SqT.grow h g, by rw [← hs.length, ← enumFrom_len ds 0]; exact hi⟩
  yld := fun i δ H1 x H2 d g e y => by
    obtain ⟨p, u, rfl, hp, rfl, hy⟩ := y
    rw [enumFrom_get] at e
    obtain ⟨d0, e0, rfl⟩ := Option.map_eq_some_iff.mp e
    obtain ⟨v, e1, e2⟩ := hs.get e0
    have e3 := hy vs (SqT.grow h g)
    rw [e1] at e3
    cases e3
    refine .inr ⟨p, _, _, hp, rfl, rfl, rfl, .cons ?_ (.cons e2 .nil)⟩
    rw [Nat.zero_add]
    exact .int _
end
section
variable {X : Cx} {TT : TB} {C : CA} {E : L2.St → XK} {cx : Cxt}
theorem si_enum {e : Expr} {c : CE} {p pos tp : Pos} {ts : List Expr} {kd : Nat} (hg : Gl X "enumerate") (hm : X.mg "enumerate" = none) (ha : PA X [e] (tA TT X.K C E cx [c])) (hs : starEach [e] X.env = [(false, eval e X.env)]) :
    PI X (.Tuple ts kd tp) (.Call (.Name "enumerate" p) [e] [] pos) (tI TT X.K C E cx .enum [c]) :=
  pi_imp (pi_num hg hm ha hs) fun σ H R ⟨β, m, ρ, rep, rf, hp⟩ => ⟨β, m, ρ, rep, rf, hp.mono fun vs H1 ⟨β2, xs, m1, r, q, nw, hJ⟩ => by
    cases q with
    | nil => exact absurd rfl nw
    | @cons y ys u ws h0 hs =>
      cases hs with
      | cons _ _ => exact absurd (by cases y with | loc _ => rfl | d y => cases y <;> rfl) nw
      | nil =>
        cases y with
        | loc _ => exact absurd rfl nw
        | d y =>
          have h1 : DP X.K β2 H1 y u := h0
          cases h1 with
          | lst ha h1 h2 => exact ⟨_, rfl, .inl ⟨⟨_, .inl h1⟩, hJ _ (ite_ok ha h1 h2)⟩⟩
          | tup h1 h2 => exact ⟨_, rfl, .inr ⟨⟨_, h1⟩, hJ _ (itn_ok h1 h2)⟩⟩
          | _ => exact absurd rfl nw⟩
end
end MN

set_option maxRecDepth 100000
set_option maxHeartbeats 4000000
/-! MnLst: list(enumerate(xs)) of a list. -/
namespace MN
open PySem PySem.Spec PyProof.Rows L2
theorem nolen_en : typeLookup (.type "enumerate") "__len__" = pure none := by rw [typeLookup_type, builtinLookup_eq_fast]; kernel_rfl
theorem nohint_en : typeLookup (.type "enumerate") "__length_hint__" = pure none := by rw [typeLookup_type, builtinLookup_eq_fast]; kernel_rfl
/-- the counting walk over the list at l stands at i; S is no part of it -/
def EnSt (h : Heap) (e j l S : Addr) (items : Array Value) (i : Nat) : Prop :=
  h.IsListIter j l i ∧ h.IsList l items ∧ ((∃ old, IsEnum h e j (i : Nat) old) ∨ ∃ old T f oT, IsEnumHeld h e j (i : Nat) old T f ∧ h.get? T = some oT ∧ T ≠ e ∧ T ≠ j ∧ T ≠ S)
theorem EnSt.ty {s : Shared} {e j l S : Addr} {items : Array Value} {i : Nat} (h : EnSt s.heap e j l S items i) : s.TypeIs (.ref e) "enumerate" := by
  obtain ⟨_, _, ⟨_, h⟩ | ⟨_, _, _, _, h, _⟩⟩ := h
  · exact ⟨_, h, rfl⟩
  · exact ⟨_, h, rfl⟩
theorem EnSt.at {h h' : Heap} {e j l S : Addr} {items : Array Value} {i : Nat} (x : EnSt h e j l S items i) (se : S ≠ e) (sj : S ≠ j) (sl : S ≠ l) (k : ∀ b o, b ≠ S → h.get? b = some o → h'.get? b = some o) : EnSt h' e j l S items i := by
  obtain ⟨h1, h2, h3⟩ := x
  refine ⟨h1.at fun o q => k j o (Ne.symm sj) q, h2.at fun o q => k l o (Ne.symm sl) q, ?_⟩
  rcases h3 with ⟨old, he⟩ | ⟨old, T, f, oT, he, hT, r1, r2, r3⟩
  · exact .inl ⟨old, k _ _ (Ne.symm se) he⟩
  · exact .inr ⟨old, T, f, oT, k _ _ (Ne.symm se) he, k _ _ r3 hT, r1, r2, r3⟩
/-- what was made: tuples of a number and an item -/
inductive NumI (H0 : Hp) (ys : List V) : Nat → List V → Hp → Prop
  | zero : NumI H0 ys 0 [] H0
  | succ {i : Nat} {zs : List V} {H : Hp} {T : Addr} {y : V} : NumI H0 ys i zs H → H T = none → ys[i]? = some y → NumI H0 ys (i + 1) (zs ++ [.ref T]) (upd H T (.tup [.int (i : Nat), y]))
theorem drain_num {X : Cx} {pins : List (Addr × Obj)} {σ : L2.St} {A : Around} {S e j l : Addr} {items : Array Value} {ys : List V} {res : Value} {R : Result → Shared → Prop} {H0 : Hp}
    (hh : A.handled = none) (rv : Vals ys items.toList) (hej : e ≠ j) (hle : l ≠ e) (hlj : l ≠ j) (hSe : S ≠ e) (hSj : S ≠ j) (hSl : S ≠ l) (hz : items.size ≤ sizeLine)
    (fin : ∀ s H zs acc c, Inv X pins σ H s → NumI H0 ys items.size zs H → s.heap.get? S = some (lstObj acc c) → Vals zs acc.toList → zs.length = items.size → FpOk X pins H S → R (.ok (.ret res)) s) :
    ∀ (k i : Nat) (s : Shared) (H : Hp) (zs : List V) (acc : Array Value) (c : Nat), i + k = items.size → Inv X pins σ H s → (∀ b ∈ [S, e, j], FpOk X pins H b) → EnSt s.heap e j l S items i → s.heap.get? S = some (lstObj acc c) → Vals zs acc.toList → zs.length = i → NumI H0 ys i zs H →
      codeAny (model X.prog X.w) A (.builtin "list.extend.loop" ⟨[.ref S, .ref e, res], []⟩) R s := by
  intro k
  induction k with
  | zero =>
    intro i s H zs acc c hik I fo st hS hv hl hJ
    have hi : i = items.size := by omega
    subst hi
    refine codeAny_builtin F.entry_extend_loop ?_
    rw [Around.under_plainId F.plain_extend_loop _]
    show wpAny _ A.in1 (pyNext (.ref e) >>= _) _ _ s
    obtain ⟨hit, hls, he⟩ := st
    have hx : items[items.size]? = none := Array.getElem?_eq_none (Nat.le_refl _)
    have go : ∀ h', Heap.ExtBut j s.heap h' → R (.ok (.ret res)) { s with heap := h' } := fun h' hk =>
      fin _ H zs acc c (I.turnedL (t' := s.toks) (ch := [S, e, j]) (fun b o hb q => hk b o (fun z => hb (by simp [z])) q) fo) hJ (hk S _ hSj hS) hv hl (fo S (by simp))
    rcases he with ⟨old, he⟩ | ⟨old, T, f, oT, he, hT, r1, r2, r3⟩
    · exact wpAny_bind (wpAny_pyNext_enum_end hh he hit hls hx fun h' hk => wpAny_pure (go h' hk))
    · exact wpAny_bind (wpAny_pyNext_enum_end_held hh he hit hls hx fun h' hk => wpAny_pure (go h' hk))
  | succ k ih =>
    intro i s H zs acc c hik I fo st hS hv hl hJ
    have hi : i < items.size := by omega
    have ex := Array.getElem?_eq_getElem hi
    have hyl : i < ys.length := by rw [rv.length, Array.length_toList]; exact hi
    have hy := List.getElem?_eq_getElem hyl
    obtain ⟨u, hu, ru⟩ := rv.get hy
    have eu : u = items[i] := by
      rw [Array.getElem?_toList, ex] at hu
      exact (Option.some.inj hu).symm
    subst eu
    refine codeAny_builtin F.entry_extend_loop ?_
    rw [Around.under_plainId F.plain_extend_loop _]
    show wpAny _ A.in1 (pyNext (.ref e) >>= _) _ _ s
    obtain ⟨hit, hls, he⟩ := st
    have lS : S < s.heap.objs.size := Heap.lt_size hS
    have lj : j < s.heap.objs.size := let ⟨_, x, _⟩ := hit; Heap.lt_size x
    have ll : l < s.heap.objs.size := let ⟨_, x, _⟩ := hls; Heap.lt_size x
    have le : e < s.heap.objs.size := by
      rcases he with ⟨_, he⟩ | ⟨_, _, _, _, he, _⟩
      · exact Heap.lt_size he
      · exact Heap.lt_size he
    have hasz : acc.size = i := by rw [← Array.length_toList, ← hv.length, hl]
    have on : ∀ (h' : Heap), EnSt h' e j l S items (i + 1) → h'.get? s.heap.objs.size = some { cls := .type "tuple", data := .seq #[.int i s.toks, items[i]] } → (∀ b o, b ≠ e → b ≠ j → s.heap.get? b = some o → h'.get? b = some o) →
        codeAny (model X.prog X.w) A (.builtin "list.extend.loop" ⟨[.ref S, .ref e, res], []⟩) R { s with heap := h'.update S (Obj.mapSeq (·.push (.ref s.heap.objs.size))), toks := s.toks + 1 } := by
      intro h' st' hT hk
      have hS1 : h'.get? S = some (lstObj acc c) := hk S _ hSe hSj hS
      have hS2 := Heap.get?_update_self (Obj.mapSeq (·.push (.ref s.heap.objs.size))) hS1 rfl
      have keep3 : ∀ b o, b ≠ S → h'.get? b = some o → (h'.update S (Obj.mapSeq (·.push (.ref s.heap.objs.size)))).get? b = some o := fun b o hbS q => (Heap.get?_update_other _ _ (Ne.symm hbS)).trans q
      have hT2 := keep3 _ _ (Nat.ne_of_gt lS) hT
      have hn : H s.heap.objs.size = none := I.hok.fresh (Nat.le_refl _)
      have made : ObjOk X.prog X.w (upd H s.heap.objs.size (.tup [.int (i : Nat), ys[i]])) (h'.update S (Obj.mapSeq (·.push (.ref s.heap.objs.size)))) s.heap.objs.size (.tup [.int (i : Nat), ys[i]]) :=
        ⟨by show 2 ≤ sizeLine; decide, [.int i s.toks, items[i]], .cons ⟨_, rfl⟩ (.cons ru .nil), ⟨_, hT2, rfl, _, rfl⟩⟩
      have J := I.turnedNew (ch := [S, e, j]) (t' := s.toks + 1) (fun b ob hb q => keep3 b ob (fun z => hb (by simp [z])) (hk b ob (fun z => hb (by simp [z])) (fun z => hb (by simp [z])) q)) fo (Nat.le_refl _) made
      refine ih (i + 1) _ _ _ (acc.push (.ref s.heap.objs.size)) _ (by omega) J (fun b hb => ?_) (st'.at hSe hSj hSl keep3) hS2 ?_ (by rw [List.length_append, hl]; rfl) (.succ hJ hn hy)
      · have lb : b < s.heap.objs.size := by
          simp only [List.mem_cons, List.not_mem_nil, or_false] at hb
          rcases hb with z | z | z <;> rw [z] <;> assumption
        exact ⟨by rw [upd_ne (Nat.ne_of_lt lb)]; exact (fo b hb).1, (fo b hb).2⟩
      · rw [Array.toList_push]
        exact hv.append (.cons rfl .nil)
    have push : ∀ (h' : Heap), EnSt h' e j l S items (i + 1) → h'.get? s.heap.objs.size = some { cls := .type "tuple", data := .seq #[.int i s.toks, items[i]] } → (∀ b o, b ≠ e → b ≠ j → s.heap.get? b = some o → h'.get? b = some o) → h'.get? S = some (lstObj acc c) := fun h' st' hT hk => hk S _ hSe hSj hS
    have ec : ((i + 1 : Nat) : Int) = (i : Int) + 1 := by omega
    rcases he with ⟨old, he⟩ | ⟨old, T, f, oT, he, hT, r1, r2, r3⟩
    · refine wpAny_bind (wpAny_pyNext_enum_item he hit hls ex hej fun h' ho hit' hT hsz hk => ?_)
      have st' : EnSt h' e j l S items (i + 1) := ⟨hit', hls.at fun o x => hk l o hle hlj x, .inr ⟨_, s.heap.objs.size, false, _, (by rw [ec]; exact ho), hT, Nat.ne_of_gt le, Nat.ne_of_gt lj, Nat.ne_of_gt lS⟩⟩
      show wpAny _ A.in1 (updateSeq S (·.push (.ref s.heap.objs.size)) >>= _) _ _ _
      refine wpAny_bind ?_
      exact wpAny_updateSeq (push h' st' hT hk) rfl (wpAny_pure ⟨plainId_quiet F.plain_extend_loop _, on h' st' hT hk⟩) (by omega) (by show (acc.push _).size ≤ sizeLine + 1; rw [Array.size_push]; omega)
    · refine wpAny_bind (wpAny_pyNext_enum_item_held he hT r1 r2 hit hls ex hej fun h' ho hit' hT' hsz hk => ?_)
      have st' : EnSt h' e j l S items (i + 1) := ⟨hit', hls.at fun o x => hk l o hle hlj x, .inr ⟨old, T, true, oT, (by rw [ec]; exact ho), hk _ _ r1 r2 hT, r1, r2, r3⟩⟩
      show wpAny _ A.in1 (updateSeq S (·.push (.ref s.heap.objs.size)) >>= _) _ _ _
      refine wpAny_bind ?_
      exact wpAny_updateSeq (push h' st' hT' hk) rfl (wpAny_pure ⟨plainId_quiet F.plain_extend_loop _, on h' st' hT' hk⟩) (by omega) (by show (acc.push _).size ≤ sizeLine + 1; rw [Array.size_push]; omega)
end MN
namespace MN
open PySem PySem.Spec PyProof.Rows L2
def tLstNum (K : PySem.W.Frag) (ta : TE) : TE := fun σ H Q => ta σ H fun x H1 => ∃ (l : Addr) (ys : List V), x = .ref l ∧ SqL K H1 l ys ∧ ∀ (zs : List V) (H2 : Hp) (S : Addr), NumI H1 ys ys.length zs H2 → H2 S = none → Q (.ref S) (upd H2 S (.lst zs))
theorem up_new {h h' : Heap} {S : Addr} (f : Obj → Obj) (q : ∀ b o, b ≠ S → h.get? b = some o → h'.get? b = some o) : ∀ b o, b ≠ S → h.get? b = some o → (h'.update S f).get? b = some o := fun b o hb e =>
  (Heap.get?_update_other _ _ (Ne.symm hb)).trans (q b o hb e)
/-- list(e), e a walk that counts -/
theorem call_lst_num {X : Cx} {pins : List (Addr × Obj)} {σ : L2.St} {H : Hp} {s : Shared} {e j l : Addr} {items : Array Value} {ys : List V} {Q : VK} {A : Around} {E : Value → Shared → Prop} (I : Inv X pins σ H s) (hh : A.handled = none) (rv : Vals ys items.toList)
    (hej : e ≠ j) (hle : l ≠ e) (hlj : l ≠ j) (hz : items.size ≤ sizeLine) (fe : FpOk X pins H e) (fj : FpOk X pins H j) (he : IsEnum s.heap e j 0 .none) (hit : s.heap.IsListIter j l 0) (hl : s.heap.IsList l items)
    (hQ : ∀ (zs : List V) (H2 : Hp) (S : Addr), NumI H ys ys.length zs H2 → H2 S = none → Q (.ref S) (upd H2 S (.lst zs))) :
    wpAny (model X.prog X.w) A (call (.type "list") [.ref e]) (EP X pins σ Q) E s := by
  have le : e < s.heap.objs.size := Heap.lt_size he
  have lj : j < s.heap.objs.size := let ⟨_, x, _⟩ := hit; Heap.lt_size x
  have ll : l < s.heap.objs.size := let ⟨_, x, _⟩ := hl; Heap.lt_size x
  have hSe : s.heap.objs.size ≠ e := Nat.ne_of_gt le
  have hSj : s.heap.objs.size ≠ j := Nat.ne_of_gt lj
  have hSl : s.heap.objs.size ≠ l := Nat.ne_of_gt ll
  have hyl : ys.length = items.size := by rw [rv.length, Array.length_toList]
  have hn : H s.heap.objs.size = none := I.hok.fresh (Nat.le_refl _)
  refine callType_codes (Q₁ := fun obj s₁ => obj = .ref s.heap.objs.size ∧ s₁ = { s with heap := s.heap.push (lstObj #[] 0) }) F.called_list (F.typeCall_list_1 _) F.entry_list_init (code_list_new _ ⟨rfl, rfl⟩) fun obj s₁ h₁ => ?_
  obtain ⟨rfl, rfl⟩ := h₁
  have g0 : (s.heap.push (lstObj #[] 0)).get? s.heap.objs.size = some (lstObj #[] 0) := Heap.get?_push_size _ rfl
  have k0 : ∀ b o, b ≠ s.heap.objs.size → s.heap.get? b = some o → (s.heap.push (lstObj #[] 0)).get? b = some o := fun b o _ q => Heap.get?_push_of_some _ q
  have st0 : EnSt s.heap e j l s.heap.objs.size items 0 := ⟨hit, hl, .inl ⟨_, he⟩⟩
  refine ⟨⟨_, g0, rfl⟩, F.args_list_init_2 _ _, ?_⟩
  unfold Builtin.«list.__init__»
  refine wpAny_bind (m := Builtin.List.listItems (.ref s.heap.objs.size)) ?_
  unfold Builtin.List.listItems
  refine wpAny_bind (wpAny_seqItems g0 rfl ?_)
  refine wpAny_pure ?_
  refine wpAny_bind (m := updateSeq s.heap.objs.size fun _ => #[]) (wpAny_updateSeq g0 rfl ?_)
  have g1 := Heap.get?_update_self (Obj.mapSeq (fun _ => (#[] : Array Value))) g0 rfl
  have k1 := up_new (Obj.mapSeq (fun _ => (#[] : Array Value))) k0
  refine wpAny_bind (wpAny_letGo ?_)
  show wpAny _ _ (Builtin.List.listExtendWith (.ref s.heap.objs.size) (.ref e) .none) _ _ _
  unfold Builtin.List.listExtendWith
  refine wpAny_bind (wpAny_typeOf (EnSt.ty (st0.at hSe hSj hSl k1)) ?_)
  have q1 : Builtin.List.listSameRef (.ref s.heap.objs.size) (.ref e) = false := by simp [Builtin.List.listSameRef, hSe]
  have q2 : (Value.type "enumerate" == Value.type "list") = false := by decide
  have q3 : (Value.type "enumerate" == Value.type "tuple") = false := by decide
  simp only [q1, q2, q3, Bool.or_false, Bool.false_eq_true, if_false]
  refine wpAny_bind (wpAny_pyIter_enum (k1 _ _ (Ne.symm hSe) he) (wpAny_bind (wpAny_holding ?_)))
  unfold Builtin.List.listLengthHint
  refine wpAny_bind (wpAny_specialOf (EnSt.ty (st0.at hSe hSj hSl k1)) nolen_en ?_)
  refine wpAny_bind (m := specialOf (Value.ref e) (Str.ofString "__length_hint__")) (wpAny_specialOf (EnSt.ty (st0.at hSe hSj hSl k1)) nohint_en ?_)
  refine wpAny_pure ?_
  show wpAny _ _ (rule "list.extend.makes-room" >>= fun _ => Builtin.List.listTouch (.ref s.heap.objs.size) >>= fun _ => again (.builtin "list.extend.loop" ⟨[.ref s.heap.objs.size, .ref e, .none], []⟩)) _ _ _
  refine wpAny_bind (wpAny_rule (wpAny_bind ?_))
  show wpAny _ _ (updateSeq s.heap.objs.size (·.push .none) >>= fun _ => updateSeq s.heap.objs.size (·.pop)) _ _ _
  refine wpAny_bind (wpAny_updateSeq g1 rfl ?_)
  have g2 := Heap.get?_update_self (Obj.mapSeq (·.push Value.none)) g1 rfl
  have k2 := up_new (Obj.mapSeq (·.push Value.none)) k1
  refine wpAny_updateSeq (hz := by seq_fits) g2 rfl ?_
  have g3 := Heap.get?_update_self (Obj.mapSeq (·.pop)) g2 rfl
  have k3 := up_new (Obj.mapSeq (·.pop)) k2
  have fS : FpOk X pins H s.heap.objs.size := I.fpOk (Nat.le_refl _) hn
  refine wpAny_pure ⟨plainId_quiet F.plain_extend_loop _, ?_⟩
  have fos : ∀ b ∈ [s.heap.objs.size, e, j], FpOk X pins H b := fun b hb => by
    simp only [List.mem_cons, List.not_mem_nil, or_false] at hb
    rcases hb with z | z | z <;> rw [z] <;> assumption
  have I3 := I.turnedL (t' := s.toks) (ch := [s.heap.objs.size]) (h' := (((s.heap.push (lstObj #[] 0)).update s.heap.objs.size (Obj.mapSeq fun _ => #[])).update s.heap.objs.size (Obj.mapSeq (·.push Value.none))).update s.heap.objs.size (Obj.mapSeq (·.pop)))
    (fun b o hb q => k3 b o (fun z => hb (by simp [z])) q) fun b hb => by rw [List.mem_singleton.mp hb]; exact fS
  have end_ : ∀ (s' : Shared) (H' : Hp) (zs : List V) (acc : Array Value) (c : Nat), Inv X pins σ H' s' → NumI H ys items.size zs H' → s'.heap.get? s.heap.objs.size = some (lstObj acc c) → Vals zs acc.toList → zs.length = items.size → FpOk X pins H' s.heap.objs.size →
      EP X pins σ Q (.ref s.heap.objs.size) s' := fun s' H' zs acc c J hJ gS hv hlz fo => by
    have new : ObjOk X.prog X.w (upd H' s.heap.objs.size (.lst zs)) s'.heap s.heap.objs.size (.lst zs) := ⟨by rw [hlz]; exact hz, acc.toList, c, hv, gS⟩
    exact ⟨.ref s.heap.objs.size, _, J.take (t' := s'.toks) (h' := s'.heap) (o := .lst zs) (fun b ob _ q => q) fo new, rfl, hQ zs H' _ (by rw [hyl]; exact hJ) fo.1⟩
  exact drain_num (X := X) (pins := pins) (σ := σ) (H0 := H) (A := A.in1) (l := l) (items := items) (ys := ys) hh rv hej hle hlj hSe hSj hSl hz (fun s' H' zs acc c J hJ gS hv hlz fo => ⟨rfl, end_ s' H' zs acc c J hJ gS hv hlz fo⟩) items.size 0 _ H [] _ _ (Nat.zero_add _)
    I3 fos (st0.at hSe hSj hSl k3) g3 .nil rfl .zero
/-- list(enumerate(a)) -/
theorem pe_lstNum {X : Cx} {a : Expr} {ta : TE} {p p2 q pos : Pos} (hc : X.calm = true) (hg : Gl X "list") (hm : X.mg "list" = none) (hg2 : Gl X "enumerate") (hm2 : X.mg "enumerate" = none) (ha : PE X a ta)
    (na : starEach [a] X.env = (false, eval a X.env) :: starEach [] X.env := by rfl) : PE X (.Call (.Name "list" p) [.Call (.Name "enumerate" p2) [a] [] q] [] pos) (tLstNum X.K ta) := by
  refine ⟨fun pins s σ H Q I h => ?_⟩
  refine Call_ (ld_blt I hg hm PySem.Pv.boot_list (PyProof.Rows.callWith_type1 (PyProof.Rows.args_cons ?_ rfl) rfl rfl))
  refine Call_ (ld_blt I hg2 hm2 boot_enumerate (PyProof.Rows.callWith_type1 (PyProof.Rows.args_cons (thn (ha.run pins s σ H _ I h) fun v s1 ⟨x, H1, I1, r1, q1⟩ => PyProof.Rows.args_nil ?_) na) na rfl))
  obtain ⟨l, ys, rfl, hq, q1⟩ := q1
  cases r1
  obtain ⟨its, rv, lp, hz⟩ := I1.list hq
  refine call_enumerate_list lp.isList fun g he hit hsz hk => PyProof.Rows.args_nil ?_
  have I2 : Inv X pins σ H1 { s1 with heap := g } := I1.kept (t' := s1.toks) hk
  have ll : l < s1.heap.objs.size := let ⟨_, x, _⟩ := lp.isList; Heap.lt_size x
  have fp : ∀ b, s1.heap.objs.size ≤ b → FpOk X pins H1 b := fun b hb => I1.fpOk hb (I1.hok.fresh hb)
  have ls : g.IsList l its.toArray := let ⟨o, x, r⟩ := lp.isList; ⟨o, hk _ _ x, r⟩
  exact call_lst_num I2 (I.ok.hd hc) rv (Nat.succ_ne_self _) (Nat.ne_of_lt (Nat.lt_succ_of_lt ll)) (Nat.ne_of_lt ll) (by rw [List.size_toArray, ← rv.length]; exact hz) (fp _ (Nat.le_succ _)) (fp _ (Nat.le_refl _)) he hit ls q1
end MN

set_option maxRecDepth 100000
set_option maxHeartbeats 4000000
/-! MnCall: calls, methods, displays of dicts, tables of the module. -/
namespace MN
open PySem PySem.Spec PyProof.Rows L2

theorem bind_ok {α β : Type} {r : R α} {f : α → Store → R β} {b : β} {m : Store} (h : r.bind f = .ok b m) : ∃ a m1, r = .ok a m1 ∧ f a m1 = .ok b m := by
  cases r with
  | ok a m1 => exact ⟨a, m1, rfl, h⟩
  | ex e m1 => cases h
  | no => cases h
theorem evEs_len {cx : Cxt} {ρ : Fr} : ∀ {cs : List CE} {m m1 : Store} {xs : List Val}, evEs cx cs ρ m = .ok xs m1 → xs.length = cs.length
  | [], m, m1, xs, h => by
    simp only [evEs] at h
    cases h
    rfl
  | c :: cs, m, m1, xs, h => by
    simp only [evEs] at h
    obtain ⟨v, m2, h1, h2⟩ := bind_ok h
    obtain ⟨vs, m3, h3, h4⟩ := bind_ok h2
    cases h4
    rw [List.length_cons, List.length_cons, evEs_len h3]
section
variable {TT : TB} {K : PySem.W.Frag} {C : CA} {E : L2.St → XK} {cx : Cxt} {β : BB} {H : Hp} {m : Store} {ρ : Fr} {σ : L2.St} {α ζ : Type} {Rel : BB → Hp → α → ζ → Prop} {Q : ζ → Hp → Prop}
theorem ev1L {a : List CE} {f : List Val → Store → R α} {R0 : List V → Hp → Prop} (rep : RepS TT K β H m) (rf : RF K β H ρ σ) (hp : Post TT K C Rel β H ((evEs cx a ρ m).bind f) Q (E σ))
    (k : ∀ δ x m1 v H1, Grow β H δ H1 → RepS TT K (β ++ δ) H1 m1 → RF K (β ++ δ) H1 ρ σ → RVs K (β ++ δ) H1 x v → x.length = a.length → Post TT K C Rel (β ++ δ) H1 (f x m1) Q (E σ) → R0 v H1) : tA TT K C E cx a σ H R0 := by
  refine ⟨β, m, ρ, rep, rf, ?_⟩
  cases e : evEs cx a ρ m with
  | no => rw [e] at hp; exact hp.elim
  | ex x m1 =>
    rw [e] at hp
    exact hp
  | ok xs m1 =>
    rw [e] at hp
    exact fun δ H1 v g r q => k δ xs m1 v H1 g r (rf.grow g) q (evEs_len e) (Post.grow (r := f xs m1) hp g r)
theorem RVs.app : ∀ {xs ys : List Val} {vs ws : List V}, RVs K β H xs vs → RVs K β H ys ws → RVs K β H (xs ++ ys) (vs ++ ws)
  | _, _, _, _, .nil, h => h
  | _, _, _, _, .cons h hs, q => .cons h (RVs.app hs q)
theorem DPs.rvs : ∀ {ds : List PyData} {vs : List V}, DPs K β H ds vs → RVs K β H (ds.map Val.d) vs
  | _, _, .nil => .nil
  | _, _, .cons h hs => .cons h (DPs.rvs hs)
theorem fill_full {np : Nat} {dfl : List PyData} {xs ys : List Val} (h : fill np dfl xs = some ys) : fill np dfl ys = some ys ∧ ys = xs ++ (dfl.drop (xs.length + dfl.length - np)).map Val.d ∧ ys.length = np := by
  unfold fill at h
  split at h
  · rename_i hz
    cases h
    have hl : (xs ++ (dfl.drop (xs.length + dfl.length - np)).map Val.d).length = np := by
      rw [List.length_append, List.length_map, List.length_drop]
      omega
    refine ⟨?_, rfl, hl⟩
    unfold fill
    rw [if_pos ⟨by omega, by omega⟩, hl]
    have : dfl.drop (np + dfl.length - np) = [] := List.drop_eq_nil_of_le (by omega)
    rw [this, List.map_nil, List.append_nil]
  · cases h
theorem call_fill {T : Tbl} {n : Nat} {x : Str} {d : FD} {xs : List Val} {m : Store} (hT : T.fn x = some d) (he : d.exc = none) (h1 : xs.length ≤ d.np) (h2 : d.np ≤ xs.length + d.dfl.length) :
    (cxt T n).call x (xs ++ (d.dfl.drop (xs.length + d.dfl.length - d.np)).map Val.d) m = (cxt T n).call x xs m := by
  cases n with
  | zero => rfl
  | succ n =>
    have e : fill d.np d.dfl xs = some (xs ++ (d.dfl.drop (xs.length + d.dfl.length - d.np)).map Val.d) := by
      unfold fill
      rw [if_pos ⟨h1, h2⟩]
    have e2 := (fill_full e).1
    show run T (cxt T n) x _ m = run T (cxt T n) x xs m
    unfold run
    rw [hT]
    dsimp only
    rw [he]
    dsimp only
    rw [e, e2]
end
def noStar (e : Expr) : Bool := match e with
  | .Starred .. => false
  | _ => true
theorem star_cons {e : Expr} {es : List Expr} {env : Env} (h : noStar e = true) : starEach (e :: es) env = (false, eval e env) :: starEach es env := by
  cases e <;> first | rfl | cases h
theorem star_plain {es : List Expr} {env : Env} {pos : Pos} (h : ∀ e ∈ es, noStar e = true) : (backTo pos (starEach es env)).any (·.1) = false ∧ (backTo pos (starEach es env)).all (fun x => !x.1) = true := by
  induction es with
  | nil => exact ⟨rfl, rfl⟩
  | cons e es ih =>
    obtain ⟨h1, h2⟩ := ih fun x hx => h x (List.mem_cons_of_mem _ hx)
    rw [star_cons (h e List.mem_cons_self)]
    unfold backTo at h1 h2 ⊢
    rw [List.map_cons, List.any_cons, List.all_cons, h1, h2]
    exact ⟨rfl, rfl⟩
section
variable {X : Cx} {TT : TB} {C : CA} {E : L2.St → XK} {cx : Cxt} {T : Tbl} {G : Str → Option GK} {n : Nat} {x : Str} {p pos apos : Pos} {es : List Expr} {cs : List CE} {e a b : Expr} {ca cb : CE}
theorem so_call {np nd : Nat} {rp : Bool} (gf : GF T G TT C n X.prog X.w X.K X.mg X.base) (hr : Room (n + 2) X.A) (hgd : rp = true → X.A.guards = some []) (hG : G x = some (.fn np nd rp)) (hg : Gl X x) (hcall : cx.call = (cxt T n).call) (hx : ∀ σ, PassesAt (L2.CX X.prog X.w) X σ (E σ))
    (ha : PA X es (tA TT X.K C E cx cs)) (h1 : cs.length ≤ np) (h2 : np ≤ cs.length + nd) (hns : ∀ e ∈ es, noStar e = true) (hl0 : cs.length = es.length) : PE X (.Call (.Name x p) es [] pos) (tE TT X.K C E cx (.call x cs)) := by
  obtain ⟨d, f, fd, ps, hT, he, enp, end_, hm, hk, hps, hb, F⟩ := gf.fn x np nd rp hG
  subst enp end_
  obtain ⟨ds, dvs, b1, b2, b3⟩ := hb cs.length h1 h2
  have hdb := (gf.nd x _ hG).1
  have key : ∀ σ H Q, tE TT X.K C E cx (.call x cs) σ H Q → tCallSD (spF T TT C X.K d.np n x) dvs E (tA TT X.K C E cx cs) σ H Q := fun σ H Q ⟨β, m, ρ, rep, rf, hp⟩ => by
    simp only [evE] at hp
    refine ev1L rep rf hp fun δ xs m1 vs H1 g r f q hl pp => ?_
    have q2 := q.app (b3 (β ++ δ) H1).rvs
    rw [hcall, ← call_fill hT he (by rw [hl]; exact h1) (by rw [hl]; exact h2), hl] at pp
    refine ⟨?_, β ++ δ, m1, _, r, q2, pp⟩
    rw [← q2.length, List.length_append, List.length_map, List.length_drop, hl]
    omega
  cases es with
  | nil =>
    have e0 : cs = [] := by
      cases cs with
      | nil => rfl
      | cons c cs =>
        exact absurd hl0 (by simp)
    subst e0
    refine pe_imp (pe_callG0 F hr hgd hg hm hk b1 b2 hx hdb) fun σ H Q h => ?_
    obtain ⟨β, m, ρ, rep, rf, hp⟩ := key σ H Q h
    exact Post.ok0 hp rep .nil
  | cons e es => exact pe_imp (pe_callG F hr hgd hg hm hk b1 b2 hx ha hdb (star_cons (hns e List.mem_cons_self)) (star_plain fun x hx => hns x (List.mem_cons_of_mem _ hx)).1) key
end

section
variable {X : Cx} {TT : TB} {C : CA} {E : L2.St → XK} {cx : Cxt} {x : Str} {p pos apos : Pos} {es : List Expr} {cs : List CE} {e a b : Expr} {ca cb : CE} {k : Bi}
theorem so_bi (h : PE X e (tCB (rBi TT X.K C k) (tA TT X.K C E cx cs))) : PE X e (tE TT X.K C E cx (.bi k cs)) :=
  pe_imp h fun σ H Q ⟨β, m, ρ, rep, rf, hp⟩ => by
    simp only [evE] at hp
    exact ev1A rep rf hp fun δ xs m1 vs H1 g r f q p => ⟨_, m1, xs, E σ, r, q, p⟩
theorem so_bl (h : PE X e (tCB (rBl TT X.K C k) (tA TT X.K C E cx cs))) : PE X e (tE TT X.K C E cx (.bloc k cs)) :=
  pe_imp h fun σ H Q ⟨β, m, ρ, rep, rf, hp⟩ => by
    simp only [evE] at hp
    exact ev1A rep rf hp fun δ xs m1 vs H1 g r f q p => ⟨_, m1, xs, E σ, r, q, p⟩
/-- isinstance(a, T) -/
theorem so_is {T : String} {y : Str} {py : Pos} (hT : biTy k = some T) (hg : Gl X "isinstance") (hm : X.mg "isinstance" = none) (hgy : Gl X y) (hmy : X.mg y = none) (hv : bootBuiltins y = some (.type T)) (hn : y ≠ "__name__") (hdb : (y == ("__debug__" : Str)) = false) (hs : noStar a = true)
    (ha : PE X a (tE TT X.K C E cx ca)) : PE X (.Call (.Name "isinstance" p) [a, .Name y py] [] pos) (tE TT X.K C E cx (.bi k [ca])) := by
  have hs1 : starEach [Expr.Name y py] X.env = (false, eval (.Name y py) X.env) :: starEach [] X.env := rfl
  have hpa : PA X [a, .Name y py] (tCons (tE TT X.K C E cx ca) (tCons (tC (.ty T)) tNil)) := pa_cons ha (pa_cons (pe_bltn hgy hmy hv rfl hn hdb) pa_nil hs1) (star_cons hs)
  refine pe_imp (pe_callB (bi_is (TT := TT) hT) hg hm PyProof.Rows.boot_isinstance hpa (by decide) (by decide) (star_cons hs) rfl) fun σ H Q ⟨β, m, ρ, rep, rf, hp⟩ => ?_
  simp only [evE, evEs, bind_assoc] at hp
  refine ev1 rep rf hp fun δ y m1 v H1 g r f q p => ?_
  have p2 : Post TT X.K C (RV X.K) (β ++ δ) H1 (match isK k y m1 with
    | some k => .ok (.d (.bool k)) m1
    | none => .no) Q (E σ) := by
    cases k <;> cases hT <;> (cases y with
      | d y => cases y <;> exact p
      | loc _ => exact p)
  cases ek : isK k y m1 with
  | none => rw [ek] at p2; exact p2.elim
  | some c =>
    rw [ek] at p2
    exact ⟨_, m1, y, v, c, rfl, r, q, ek, Post.val p2 r (.bl c)⟩
/-! ### list(range(..)), tuple(range(..)) -/
theorem rg_dps {K : PySem.W.Frag} {β : BB} {H : Hp} {a b : Int} : DPs K β H (rangeD a b) (rgV a b) := by
  unfold rangeD rgV
  generalize (b - a).toNat = n
  have : ∀ l : List Nat, DPs K β H (l.map fun (i : Nat) => PyData.int (a + i)) (l.map fun i => V.int (a + (i : Nat))) := by
    intro l
    induction l with
    | nil => exact .nil
    | cons i l ih => exact .cons (.int _) ih
  exact this _
theorem rg_small {a b : Int} (h : rgOk a b = true) : RgOk a b := by
  obtain ⟨h1, h2, h3, h4⟩ := rg_ok h
  exact ⟨by omega, by omega, by omega, by omega, by omega⟩
theorem so_lrg1 {p2 pos2 : Pos} {ar : Expr} (hc : X.calm = true) (hg : Gl X "list") (hm : X.mg "list" = none) (hgr : Gl X "range") (hmr : X.mg "range" = none) (hs : noStar a = true) (ha : PE X a (tE TT X.K C E cx ca)) :
    PE X (.Call (.Name "list" p) [.Call (.Name "range" p2) [a] [] pos2] [] pos) (tE TT X.K C E cx (.bi .lstRange [ca])) := by
  refine pe_imp (pe_listRg hc hg hm (prg_1 hgr hmr ha (star_cons hs)) rfl) fun σ H Q ⟨β, m, ρ, rep, rf, hp⟩ => ?_
  simp only [evE, evEs, bind_assoc] at hp
  refine ev1 rep rf hp fun δ y m1 v H1 g r f q p => ?_
  cases y with
  | loc _ => exact p.elim
  | d y =>
    have q' : DP X.K _ H1 y v := q
    cases q' with
    | int n =>
      have p2 : Post TT X.K C (RV X.K) (β ++ δ) H1 (if rgOk 0 n = true then .ok (.d (.list (rangeD 0 n))) m1 else .no) Q (E σ) := p
      split at p2
      · rename_i hz
        exact ⟨n, rfl, rg_small hz, fun l hn => p2.newL r rg_dps hn⟩
      · exact p2.elim
    | _ => exact p.elim
theorem so_lrg1l {p2 pos2 : Pos} {ar : Expr} (hc : X.calm = true) (hg : Gl X "list") (hm : X.mg "list" = none) (hgr : Gl X "range") (hmr : X.mg "range" = none) (hs : noStar a = true) (ha : PE X a (tE TT X.K C E cx ca)) :
    PE X (.Call (.Name "list" p) [.Call (.Name "range" p2) [a] [] pos2] [] pos) (tE TT X.K C E cx (.bloc .lstRange [ca])) := by
  refine pe_imp (pe_listRg hc hg hm (prg_1 hgr hmr ha (star_cons hs)) rfl) fun σ H Q ⟨β, m, ρ, rep, rf, hp⟩ => ?_
  simp only [evE, evEs, bind_assoc] at hp
  refine ev1 rep rf hp fun δ y m1 v H1 g r f q p => ?_
  cases y with
  | loc _ => exact p.elim
  | d y =>
    have q' : DP X.K _ H1 y v := q
    cases q' with
    | int n =>
      have p2 : Post TT X.K C (RV X.K) (β ++ δ) H1 (if rgOk 0 n = true then .ok (.loc m1.length) (m1 ++ [.lst (rangeD 0 n)]) else .no) Q (E σ) := p
      split at p2
      · rename_i hz
        exact ⟨n, rfl, rg_small hz, fun l hn => p2.newM (o := .lst (rgV 0 n)) r (show DPs X.K _ _ _ _ from rg_dps) rfl hn⟩
      · exact p2.elim
    | _ => exact p.elim
theorem so_trg1 {p2 pos2 : Pos} {ar : Expr} (hc : X.calm = true) (hg : Gl X "tuple") (hm : X.mg "tuple" = none) (hgr : Gl X "range") (hmr : X.mg "range" = none) (hs : noStar a = true) (ha : PE X a (tE TT X.K C E cx ca)) :
    PE X (.Call (.Name "tuple" p) [.Call (.Name "range" p2) [a] [] pos2] [] pos) (tE TT X.K C E cx (.bi .tupRange [ca])) := by
  refine pe_imp (pe_tupRg hc hg hm (prg_1 hgr hmr ha (star_cons hs)) rfl) fun σ H Q ⟨β, m, ρ, rep, rf, hp⟩ => ?_
  simp only [evE, evEs, bind_assoc] at hp
  refine ev1 rep rf hp fun δ y m1 v H1 g r f q p => ?_
  cases y with
  | loc _ => exact p.elim
  | d y =>
    have q' : DP X.K _ H1 y v := q
    cases q' with
    | int n =>
      have p2 : Post TT X.K C (RV X.K) (β ++ δ) H1 (if rgOk 0 n = true then .ok (.d (.tuple (rangeD 0 n))) m1 else .no) Q (E σ) := p
      split at p2
      · rename_i hz
        exact ⟨n, rfl, rg_small hz, fun l hn => p2.newT r rg_dps hn⟩
      · exact p2.elim
    | _ => exact p.elim
theorem so_lrg2 {p2 pos2 : Pos} (hc : X.calm = true) (hg : Gl X "list") (hm : X.mg "list" = none) (hgr : Gl X "range") (hmr : X.mg "range" = none) (hs : noStar a = true) (hsb : noStar b = true) (ha : PE X a (tE TT X.K C E cx ca)) (hb : PE X b (tE TT X.K C E cx cb)) :
    PE X (.Call (.Name "list" p) [.Call (.Name "range" p2) [a, b] [] pos2] [] pos) (tE TT X.K C E cx (.bi .lstRange [ca, cb])) := by
  refine pe_imp (pe_listRg hc hg hm (prg_2 hgr hmr ha hb (star_cons hs) (star_cons hsb) (star_plain (fun e he => by rw [List.mem_singleton.mp he]; exact hsb)).1) rfl) fun σ H Q ⟨β, m, ρ, rep, rf, hp⟩ => ?_
  simp only [evE, evEs, bind_assoc] at hp
  refine ev1 rep rf hp fun δ y m1 v H1 g r f q p => ev1 r f p fun δ2 y2 m2 v2 H2 g2 r2 f2 q2 p2 => ?_
  cases y with
  | loc _ => cases y2 <;> exact p2.elim
  | d y =>
    cases y2 with
    | loc _ => cases y <;> exact p2.elim
    | d y2 =>
      have q' : DP X.K _ H1 y v := q
      have q2' : DP X.K _ H2 y2 v2 := q2
      cases q' with
      | int i =>
        cases q2' with
        | int j =>
          have p3 : Post TT X.K C (RV X.K) (β ++ δ ++ δ2) H2 (if rgOk i j = true then .ok (.d (.list (rangeD i j))) m2 else .no) Q (E σ) := p2
          split at p3
          · rename_i hz
            exact ⟨i, j, rfl, rfl, rg_small hz, fun l hn => p3.newL r2 rg_dps hn⟩
          · exact p3.elim
        | _ => exact p2.elim
      | _ => cases y2 <;> exact p2.elim
/-! ### methods -/
def plainBase (o : Expr) : Bool := match o with
  | .Call .. => false
  | _ => true
theorem base_plain {o : Expr} {f : Str} {env : Env} {w : Sem Value} (h : plainBase o = true) : attributeBase o f env w = w := by
  cases o <;> first | rfl | cases h
def mtName : Mt → Str
  | .append => "append"
  | .pop => "pop"
  | .reverse => "reverse"
  | .get1 => "get"
  | .get2 => "get"
theorem mt_pa : ∀ k : Mt, PlainAttrs (mtTy k)
  | .append => PySem.F.plainAttrs_list
  | .pop => PySem.F.plainAttrs_list
  | .reverse => PySem.F.plainAttrs_list
  | .get1 => PySem.F.plainAttrs_dict
  | .get2 => PySem.F.plainAttrs_dict
theorem mt_slot : ∀ k : Mt, Slot (mtTy k) (mtName k) (mtId k)
  | .append => PySem.F.slot_list_append
  | .pop => PySem.F.slot_list_pop
  | .reverse => PySem.F.slot_list_reverse
  | .get1 => PySem.F.slot_dict_get
  | .get2 => PySem.F.slot_dict_get
theorem mt_type : ∀ k : Mt, typeOf (.builtin (mtId k)) = pure (.type "method_descriptor")
  | .append => PySem.F.type_list_append
  | .pop => PySem.F.type_list_pop
  | .reverse => PySem.F.type_list_reverse
  | .get1 => PySem.F.type_dict_get
  | .get2 => PySem.F.type_dict_get
theorem so_mt (hu : X.A.units + 1 < cLine) (k : Mt) {o : Expr} {co : CE} (ho : PE X o (tE TT X.K C E cx co)) (ha : PA X es (tA TT X.K C E cx cs)) (hl0 : cs.length = es.length) (hb : plainBase o = true) (hns : ∀ e ∈ es, noStar e = true) (h30 : es.length < 30) (hline : (apos.endLine == pos.line) = true) :
    PE X (.Call (.Attribute o (mtName k) apos) es [] pos) (tE TT X.K C E cx (.mt k co cs)) := by
  have key : ∀ σ H Q, tE TT X.K C E cx (.mt k co cs) σ H Q → tBM X.K (mtTy k) (rMt TT X.K C k) (tE TT X.K C E cx co) (tA TT X.K C E cx cs) σ H Q := fun σ H Q ⟨β, m, ρ, rep, rf, hp⟩ => by
    simp only [evE] at hp
    refine ev1 rep rf hp fun δ x m1 v H1 g r f q p => ?_
    split at p
    · rename_i hk
      exact ⟨mtOk_ty r q hk, ev1A r f p fun δ2 xs m2 vs H2 g2 r2 f2 q2 p2 => ⟨_, m2, x, xs, E σ, r2, q.grow g2, q2, p2⟩⟩
    · exact p.elim
  cases es with
  | nil =>
    have e0 : cs = [] := by
      cases cs with
      | nil => rfl
      | cons c cs => exact absurd hl0 (by simp)
    subst e0
    refine pe_imp (pe_bm0 (mt_pa k) (mt_slot k) (mt_type k) (mt_all (TT := TT) (C := C) hu k) ho (base_plain hb) hline) fun σ H Q h => ?_
    obtain ⟨β, m, ρ, rep, rf, hp⟩ := key σ H Q h
    exact ⟨β, m, ρ, rep, rf, hp.mono fun x H1 ⟨ty, β2, m2, ρ2, rep2, rf2, hp2⟩ => ⟨ty, Post.ok0 hp2 rep2 .nil⟩⟩
  | cons e es =>
    have hst := hns e List.mem_cons_self
    have hsp := star_plain (env := X.env) (pos := pos) fun x hx => hns x (List.mem_cons_of_mem e hx)
    refine pe_imp (pe_bm (mt_pa k) (mt_slot k) (mt_type k) (mt_all (TT := TT) (C := C) hu k) ho ha (base_plain hb) ?_ hline (star_cons hst) hsp.1) key
    have hsp2 := (star_plain (env := X.env) (pos := pos) hns).2
    rw [hsp2]
    have : decide ((e :: es).length + ([] : List Keyword).length + (if ([] : List Keyword).isEmpty then 0 else 1) < 30) = true := decide_eq_true (by simpa using h30)
    rw [this]
    rfl
end

/-! ### displays of dicts -/
section
variable {TT : TB} {K : PySem.W.Frag} {C : CA} {E : L2.St → XK} {cx : Cxt}
theorem pairs_ev {ρ : Fr} {σ : L2.St} : ∀ (ks : List Ky) (cs : List CE) {β : BB} {H : Hp} {m m1 : Store} {xs : List Val} {R0 : List (V × V) → Hp → Prop}, RepS TT K β H m → RF K β H ρ σ → evEs cx cs ρ m = .ok xs m1 → ks.length = cs.length →
    (∀ δ vs H1, Grow β H δ H1 → RepS TT K (β ++ δ) H1 m1 → RVs K (β ++ δ) H1 xs vs → R0 ((ks.zip vs).map fun kv => (kV kv.1, kv.2)) H1) →
    tPairs ((ks.map fun k => tC (kV k)).zip (cs.map (tE TT K C E cx))) σ H R0
  | [], [], β, H, m, m1, xs, R0, rep, rf, he, hl, k => by
    simp only [evEs] at he
    cases he
    exact k [] [] H Grow.refl (by rw [BB.app_nil]; exact rep) .nil
  | [], _ :: _, _, _, _, _, _, _, _, _, _, hl, _ => by simp at hl
  | _ :: _, [], _, _, _, _, _, _, _, _, _, hl, _ => by simp at hl
  | j :: ks, c :: cs, β, H, m, m1, xs, R0, rep, rf, he, hl, k => by
    simp only [evEs] at he
    obtain ⟨v, m2, h1, h2⟩ := bind_ok he
    obtain ⟨vs, m3, h3, h4⟩ := bind_ok h2
    cases h4
    show tE TT K C E cx c σ H _
    refine ⟨β, m, ρ, rep, rf, ?_⟩
    rw [h1]
    intro δ H1 y g r q
    refine pairs_ev ks cs r (rf.grow g) h3 (by simpa using hl) fun δ2 vs2 H2 g2 r2 q2 => ?_
    refine k (δ ++ δ2) (y :: vs2) H2 (g.trans g2 r) (by rw [← BB.app_assoc]; exact r2) ?_
    rw [← BB.app_assoc]
    exact .cons (q.grow g2) q2
theorem RV.old {β : BB} {H : Hp} {m : Store} {x : Val} {v : V} (r : RepS TT K β H m) (h : RV K β H x v) : oldV m.length x = true := by
  cases x with
  | d _ => rfl
  | loc n =>
    obtain ⟨a, e, _⟩ := h
    have := (List.getElem?_eq_some_iff.mp e).1
    exact decide_eq_true (by rw [← r.len]; exact this)
theorem old_put2 {n : Nat} {kvs : List (Ky × Val)} {k : Ky} {x : Val} (h : (kvs.all fun p => oldV n p.2) = true) (hx : oldV n x = true) : ((MN.putK kvs k x).all fun p => oldV n p.2) = true := by
  rw [List.all_eq_true] at h ⊢
  unfold MN.putK
  intro p hp
  split at hp
  · obtain ⟨q, hq, rfl⟩ := List.mem_map.mp hp
    split
    · exact hx
    · exact h q hq
  · rcases List.mem_append.mp hp with hp | hp
    · exact h p hp
    · rw [List.mem_singleton.mp hp]
      exact hx
theorem fold_dic {β : BB} {H : Hp} {m : Store} (r : RepS TT K β H m) : ∀ (ks : List Ky) {xs : List Val} {vs : List V} {acc : List (Ky × Val)} {av : List (Key × V)}, RVs K β H xs vs → RKs K β H acc av → (acc.all fun p => oldV m.length p.2) = true →
    RKs K β H ((ks.zip xs).foldl (fun kvs p => MN.putK kvs p.1 p.2) acc) (mergeK av (ks.zip vs)) ∧ (((ks.zip xs).foldl (fun kvs p => MN.putK kvs p.1 p.2) acc).all fun p => oldV m.length p.2) = true
  | [], _, _, _, _, _, h, o => ⟨h, o⟩
  | k :: ks, _, _, _, _, .nil, h, o => ⟨h, o⟩
  | k :: ks, _, _, _, _, .cons hx hs, h, o => fold_dic r ks hs (h.put k hx) (old_put2 o (hx.old r))
end
section
variable {X : Cx} {TT : TB} {C : CA} {E : L2.St → XK} {cx : Cxt} {pos : Pos}
theorem so_ndic {keys : List (Option Expr)} {es : List Expr} {ks : List Ky} {cs : List CE} (h : PPs X pos keys es ((ks.map fun k => tC (kV k)).zip (cs.map (tE TT X.K C E cx)))) (hall : keys.all (·.isSome) = true) (hl : keys.length = es.length) (h0 : keys ≠ []) (h15 : keys.length ≤ 15) (hk : ks.length = keys.length) (hc : cs.length = es.length) :
    PE X (.Dict keys es pos) (tE TT X.K C E cx (.ndic ks cs)) :=
  pe_imp (pe_disp h hall hl h0 h15) fun σ H Q ⟨β, m, ρ, rep, rf, hp⟩ => by
    simp only [evE] at hp
    cases e : evEs cx cs ρ m with
    | no => rw [e] at hp; exact hp.elim
    | ex _ _ => rw [e] at hp; exact hp.elim
    | ok xs m1 =>
      rw [e] at hp
      intro p hn
      have hnp : p ∉ β := rep.notin hn
      refine pairs_ev ks cs (rep.hid hn (.inr ⟨[], rfl⟩)) (rf.hid hn) e (by omega) fun δ vs H2 g r q => ?_
      have hH : H2 p = some (.dK []) := g.keep p _ upd_same (fun z => hnp (.inl z)) (fun _ z => by cases z)
      have hl1 : xs.length = cs.length := evEs_len e
      have hl2 : xs.length = vs.length := q.length
      simp only [noEx, R.bind] at hp
      rw [if_pos ⟨by omega, by omega⟩] at hp
      refine ⟨hH, ks.zip vs, rfl, ?_, ?_⟩
      · rw [List.length_zip]
        omega
      · have hpd : p ∉ δ := fun z => by
          have := g.new p z
          rw [upd_same] at this
          cases this
        have hnp2 : p ∉ β ++ δ := fun z => by
          rcases BB.mem_app.mp z with z | z
          · exact hnp z
          · exact hpd z
        have r' : RepS TT X.K ((β ++ δ).hide p) H2 m1 := r
        have q' : RVs X.K ((β ++ δ).hide p) H2 xs vs := q
        obtain ⟨k1, k2⟩ := fold_dic r' ks q' (acc := []) (av := []) .nil rfl
        have hm : p ∈ (β ++ δ).hide p := BB.mem_hide.mpr (.inl rfl)
        have r2 : RepS TT X.K ((β ++ δ).hide p) (upd H2 p (.dK (mergeK [] (ks.zip vs)))) m1 := r'.outw List.mem_cons_self (fun z => hnp2 (.inl z)) hH (.inr ⟨_, rfl⟩) (.inr ⟨_, rfl⟩)
        have g2 : Grow β H (δ ++ [p]) (upd H2 p (.dK (mergeK [] (ks.zip vs)))) := by
          have g3 : Grow β H ([] ++ δ) H2 := (Grow.fresh (β := β) (o := .dK []) hn).trans (by rw [BB.app_nil]; exact g.un) (by rw [BB.app_nil]; exact rep.fresh hn)
          rw [List.nil_append] at g3
          have g4 := g3.touch (o := .dK (mergeK [] (ks.zip vs))) hn
          refine ⟨fun a ha => ?_, g4.tup, g4.frz, g4.keep, g4.tbl⟩
          rcases List.mem_append.mp ha with z | z
          · exact g4.new a z
          · rw [List.mem_singleton.mp z]
            exact hn
        refine hp (δ ++ [p]) _ (.ref p) g2 (by rw [← BB.app_assoc]; exact r2.adopt hnp2 upd_same (show RKs X.K _ _ _ _ from k1.outw hm hH (.inr ⟨_, rfl⟩)) k2) ⟨p, ?_, rfl⟩
        have hl : (β.pos ++ δ).length = m1.length := r.len
        show (β.pos ++ (δ ++ [p]))[m1.length]? = some p
        rw [← List.append_assoc, ← hl]
        simp
theorem so_ndic0 : PE X (.Dict [] [] pos) (tE TT X.K C E cx (.ndic [] [])) :=
  pe_imp pe_dnewK fun σ H Q ⟨β, m, ρ, rep, rf, hp⟩ => by
    have hp : Post TT X.K C (RV X.K) β H (.ok (.loc m.length) (m ++ [.dic []])) Q (E σ) := by simpa [evE, evEs, noEx, R.bind] using hp
    exact fun p hn => hp.newM (o := .dK []) rep (show RKs X.K _ _ _ _ from .nil) rfl hn
/-! ### a table of the module -/
section
variable {x : Str} {p : Pos} {d : Addr} {tbl : List (Ky × PyData)} {a : Expr} {ca : CE}
theorem so_gidx (hg : Gl X x) (hm : X.mg x = some (.ref d)) (hd : (x == ("__debug__" : Str)) = false) (Tb : TblAt X.K X.w d tbl) (ha : PE X a (tE TT X.K C E cx ca)) (hs : PlainIx a) : PE X (.Subscript (.Name x p) a pos) (tE TT X.K C E cx (.gidx tbl ca)) :=
  pe_imp (pe_ix ix_kdict (pe_glob (v := .ref d) hg hm rfl hd) ha hs) fun σ H Q ⟨β, m, ρ, rep, rf, hp⟩ => by
    simp only [evE] at hp
    refine ev1 rep rf hp fun δ y m1 v H1 g r f q p => ?_
    cases y with
    | loc _ => exact p.elim
    | d y =>
      have q' : DP X.K _ H1 y v := q
      cases q' with
      | str z hz =>
        obtain ⟨es, n, D⟩ := Tb.ex
        obtain ⟨u, e, hu⟩ := Tb.at_ z
        unfold gidx at p
        dsimp only at p
        cases el : lookK tbl (.inr z) with
        | none => rw [el] at p; exact p.elim
        | some t =>
          rw [el] at p hu
          obtain ⟨u0, v0, rfl, rv, dp⟩ := hu
          exact ⟨d, z, v0, rfl, rfl, ⟨es, n, u0, D.at_, D.lit, e, rv⟩, Post.val (x := .d t) p r (dp _ _)⟩
      | _ => exact p.elim
theorem gin_end {neg : Bool} {β : BB} {H : Hp} {m : Store} {y : Val} {v : V} {Q : VK} {QE : XK} (Tb : TblAt X.K X.w d tbl) (r : RepS TT X.K β H m) (q : RV X.K β H y v) (p : Post TT X.K C (RV X.K) β H (gin neg tbl y m) Q QE) :
    ∃ (z : Str) (r : Option Value), v = .str z ∧ PySem.W.nsIn X.K d z = some r ∧ Q (.bl (if neg then !r.isSome else r.isSome)) H := by
  cases y with
  | loc _ => exact p.elim
  | d y =>
    have q' : DP X.K _ H y v := q
    cases q' with
    | str z hz =>
      obtain ⟨u, e, hu⟩ := Tb.at_ z
      unfold gin at p
      dsimp only at p
      refine ⟨z, u, rfl, e, ?_⟩
      cases el : lookK tbl (.inr z) with
      | none =>
        rw [el] at p hu
        have hu : u = none := hu
        subst hu
        exact Post.val p r (.bl _)
      | some t =>
        rw [el] at p hu
        obtain ⟨u0, v0, rfl, rv, dp⟩ := hu
        exact Post.val p r (.bl _)
    | _ => exact p.elim
theorem so_gin (neg : Bool) (hg : Gl X x) (hm : X.mg x = some (.ref d)) (hd : (x == ("__debug__" : Str)) = false) (Tb : TblAt X.K X.w d tbl) (ha : PE X a (tE TT X.K C E cx ca)) : PE X (.Compare a [if neg then .NotIn else .In] [.Name x p] pos) (tE TT X.K C E cx (.gin neg tbl ca)) := by
  obtain ⟨es, n, D⟩ := Tb.ex
  cases neg with
  | false =>
    refine pe_imp (pe_cmpR (op_in_kd D) ha (pe_glob (v := .ref d) hg hm rfl hd) rfl) fun σ H Q ⟨β, m, ρ, rep, rf, hp⟩ => ?_
    simp only [evE] at hp
    refine ev1 rep rf hp fun δ y m1 v H1 g r f q p => ?_
    obtain ⟨z, u, rfl, e, qq⟩ := gin_end Tb r q p
    exact ⟨z, u, rfl, rfl, e, qq⟩
  | true =>
    refine pe_imp (pe_cmpR (op_notIn_kd D) ha (pe_glob (v := .ref d) hg hm rfl hd) rfl) fun σ H Q ⟨β, m, ρ, rep, rf, hp⟩ => ?_
    simp only [evE] at hp
    refine ev1 rep rf hp fun δ y m1 v H1 g r f q p => ?_
    obtain ⟨z, u, rfl, e, qq⟩ := gin_end Tb r q p
    exact ⟨z, u, rfl, rfl, e, qq⟩
theorem st_gin (neg : Bool) (hg : Gl X x) (hm : X.mg x = some (.ref d)) (hd : (x == ("__debug__" : Str)) = false) (Tb : TblAt X.K X.w d tbl) (ha : PE X a (tE TT X.K C E cx ca)) : PT X (.Compare a [if neg then .NotIn else .In] [.Name x p] pos) (tT TT X.K C E cx (.gin neg tbl ca)) := by
  obtain ⟨es, n, D⟩ := Tb.ex
  cases neg with
  | false =>
    refine pt_imp (pt_cmpR (op_in_kd D) ha (pe_glob (v := .ref d) hg hm rfl hd) rfl) fun σ H Q ⟨β, m, ρ, rep, rf, hp⟩ => ?_
    simp only [evT, bind_assoc] at hp
    refine ev1 rep rf hp fun δ y m1 v H1 g r f q p => ?_
    obtain ⟨z, u, rfl, e, qq⟩ := gin_end Tb r q ((Post.bind p).mono fun t H2 ⟨δ2, c, m2, g2, r2, q2, p2⟩ => bl_end p2 r2 q2)
    exact ⟨z, u, rfl, rfl, e, qq⟩
  | true =>
    refine pt_imp (pt_cmpR (op_notIn_kd D) ha (pe_glob (v := .ref d) hg hm rfl hd) rfl) fun σ H Q ⟨β, m, ρ, rep, rf, hp⟩ => ?_
    simp only [evT, bind_assoc] at hp
    refine ev1 rep rf hp fun δ y m1 v H1 g r f q p => ?_
    obtain ⟨z, u, rfl, e, qq⟩ := gin_end Tb r q ((Post.bind p).mono fun t H2 ⟨δ2, c, m2, g2, r2, q2, p2⟩ => bl_end p2 r2 q2)
    exact ⟨z, u, rfl, rfl, e, qq⟩
end
end
end MN

set_option maxRecDepth 100000
set_option maxHeartbeats 4000000
/-! MnSet: sorted(set(xs)), len(set(xs)) of a list of ints; list(enumerate(xs)). -/
namespace MN
open PySem PySem.Spec PyProof.Rows L2
/-! ### the plain side -/
theorem insI_mem {k j : Int} : ∀ {l : List Int}, j ∈ insI k l ↔ j = k ∨ j ∈ l
  | [] => by simp [insI]
  | i :: r => by
    unfold insI
    split
    · simp
    · split
      · rename_i h
        subst h
        simp
      · rw [List.mem_cons, insI_mem, List.mem_cons]
        constructor
        · rintro (h | h | h)
          · exact .inr (.inl h)
          · exact .inl h
          · exact .inr (.inr h)
        · rintro (h | h | h)
          · exact .inr (.inl h)
          · exact .inl h
          · exact .inr (.inr h)
theorem insI_inc {k : Int} : ∀ {l : List Int}, l.Pairwise (· < ·) → (insI k l).Pairwise (· < ·)
  | [], _ => by simp [insI]
  | i :: r, h => by
    obtain ⟨h1, h2⟩ := List.pairwise_cons.mp h
    unfold insI
    split
    · rename_i hk
      refine List.pairwise_cons.mpr ⟨fun y hy => ?_, h⟩
      rcases List.mem_cons.mp hy with e | hy
      · omega
      · have := h1 y hy
        omega
    · split
      · exact h
      · refine List.pairwise_cons.mpr ⟨fun y hy => ?_, insI_inc h2⟩
        rcases insI_mem.mp hy with e | hy
        · omega
        · exact h1 y hy
theorem ssetI_mem {j : Int} : ∀ {l : List Int}, j ∈ ssetI l ↔ j ∈ l
  | [] => by simp [ssetI]
  | i :: r => by
    show j ∈ insI i (ssetI r) ↔ _
    rw [insI_mem, ssetI_mem, List.mem_cons]
theorem ssetI_inc : ∀ (l : List Int), (ssetI l).Pairwise (· < ·)
  | [] => .nil
  | _ :: r => insI_inc (ssetI_inc r)
theorem inc_ext : ∀ {l m : List Int}, l.Pairwise (· < ·) → m.Pairwise (· < ·) → (∀ k, k ∈ l ↔ k ∈ m) → l = m
  | [], [], _, _, _ => rfl
  | [], b :: m, _, _, h => absurd ((h b).mpr List.mem_cons_self) (by simp)
  | a :: l, [], _, _, h => absurd ((h a).mp List.mem_cons_self) (by simp)
  | a :: l, b :: m, h1, h2, h => by
    obtain ⟨a1, a2⟩ := List.pairwise_cons.mp h1
    obtain ⟨b1, b2⟩ := List.pairwise_cons.mp h2
    have e : a = b := by
      rcases List.mem_cons.mp ((h a).mp List.mem_cons_self) with e | e
      · exact e
      · rcases List.mem_cons.mp ((h b).mpr List.mem_cons_self) with e2 | e2
        · exact e2.symm
        · have := b1 a e
          have := a1 b e2
          omega
    subst e
    rw [inc_ext a2 b2 fun k => ?_]
    constructor
    · intro hk
      rcases List.mem_cons.mp ((h k).mp (List.mem_cons_of_mem _ hk)) with e | e
      · have := a1 k hk
        omega
      · exact e
    · intro hk
      rcases List.mem_cons.mp ((h k).mpr (List.mem_cons_of_mem _ hk)) with e | e
      · have := b1 k hk
        omega
      · exact e
theorem sub_len {α : Type} [BEq α] [LawfulBEq α] : ∀ (l d : List α), l.Nodup → (∀ x ∈ l, x ∈ d) → l.length ≤ d.length
  | [], _, _, _ => Nat.zero_le _
  | x :: l, d, hn, hs => by
    obtain ⟨h1, h2⟩ := List.nodup_cons.mp hn
    have hx : x ∈ d := hs x List.mem_cons_self
    have ih := sub_len l (d.erase x) h2 fun y hy => (List.mem_erase_of_ne fun (e : y = x) => h1 (e ▸ hy)).2 (hs y (List.mem_cons_of_mem _ hy))
    have := List.length_erase_of_mem hx
    have := List.length_pos_of_mem hx
    rw [List.length_cons]
    omega
theorem inc_nodup {l : List Int} (h : l.Pairwise (· < ·)) : l.Nodup := h.imp fun {a b} (q : a < b) => Int.ne_of_lt q
theorem setR_len {w : World} {h : Heap} {a : Addr} {ns : List Int} {n : Nat} (R : SetR w h a (fun j => decide (j ∈ ns)) n) : n = (ssetI ns).length := by
  obtain ⟨o, es, ep, t, ho, hex, hd, g, nd, hm, hb, hf, hn, hr, hl⟩ := R
  have e1 : (es.toList.map L2.keyOf).length = n := by rw [List.length_map, Array.length_toList]; exact hn
  have m : ∀ k, k ∈ es.toList.map L2.keyOf ↔ k ∈ ssetI ns := fun k => by
    rw [ssetI_mem]
    have q := hm k
    simp only [decide_eq_true_eq] at q
    exact q.symm
  have h1 := sub_len _ _ nd fun x hx => (m x).mp hx
  have h2 := sub_len _ _ (inc_nodup (ssetI_inc ns)) fun x hx => (m x).mpr hx
  omega
end MN
namespace MN
open PySem PySem.Spec PyProof.Rows L2
/-! ### set(xs) of a list of ints -/
abbrev noneYet (w : World) : Obj := { cls := .type "set", dict := none, data := .set #[] 0 (.fresh 0 0 (!w.params.followText "set-order")) }
section
variable {P : Program} {w : World} {A : Around} {E : Value → Shared → Prop} {s : Shared}
/-- the call of set with one thing, from what its __init__ does -/
theorem set_one {x : Value} {Q : Value → Shared → Prop} (R : Shared → Prop)
    (ini : codeAny (model P w) A.in1 (.call (.builtin "set.__init__") ⟨[.ref s.heap.objs.size, x], []⟩) (wants (fun r s2 => r = .none ∧ R s2) E) { s with heap := s.heap.push (noneYet w) })
    (h : ∀ s2, R s2 → Q (.ref s.heap.objs.size) s2) : wpAny (model P w) A (call (.type "set") [x]) Q E s := by
  have k := F.called_set
  obtain ⟨c, tl, hmro⟩ := k.mro
  have k1 := k.made
  have k2 := k.sub
  refine wpAny_call (codeAny_of_tree (?_ : wpAny _ _ (callAny (.type "set") _) _ _ _))
  refine wpAny_pure ⟨Code.quiet_builtin _ (by decide +kernel), codeAny_builtin F.entry_type_call ?_⟩
  rw [Around.under_plain (weight_type_call_type "set" [x] []) rfl]
  have k3 := k.notType
  have k4 := k.canCreate
  have k5 := F.typeCall_set_1 x
  repeat any_goals first | assumption | wp_step
  refine codeAny_mono (code_set_led1 x (E := E) (Q₁ := fun obj s₁ => obj = .ref s.heap.objs.size ∧ s₁ = { s with heap := s.heap.push (noneYet w) }) ⟨rfl, rfl⟩) fun r s₁ hr => ?_
  cases r with
  | error e => exact hr
  | ok fl =>
    cases fl with
    | ret obj =>
      obtain ⟨rfl, rfl⟩ := hr
      have hT : Shared.TypeIs { s with heap := s.heap.push (noneYet w) } (.ref s.heap.objs.size) "set" := ⟨_, Heap.get?_push_size _ rfl, rfl⟩
      have k6 := k.init.lookup
      have k7 := k.init.bind (.ref s.heap.objs.size)
      repeat any_goals first | assumption | wp_step
      refine codeAny_mono ini fun r₂ s₂ hr₂ => ?_
      cases r₂ with
      | error e => exact hr₂
      | ok fl₂ =>
        cases fl₂ with
        | ret r =>
          obtain ⟨rfl, q⟩ := hr₂
          repeat any_goals first | assumption | wp_step
          exact h _ q
        | _ => exact hr₂.elim
    | _ => exact hr.elim
end
end MN
namespace MN
open PySem PySem.Spec PyProof.Rows L2
section
variable {P : Program} {w : World} {A : Around} {E : Value → Shared → Prop} {s : Shared}
theorem ini_list {l : Addr} {items : Array Value} (ns : List Int) (hh : A.handled = none) (hl : s.heap.IsList l items) (hit : IntsAre items.toList ns) (hb : ns.length + 1 < scanBound) :
    codeAny (model P w) A (.call (.builtin "set.__init__") ⟨[.ref s.heap.objs.size, .ref l], []⟩) (wants (fun r s2 => r = .none ∧ ∃ h' tk c, s2 = { s with heap := h', toks := tk } ∧ SetR w h' s.heap.objs.size (fun j => decide (j ∈ ns)) c ∧ ∀ b o, s.heap.get? b = some o → h'.get? b = some o) E)
      { s with heap := s.heap.push (noneYet w) } := by
  have hisz : items.size = ns.length := (Array.length_toList (xs := items)).symm.trans (IntsAre.length hit)
  have hS : (s.heap.push (noneYet w)).get? s.heap.objs.size = some (noneYet w) := Heap.get?_push_size _ rfl
  have hT : Shared.TypeIs { s with heap := s.heap.push (noneYet w) } (.ref s.heap.objs.size) "set" := ⟨_, hS, rfl⟩
  have ll : l < s.heap.objs.size := let ⟨_, x, _⟩ := hl; Heap.lt_size x
  refine codeAny_call_builtin F.called_set.init.plain F.entry_set_init (check_set_init_1 hT ?_)
  obtain ⟨⟨c0, d0, t0, sl0⟩, hol, hcl, nl, hdl⟩ := id hl
  dsimp only at hcl hdl
  subst hcl
  subst hdl
  have hol' : (s.heap.push (noneYet w)).get? l = some { cls := .type "list", dict := d0, data := .seq items nl, slots := sl0 } := Heap.get?_push_of_some _ hol
  have f1 := F.sub_list_set
  have f2 := F.sub_list_frozenset
  have f3 : (Value.type "list" == Value.type "dict") = false := by decide
  have hl1 : (s.heap.push (noneYet w)).IsList l items := hl.push _
  unfold Builtin.«set.__init__» noKeywords
  unfold Builtin.Frozenset.updateFrom
  generalize hy : pyIter = Y
  wp_walk
  subst hy
  refine wpAny_pyIter_list hl1 (wpAny_bind (wpAny_runValue ?_))
  have z1 : (s.heap.push (noneYet w)).objs.size = s.heap.objs.size + 1 := Heap.size_push ..
  have nI : l ≠ (s.heap.push (noneYet w)).objs.size := by
    rw [z1]
    exact Nat.ne_of_lt (Nat.lt_succ_of_lt ll)
  have nS : s.heap.objs.size ∉ [(s.heap.push (noneYet w)).objs.size, l] := by
    rw [z1]
    simp only [List.mem_cons, List.not_mem_nil, or_false, not_or]
    exact ⟨Nat.ne_of_lt (Nat.lt_succ_self _), Nat.ne_of_gt ll⟩
  have hval : ∀ (i : Nat) (v : Value), items[i]? = some v → ∃ k t, ns[i]? = some k ∧ v = .int k t := fun i v hv => by
    have hi : i < ns.length := hisz ▸ (Array.getElem?_eq_some_iff.mp hv).1
    obtain ⟨t, e⟩ := PyProof.Rows.IntsAre.int_at hit i v (by rw [Array.getElem?_toList]; exact hv)
    have e2 : ns[i]? = some ns[i] := List.getElem?_eq_getElem hi
    rw [List.getD_eq_getElem?_getD, e2] at e
    exact ⟨_, t, e2, e⟩
  have start : ((s.heap.push (noneYet w)).push { cls := .type "list_iterator", data := .fields #[.ref l, .int 0 0] }).get? s.heap.objs.size = some (noneYet w) := Heap.get?_push_of_some _ hS
  refine set_update_ints ((Walks.list (A := A.in1.in1) hh (s.heap.push (noneYet w)).objs.size l nI items).toS) s.heap.objs.size nS ns hisz hb hval items.size 0 _ (Nat.sub_zero _) (Nat.zero_le _)
    ⟨⟨_, Heap.get?_push_size _ rfl, rfl, rfl⟩, hl1.push _⟩ ⟨0, Nat.le_refl 0, setR_new_at start⟩ fun s' c' hm hc' hS' => ?_
  obtain ⟨h', g2, d', tk', os'⟩ := s'
  have eg : g2 = s.gens := hm.gens
  have ed : d' = s.drawn := hm.drawn
  have eo : os' = s.os := hm.os
  subst eg ed eo
  show wpAny _ _ _ _ _ _
  refine wpAny_pure ?_
  change wpAny _ _ (PySem.ret Value.none) _ _ _
  refine wpAny_pure ⟨rfl, h', tk', c', rfl, hS', fun b o e => ?_⟩
  have hb0 : b < s.heap.objs.size := Heap.lt_size e
  refine hm.heap b o ?_ (Heap.get?_push_of_some _ (Heap.get?_push_of_some _ e))
  rw [z1]
  simp only [List.mem_cons, List.not_mem_nil, or_false, not_or]
  exact ⟨Nat.ne_of_lt hb0, Nat.ne_of_lt (Nat.lt_succ_of_lt hb0)⟩
theorem set_of_list {l : Addr} {items : Array Value} (ns : List Int) {Q : Value → Shared → Prop} (hh : A.handled = none) (hl : s.heap.IsList l items) (hit : IntsAre items.toList ns) (hb : ns.length + 1 < scanBound)
    (h : ∀ (h' : Heap) (tk c : Nat), SetR w h' s.heap.objs.size (fun j => decide (j ∈ ns)) c → (∀ b o, s.heap.get? b = some o → h'.get? b = some o) → Q (.ref s.heap.objs.size) { s with heap := h', toks := tk }) :
    wpAny (model P w) A (call (.type "set") [.ref l]) Q E s :=
  set_one _ (ini_list ns (A := A.in1) hh hl hit hb) fun s2 ⟨h', tk, c, e, R, k⟩ => by
    subst e
    exact h h' tk c R k
end
end MN

set_option maxRecDepth 100000
set_option maxHeartbeats 4000000
/-! MnSet2: the expressions sorted(set(a)), len(set(a)), list(enumerate(a)). -/
namespace MN
open PySem PySem.Spec PyProof.Rows L2
def tSset (K : PySem.W.Frag) (ta : TE) : TE := fun σ H Q => ta σ H fun x H1 => ∃ (l : Addr) (ns : List Int), x = .ref l ∧ SqL K H1 l (ns.map V.int) ∧ ns.length ≤ 4000 ∧ (ssetI ns).length < 64 ∧ ∀ p, H1 p = none → Q (.ref p) (upd H1 p (.lst ((ssetI ns).map V.int)))
def tSetLen (K : PySem.W.Frag) (ta : TE) : TE := fun σ H Q => ta σ H fun x H1 => ∃ (l : Addr) (ns : List Int), x = .ref l ∧ SqL K H1 l (ns.map V.int) ∧ ns.length ≤ 4000 ∧ Q (.int ((ssetI ns).length : Nat)) H1
theorem scan4 {n : Nat} (h : n ≤ 4000) : n + 1 < scanBound := by
  unfold scanBound
  omega
theorem vals_ints : ∀ {ns : List Int} {us : List Value}, IntsAre us ns → Vals (ns.map V.int) us
  | _, _, .nil => .nil
  | _, _, .cons n t h => .cons ⟨t, rfl⟩ (vals_ints h)
section
variable {X : Cx} {a : Expr} {ta : TE} {p p2 q pos : Pos}
theorem pe_setLen (hc : X.calm = true) (hg : Gl X "len") (hm : X.mg "len" = none) (hg2 : Gl X "set") (hm2 : X.mg "set" = none) (ha : PE X a ta) (na : starEach [a] X.env = (false, eval a X.env) :: starEach [] X.env) :
    PE X (.Call (.Name "len" p) [.Call (.Name "set" p2) [a] [] q] [] pos) (tSetLen X.K ta) := by
  refine ⟨fun pins s σ H Q I h => ?_⟩
  refine Call_ (ld_blt I hg hm PySem.boot_len (PyProof.Rows.callWith_builtin1 (PyProof.Rows.args_cons ?_ rfl) rfl rfl))
  refine Call_ (ld_blt I hg2 hm2 PyProof.Rows.boot_set (PyProof.Rows.callWith_type1 (PyProof.Rows.args_cons (thn (ha.run pins s σ H _ I h) fun v s1 ⟨x, H1, I1, r1, q1⟩ => PyProof.Rows.args_nil ?_) na) na rfl))
  obtain ⟨l, ns, rfl, hq, hl, q1⟩ := q1
  cases r1
  obtain ⟨its, r, pl, hz⟩ := I1.list hq
  refine set_of_list ns (I1.ok.hd hc) pl.isList (by simpa using r.ints) (scan4 hl) fun h' tk c R k => PyProof.Rows.args_nil ?_
  have hlen := setR_len R
  obtain ⟨o, es, ep, t, ho, hex, hd, _, _, _, hb, hf, hn, _⟩ := R
  have I2 : Inv X pins σ H1 { s1 with heap := h', toks := tk } := I1.kept k
  refine call_len_set ho hex hd hf (by unfold scanBound at hb; omega) ⟨.int ((ssetI ns).length : Nat), H1, I2.tok _, ⟨_, by rw [hn, hlen]⟩, q1⟩
theorem pe_sset (hc : X.calm = true) (hg : Gl X "sorted") (hm : X.mg "sorted" = none) (hg2 : Gl X "set") (hm2 : X.mg "set" = none) (ha : PE X a ta) (na : starEach [a] X.env = (false, eval a X.env) :: starEach [] X.env) :
    PE X (.Call (.Name "sorted" p) [.Call (.Name "set" p2) [a] [] q] [] pos) (tSset X.K ta) := by
  refine ⟨fun pins s σ H Q I h => ?_⟩
  refine Call_ (ld_blt I hg hm (show bootBuiltins "sorted" = some (.builtin "sorted") by decide +kernel) (PyProof.Rows.callWith_builtin1 (PyProof.Rows.args_cons ?_ rfl) rfl rfl))
  refine Call_ (ld_blt I hg2 hm2 PyProof.Rows.boot_set (PyProof.Rows.callWith_type1 (PyProof.Rows.args_cons (thn (ha.run pins s σ H _ I h) fun v s1 ⟨x, H1, I1, r1, q1⟩ => PyProof.Rows.args_nil ?_) na) na rfl))
  obtain ⟨l, ns, rfl, hq, hl, h64, q1⟩ := q1
  cases r1
  obtain ⟨its, r, pl, hz⟩ := I1.list hq
  refine set_of_list ns (I1.ok.hd hc) pl.isList (by simpa using r.ints) (scan4 hl) fun h' tk c R k => PyProof.Rows.args_nil ?_
  have hlen := setR_len R
  have I2 : Inv X pins σ H1 { s1 with heap := h', toks := tk } := I1.kept k
  refine sorted_set R (I2.ok.hd hc) (by omega) fun s' p out c2 ms k2 g o hp hg hi hs hmem hlm => ?_
  have em : ms = ssetI ns := inc_ext hs (ssetI_inc ns) fun j => by
    rw [hmem, ssetI_mem]
    exact decide_eq_true_iff
  subst em
  have hn : H1 p = none := I2.hok.fresh hp
  have new : ObjOk X.prog X.w (upd H1 p (.lst ((ssetI ns).map V.int))) s'.heap p (.lst ((ssetI ns).map V.int)) := ⟨by rw [List.length_map, sizeLine_eq]; omega, out.toList, c2, vals_ints hi, hg⟩
  have J : Inv X pins σ (upd H1 p (.lst ((ssetI ns).map V.int))) { ({ s1 with heap := h', toks := tk } : Shared) with heap := s'.heap, gens := s'.gens, drawn := s'.drawn, toks := s'.toks } :=
    I2.call (ch := []) (Un.laid k2 hp hn) (I2.hok.laid k2 hp new) (by rw [g]; exact I2.bare) (fun _ z => nomatch z)
  obtain ⟨h3, g3, d3, t3, o3⟩ := s'
  dsimp only at o
  subst o
  exact ⟨.ref p, _, J, rfl, q1 p hn⟩
end
/-! ### the evaluator's words -/
section
variable {X : Cx} {TT : TB} {C : CA} {E : L2.St → XK} {cx : Cxt} {a : Expr} {ca : CE} {p p2 q pos : Pos}
theorem num_rep {K : PySem.W.Frag} {β : BB} {H : Hp} {m : Store} {ds : List PyData} {ys : List V} (rep : RepS TT K β H m) (hs : DPs K β H ds ys) {i : Nat} {zs : List V} {H2 : Hp} (h : NumI H ys i zs H2) :
    Grow β H [] H2 ∧ RepS TT K β H2 m ∧ DPs K β H2 ds ys ∧ DPs K β H2 ((enumFrom 0 ds).take i) zs := by
  induction h with
  | zero => exact ⟨Grow.refl, rep, hs, .nil⟩
  | @succ i zs H3 T y h hT hy ih =>
    obtain ⟨g, r, d1, d2⟩ := ih
    have g2 : Grow (β ++ ([] : List Addr)) H3 [] (upd H3 T (.tup [.int (i : Nat), y])) := Grow.fresh hT
    refine ⟨Grow.trans (δ := []) (δ' := []) g g2 (by rw [BB.app_nil]; exact r), r.fresh hT, d1.fresh hT, ?_⟩
    have hi : i < ds.length := by rw [d1.length]; exact (List.getElem?_eq_some_iff.mp hy).1
    obtain ⟨v, e1, e2⟩ := d1.get (List.getElem?_eq_getElem hi)
    rw [hy] at e1
    cases e1
    have e3 : (enumFrom 0 ds)[i]? = some (.tuple [.int (i : Nat), ds[i]]) := by
      rw [enumFrom_get, List.getElem?_eq_getElem hi, Nat.zero_add]
      rfl
    rw [List.take_add_one, e3]
    refine (d2.fresh hT).append (.cons (.tup (.inl (.inl upd_same)) (.cons (.int _) (.cons ?_ .nil))) .nil)
    have := e2.grow (Grow.fresh (o := .tup [.int (i : Nat), y]) hT)
    rwa [BB.app_nil] at this
theorem so_lstEnum (hc : X.calm = true) (hg : Gl X "list") (hm : X.mg "list" = none) (hg2 : Gl X "enumerate") (hm2 : X.mg "enumerate" = none) (ha : PE X a (tE TT X.K C E cx ca)) (hs : noStar a = true) :
    PE X (.Call (.Name "list" p) [.Call (.Name "enumerate" p2) [a] [] q] [] pos) (tE TT X.K C E cx (.bi .lstEnum [ca])) :=
  pe_imp (pe_lstNum hc hg hm hg2 hm2 ha (star_cons hs)) fun σ H Q ⟨β, m, ρ, rep, rf, hp⟩ => by
    simp only [evE, evEs, bind_assoc] at hp
    refine ev1 rep rf hp fun δ x m1 v H1 g r f qv pp => ?_
    have pp : Post TT X.K C (RV X.K) (β ++ δ) H1 (match x.py? m1 with
      | some (.list xs) => .ok (.d (.list (enumFrom 0 xs))) m1
      | _ => .no) Q (E σ) := by
      cases x with
      | d x => cases x <;> exact pp
      | loc _ => exact pp
    split at pp
    · rename_i ds e
      have px := py_pv r qv e
      cases px with
      | @lst l ys ds2 h1 h2 =>
        refine ⟨_, ys, rfl, .inl h1, fun zs H2 S hn hS => ?_⟩
        obtain ⟨g2, r2, _, d2⟩ := num_rep r h2 hn
        have el : (enumFrom 0 ds).take ys.length = enumFrom 0 ds := List.take_of_length_le (by rw [enumFrom_len, h2.length]; exact Nat.le_refl _)
        rw [el] at d2
        have r2' : RepS TT X.K (β ++ δ ++ ([] : List Addr)) H2 m1 := by rw [BB.app_nil]; exact r2
        have g3 : Grow (β ++ δ) H1 [] (upd H2 S (.lst zs)) := Grow.trans (δ := []) (δ' := []) g2 (Grow.fresh hS) r2'
        refine pp [] _ _ g3 (by rw [BB.app_nil]; exact r2.fresh hS) ?_
        rw [BB.app_nil]
        exact .lst (r2.notin hS) (.inl upd_same) (d2.fresh hS)
    · exact pp.elim
theorem dps_ints {K : PySem.W.Frag} {β : BB} {H : Hp} : ∀ (ns : List Int), DPs K β H (ns.map PyData.int) (ns.map V.int)
  | [] => .nil
  | n :: ns => .cons (.int n) (dps_ints ns)
theorem so_sset (hc : X.calm = true) (hg : Gl X "sorted") (hm : X.mg "sorted" = none) (hg2 : Gl X "set") (hm2 : X.mg "set" = none) (ha : PE X a (tE TT X.K C E cx ca)) (hs : noStar a = true) :
    PE X (.Call (.Name "sorted" p) [.Call (.Name "set" p2) [a] [] q] [] pos) (tE TT X.K C E cx (.bi .sset [ca])) :=
  pe_imp (pe_sset hc hg hm hg2 hm2 ha (star_cons hs)) fun σ H Q ⟨β, m, ρ, rep, rf, hp⟩ => by
    simp only [evE, evEs, bind_assoc] at hp
    refine ev1 rep rf hp fun δ x m1 v H1 g r f qv pp => ?_
    have pp : Post TT X.K C (RV X.K) (β ++ δ) H1 (match x.py? m1 with
      | some (.list xs) => (match ints? xs with
        | some is => if is.length ≤ 4000 ∧ (ssetI is).length < 64 then .ok (.d (.list ((ssetI is).map .int))) m1 else .no
        | none => .no)
      | _ => .no) Q (E σ) := by
      cases x with
      | d x => cases x <;> exact pp
      | loc _ => exact pp
    split at pp
    · rename_i ds e
      split at pp
      · rename_i ns e2
        split at pp
        · rename_i hz
          obtain ⟨l, rfl, h1⟩ := lst_ints r qv e e2
          exact ⟨l, ns, rfl, h1, hz.1, hz.2, fun p hn => pp.newL r (dps_ints _) hn⟩
        · exact pp.elim
      · exact pp.elim
    · exact pp.elim
theorem so_setLen (hc : X.calm = true) (hg : Gl X "len") (hm : X.mg "len" = none) (hg2 : Gl X "set") (hm2 : X.mg "set" = none) (ha : PE X a (tE TT X.K C E cx ca)) (hs : noStar a = true) :
    PE X (.Call (.Name "len" p) [.Call (.Name "set" p2) [a] [] q] [] pos) (tE TT X.K C E cx (.bi .setLen [ca])) :=
  pe_imp (pe_setLen hc hg hm hg2 hm2 ha (star_cons hs)) fun σ H Q ⟨β, m, ρ, rep, rf, hp⟩ => by
    simp only [evE, evEs, bind_assoc] at hp
    refine ev1 rep rf hp fun δ x m1 v H1 g r f qv pp => ?_
    have pp : Post TT X.K C (RV X.K) (β ++ δ) H1 (match x.py? m1 with
      | some (.list xs) => (match ints? xs with
        | some is => if is.length ≤ 4000 then .ok (.d (.int (ssetI is).length)) m1 else .no
        | none => .no)
      | _ => .no) Q (E σ) := by
      cases x with
      | d x => cases x <;> exact pp
      | loc _ => exact pp
    split at pp
    · rename_i ds e
      split at pp
      · rename_i ns e2
        split at pp
        · rename_i hz
          obtain ⟨l, rfl, h1⟩ := lst_ints r qv e e2
          exact ⟨l, ns, rfl, h1, hz, pp.val r (.int _)⟩
        · exact pp.elim
      · exact pp.elim
    · exact pp.elim
/-- a + b of lists, the sum being one that may change -/
theorem so_nadd {b : Expr} {cb : CE} (ha : PE X a (tE TT X.K C E cx ca)) (hb : PE X b (tE TT X.K C E cx cb)) : PE X (.BinOp a .Add b pos) (tE TT X.K C E cx (.nadd ca cb)) :=
  pe_imp (pe_op op_catL ha hb) fun σ H Q ⟨β, m, ρ, rep, rf, hp⟩ => by
    simp only [evE] at hp
    refine ev1 rep rf hp fun δ x m1 v H1 g r f q p => ev1 r f p fun δ2 y m2 w H2 g2 r2 f2 q2 p2 => ?_
    split at p2
    · rename_i xs ys e1 e2
      have h1 := py_pv r2 (q.grow g2) e1
      have h2 := py_pv r2 q2 e2
      split at p2
      · rename_i hz
        cases h1 with
        | lst a1 a2 =>
          cases h2 with
          | lst b1 b2 =>
            refine ⟨_, _, _, _, rfl, rfl, a1, b1, ?_, fun p hn => p2.newM r2 (a2.append b2) rfl hn⟩
            rw [← a2.length, ← b2.length]
            exact sz_le hz
      · exact p2.elim
    · exact p2.elim
end
end MN

set_option maxRecDepth 100000
set_option maxHeartbeats 4000000
/-! MnSrt: sorted(xs) of a list of data; list(d.values()). -/
namespace MN
open PySem PySem.Spec PyProof.Rows L2
theorem sortL_one {xs : List PyData} (h : xs.length ≤ 1) : sortL xs = xs := by
  match xs, h with
  | [], _ => exact List.mergeSort_nil
  | [x], _ => exact List.mergeSort_singleton x
  | _ :: _ :: _, h => simp at h
theorem srt_ok {xs : List PyData} (al : PySem.W.AlikeAll xs) (h : srtOk xs = true) (hm : mmOk xs = true) : xs.length ≤ 1 ∨ PySem.W.Sortable (xs.map id) := by
  unfold srtOk at h
  simp only [Bool.or_eq_true, decide_eq_true_iff, List.all_eq_true] at h
  rcases h with (h | h) | h
  · exact .inl h
  · refine .inr (.inl fun d hd => ?_)
    rw [List.map_id] at hd
    have q := h d hd
    split at q
    · exact ⟨_, _, rfl⟩
    · cases q
  · refine .inr (.inr fun d hd => ?_)
    rw [List.map_id] at hd
    refine ⟨fun e => ?_, fun ys e => ?_⟩
    · unfold mmOk at hm
      simp only [Bool.and_eq_true, List.all_eq_true] at hm
      have := (hm.1 d hd).2
      rw [e] at this
      cases this
    · have q := h d hd
      rw [e] at q
      cases q
theorem each_dp {K : PySem.W.Frag} {β : BB} {H : Hp} : ∀ {ds : List PyData} {ws : List V} {its : List Value}, DPs K β H ds ws → Vals ws its → PySem.W.EachIs (fun v d => ∃ w, DP K β H d w ∧ RelV w v) its ds
  | _, _, _, .nil, .nil => .nil
  | _, _, _, .cons h hs, .cons r rs => .cons ⟨_, h, r⟩ (each_dp hs rs)
theorem dp_each {K : PySem.W.Frag} {β : BB} {H : Hp} : ∀ {ds : List PyData} {its : List Value}, PySem.W.EachIs (fun v d => ∃ w, DP K β H d w ∧ RelV w v) its ds → ∃ ws, DPs K β H ds ws ∧ Vals ws its
  | _, _, .nil => ⟨[], .nil, .nil⟩
  | _, _, .cons ⟨w, h, r⟩ hs => by
    obtain ⟨ws, h1, h2⟩ := dp_each hs
    exact ⟨w :: ws, .cons h h1, .cons r h2⟩
theorem depth_mem : ∀ {xs : List PyData} {x : PyData}, x ∈ xs → x.depth ≤ PyData.depthAll xs
  | y :: xs, x, h => by
    unfold PyData.depthAll
    rcases List.mem_cons.mp h with rfl | h
    · exact Nat.le_max_left _ _
    · exact Nat.le_trans (depth_mem h) (Nat.le_max_right _ _)
section
variable {X : Cx} {TT : TB} {C : CA}
theorem bi_sortD (hu : X.A.units + 200 < cLine) : CallR X (.builtin "sorted") (rBi TT X.K C .sortD) := by
  intro pins s σ H xs us Q I r h
  obtain ⟨β, m, vs, QE, rep, hv, hp⟩ := h
  cases hv with
  | nil => exact hp.elim
  | @cons x xs v vs h0 hs =>
    cases hs with
    | cons _ _ => cases x with
      | d x => cases x <;> exact hp.elim
      | loc _ => exact hp.elim
    | nil =>
      have hp : Post TT X.K C (RV X.K) β H (match x.py? m with
        | some (.list xs) => sortX xs m
        | _ => .no) Q QE := by
        cases x with
        | d x => cases x <;> exact hp
        | loc _ => exact hp
      split at hp
      · rename_i ds e
        unfold sortX at hp
        split at hp
        · rename_i hz
          obtain ⟨al, dp⟩ := mm_ok hz.1
          have px := py_pv rep h0 e
          cases px with
          | lst h1 h2 =>
            obtain ⟨its, rv, hl, hlen⟩ := I.list (.inl h1)
            rw [Vals.ref1 r]
            have hlw := rv.length
            have hdw := h2.length
            have fin : ∀ out : List Value, out.length = ds.length → PySem.W.EachIs (fun v d => ∃ w, DP X.K β H d w ∧ RelV w v) out (sortL ds) → EP X pins σ Q (.ref (s.heap.objs.size + 1)) { s with heap := PyProof.Rows.sortedAll s.heap its out.toArray } := fun out ho ho2 => by
              obtain ⟨ws', g1, g2⟩ := dp_each ho2
              obtain ⟨ep, he'⟩ := PyProof.Rows.sortedAll_at s.heap its out.toArray
              have hl' : ws'.length ≤ sizeLine := by rw [g2.length]; omega
              exact ⟨.ref _, upd H (s.heap.objs.size + 1) (.lst ws'), I.laid (t' := s.toks) (fun _ _ => PyProof.Rows.sortedAll_old) (Nat.le_succ _) ⟨hl', out, ep, g2, he'⟩, rfl, hp.newL rep g1 (I.hok.fresh (Nat.le_succ _))⟩
            rcases srt_ok al hz.2 hz.1 with h1' | hk
            · refine Srt.sorted_any hl.isList (by omega) (fun z => by omega) fun out hperm => ?_
              have e1 : out = its := by
                have hi : its.length ≤ 1 := by omega
                match its, hi, hperm with
                | [], _, hperm => exact List.perm_nil.mp hperm
                | [u], _, hperm => exact List.perm_singleton.mp hperm
                | _ :: _ :: _, hi, _ => simp at hi
              subst e1
              exact fin out (by omega) (by rw [sortL_one h1']; exact each_dp h2 rv)
            · refine PySem.W.sorted_data (enc := id) (bs := ds) hl.isList (each_dp h2 rv) ((each_dp h2 rv).mono fun v d ⟨w, hd, rw⟩ => Dp.reads I d w v hd.dp rw) (by rw [List.map_id]; exact al.1) hk (by omega) (fun d hd => ?_) fun out ho ho2 => fin out ho ho2
              have := depth_mem hd
              show _ + d.depth < _
              omega
        · exact hp.elim
      · exact hp.elim
end
/-! ### list(d.values()) -/
theorem kv_vals {κ : Type} {kvs : List (κ × V)} {vs : List (κ × Value)} (r : KV kvs vs) : Vals (kvs.map (·.2)) (vs.map (·.2)) := by
  unfold KV at r
  induction r with
  | nil => exact .nil
  | cons r t ih => exact .cons r.2 ih
def tLstVals (td : TE) : TE := fun σ H Q => td σ H fun x H1 => ∃ (a : Addr) (kvs : List (Key × V)), x = V.ref a ∧ H1 a = some (.dK kvs) ∧ ∀ p, H1 p = none → Q (.ref p) (upd H1 p (.lst (kvs.map (·.2))))
section
variable {X : Cx} {o : Expr} {td : TE} {p pos apos mpos : Pos}
theorem pe_lstVals (hc : X.calm = true) (hg : Gl X "list") (hm : X.mg "list" = none) (hd : PE X o td) (hbase : attributeBase o "values" X.env (eval o X.env) = eval o X.env) (hline : (apos.endLine == mpos.line) = true) :
    PE X (.Call (.Name "list" p) [.Call (.Attribute o "values" apos) [] [] mpos] [] pos) (tLstVals td) := by
  refine ⟨fun pins s σ H Q I h => ?_⟩
  refine Call_ (ld_blt I hg hm PySem.Pv.boot_list (PyProof.Rows.callWith_type1 (PyProof.Rows.args_cons ?_ rfl) rfl rfl))
  refine wpAny_Call_method0_late hbase hline (thn (hd.run pins s σ H _ I h) fun v s1 ⟨x, H1, I1, r1, a, kvs, ex, ha, q⟩ => ?_)
  subst ex
  obtain rfl : v = Value.ref a := r1
  obtain ⟨hlen, hsys, vs, rel, dof⟩ := dk_of I1.hok ha
  obtain ⟨ep, dat⟩ := dof.dictAt
  have dat' := dat
  obtain ⟨ob, es, ho, ex, hdat, hko, hpr, hnd⟩ := dat'
  refine ⟨"dict", "dict.values", F.plainAttrs_dict, F.slot_dict_values, F.type_dict_values, ⟨ob, ho, ex.1⟩, fun b e => ?_, Calls.callWith_builtin rfl (PySem.evalArgs_none ?_)⟩
  · cases e
    exact ⟨ob, ho, ex.2.1⟩
  refine call_meetsIn F.slot_dict_values ⟨ob, ho, ex.1⟩ F.entry_dict_values (F.args_dict_values_1 _) (meets_dict_values (mixKind X.prog X.w) a hsys) ⟨⟨vs, dof⟩, ?_⟩
  have k1 : ∀ b u, s1.heap.get? b = some u → (s1.heap.push { cls := .type "dict_values", data := .fields #[.ref a] }).get? b = some u := fun b u e => Heap.get?_push_of_some _ e
  have dat1 : (s1.heap.push { cls := .type "dict_values", data := .fields #[.ref a] }).DictAt (mixKind X.prog X.w) a vs ep := dat.keep k1
  have I2 : Inv X pins σ H1 { s1 with heap := s1.heap.push { cls := .type "dict_values", data := .fields #[.ref a] } } := I1.kept (t' := s1.toks) k1
  have hlv : kvs.length = vs.length := KV.length rel
  refine PyProof.Rows.args_nil ?_
  refine PySem.W.kdl_call (s := { s1 with heap := s1.heap.push { cls := .type "dict_values", data := .fields #[.ref a] } }) (PySem.W.kdl_values (knd := mixKind X.prog X.w) (r := s1.heap.objs.size) (d := a) (kvs := vs) (ep := ep)) (I.ok.hd hc) ⟨⟨_, Heap.get?_push_size _ rfl, rfl, rfl⟩, dat1⟩ (by omega) fun h' tk acc c hk hS hacc => ?_
  have ev : acc.toList = vs.map (·.2) := PySem.W.kdl_vals_eq acc.toList (by rw [Array.length_toList]; exact hacc.1) fun j v e => hacc.2 j v (by rw [← Array.getElem?_toList]; exact e)
  have hv := kv_vals rel
  rw [← ev] at hv
  have hn := I2.hok.fresh (Nat.le_refl (s1.heap.push { cls := .type "dict_values", data := .fields #[.ref a] }).objs.size)
  exact ⟨.ref _, upd H1 _ (.lst (kvs.map (·.2))), I2.laid (t' := tk) hk (Nat.le_refl _) ⟨by rw [List.length_map]; exact hlen, acc.toList, c, hv, hS⟩, rfl, q _ hn⟩
end
section
variable {X : Cx} {TT : TB} {C : CA} {E : L2.St → XK} {cx : Cxt} {o : Expr} {co : CE} {p pos apos mpos : Pos}
theorem rk_vals {K : PySem.W.Frag} {β : BB} {H : Hp} : ∀ {kvs : List (Ky × Val)} {kws : List (Key × V)} {ds : List PyData}, RKs K β H kvs kws → datas? (kvs.map (·.2)) = some ds → DPs K β H ds (kws.map (·.2))
  | _, _, _, .nil, e => by
    cases e
    exact .nil
  | _, _, ds, .cons (x := x) (xs := xs) h hs, e => by
    rw [List.map_cons] at e
    unfold datas? at e
    cases x with
    | loc n => simp [Val.data?] at e
    | d x =>
      cases q : datas? (xs.map (·.2)) with
      | none => simp [Val.data?, q] at e
      | some ys =>
        simp [Val.data?, q] at e
        subst e
        exact .cons h (rk_vals hs q)
theorem so_dvals (hc : X.calm = true) (hg : Gl X "list") (hm : X.mg "list" = none) (ho : PE X o (tE TT X.K C E cx co)) (hb : plainBase o = true) (hline : (apos.endLine == mpos.line) = true) :
    PE X (.Call (.Name "list" p) [.Call (.Attribute o "values" apos) [] [] mpos] [] pos) (tE TT X.K C E cx (.bi .dvals [co])) :=
  pe_imp (pe_lstVals hc hg hm ho (base_plain hb) hline) fun σ H Q ⟨β, m, ρ, rep, rf, hp⟩ => by
    simp only [evE, evEs, bind_assoc] at hp
    refine ev1 rep rf hp fun δ x m1 v H1 g r f qv pp => ?_
    cases x with
    | d x => cases x <;> exact (show False from pp).elim
    | loc n =>
      have pp : Post TT X.K C (RV X.K) (β ++ δ) H1 (match m1[n]? with
        | some (.dic kvs) => (match datas? (kvs.map (·.2)) with
          | some xs => .ok (.d (.list xs)) m1
          | none => .no)
        | _ => .no) Q (E σ) := pp
      obtain ⟨a, ea, rfl⟩ := qv
      split at pp
      · rename_i kvs em
        obtain ⟨kws, h1, h2, _⟩ := r.dic ea em
        split at pp
        · rename_i xs ed
          exact ⟨a, kws, rfl, h1, fun p hn => pp.newL r (rk_vals h2 ed) hn⟩
        · exact pp.elim
      · exact pp.elim
end
end MN

set_option maxRecDepth 100000
set_option maxHeartbeats 4000000
/-! MnStm: each form of a statement comes to what the evaluator says. -/
namespace MN
open PySem PySem.Spec PyProof.Rows L2

def PostS (TT : TB) (K : PySem.W.Frag) (C : CA) (W : WX) (n : Nat) (β : BB) (H : Hp) (r : RS) (D : Ends) : Prop := match r with
  | .nx ρ m => ∀ δ H1 σ1, Grow β H δ H1 → RepS TT K (β ++ δ) H1 m → RF K (β ++ δ) H1 ρ σ1 → σ1.length = n → D.nx σ1 H1
  | .rt x m => ∀ δ H1 v, Grow β H δ H1 → RepS TT K (β ++ δ) H1 m → RV K (β ++ δ) H1 x v → D.rt v H1
  | .bk ρ m => ∀ δ H1 σ1, Grow β H δ H1 → RepS TT K (β ++ δ) H1 m → RF K (β ++ δ) H1 ρ σ1 → σ1.length = n → D.bk σ1 H1
  | .ct ρ m => ∀ δ H1 σ1, Grow β H δ H1 → RepS TT K (β ++ δ) H1 m → RF K (β ++ δ) H1 ρ σ1 → σ1.length = n → D.ct σ1 H1
  | .ex e ρ m => ∀ δ H1 σ1 dx, Grow β H δ H1 → RepS TT K (β ++ δ) H1 m → RF K (β ++ δ) H1 ρ σ1 → σ1.length = n → ExcAt K (β ++ δ) H1 e dx → W (.ref (C e.cls)) (some dx) σ1 H1
  | .no => False
section
variable {TT : TB} {K : PySem.W.Frag} {C : CA} {W : WX} {n : Nat} {β : BB} {H H1 : Hp} {δ : List Addr} {r : RS} {D D' : Ends} {m m1 : Store} {ρ : Fr} {σ : L2.St}
theorem PostS.grow (h : PostS TT K C W n β H r D) (g : Grow β H δ H1) (rep : RepS TT K (β ++ δ) H1 m1) : PostS TT K C W n (β ++ δ) H1 r D := by
  cases r with
  | nx ρ m => exact fun δ' H2 σ1 g' r' f l => h (δ ++ δ') H2 σ1 (g.trans g' rep) (by rw [← BB.app_assoc]; exact r') (by rw [← BB.app_assoc]; exact f) l
  | rt x m => exact fun δ' H2 v g' r' f => h (δ ++ δ') H2 v (g.trans g' rep) (by rw [← BB.app_assoc]; exact r') (by rw [← BB.app_assoc]; exact f)
  | bk ρ m => exact fun δ' H2 σ1 g' r' f l => h (δ ++ δ') H2 σ1 (g.trans g' rep) (by rw [← BB.app_assoc]; exact r') (by rw [← BB.app_assoc]; exact f) l
  | ct ρ m => exact fun δ' H2 σ1 g' r' f l => h (δ ++ δ') H2 σ1 (g.trans g' rep) (by rw [← BB.app_assoc]; exact r') (by rw [← BB.app_assoc]; exact f) l
  | ex e ρ m => exact fun δ' H2 σ1 dx g' r' f l x => h (δ ++ δ') H2 σ1 dx (g.trans g' rep) (by rw [← BB.app_assoc]; exact r') (by rw [← BB.app_assoc]; exact f) l (by rw [← BB.app_assoc]; exact x)
  | no => exact h
/-- now -/
theorem PostS.nx0 (h : PostS TT K C W n β H (.nx ρ m) D) (rep : RepS TT K β H m) (rf : RF K β H ρ σ) (l : σ.length = n) : D.nx σ H :=
  h [] H σ Grow.refl (by rw [BB.app_nil]; exact rep) (by rw [BB.app_nil]; exact rf) l
theorem PostS.bk0 (h : PostS TT K C W n β H (.bk ρ m) D) (rep : RepS TT K β H m) (rf : RF K β H ρ σ) (l : σ.length = n) : D.bk σ H :=
  h [] H σ Grow.refl (by rw [BB.app_nil]; exact rep) (by rw [BB.app_nil]; exact rf) l
theorem PostS.ct0 (h : PostS TT K C W n β H (.ct ρ m) D) (rep : RepS TT K β H m) (rf : RF K β H ρ σ) (l : σ.length = n) : D.ct σ H :=
  h [] H σ Grow.refl (by rw [BB.app_nil]; exact rep) (by rw [BB.app_nil]; exact rf) l
theorem PostS.rt0 {x : Val} {v : V} (h : PostS TT K C W n β H (.rt x m) D) (rep : RepS TT K β H m) (rv : RV K β H x v) : D.rt v H :=
  h [] H v Grow.refl (by rw [BB.app_nil]; exact rep) (by rw [BB.app_nil]; exact rv)
/-- an expression's part -/
theorem PostS.of {α ζ : Type} {Rel : BB → Hp → α → ζ → Prop} {r : R α} {f : α → Store → RS} (h : PostS TT K C W n β H (RS.of r ρ f) D) (rf : RF K β H ρ σ) (l : σ.length = n) :
    Post TT K C Rel β H r (fun x H1 => ∃ δ a m1, Grow β H δ H1 ∧ RepS TT K (β ++ δ) H1 m1 ∧ Rel (β ++ δ) H1 a x ∧ PostS TT K C W n (β ++ δ) H1 (f a m1) D) (WE W σ) := by
  cases r with
  | ok a m1 => exact fun δ H1 x g r q => ⟨δ, a, m1, g, r, q, PostS.grow (r := f a m1) h g r⟩
  | ex e m2 => exact fun δ H1 dx g r x => h δ H1 σ dx g r (rf.grow g) l x
  | no => exact h
end
def tS (TT : TB) (K : PySem.W.Frag) (C : CA) (W : WX) (cx : Cxt) (c : CS) : TS := fun D σ H => ∃ β m ρ, RepS TT K β H m ∧ RF K β H ρ σ ∧ PostS TT K C W σ.length β H (evS cx c ρ m) D
def tSs (TT : TB) (K : PySem.W.Frag) (C : CA) (W : WX) (cx : Cxt) (c : List CS) : TS := fun D σ H => ∃ β m ρ, RepS TT K β H m ∧ RF K β H ρ σ ∧ PostS TT K C W σ.length β H (evSs cx c ρ m) D
theorem ps_imp {X : Cx} {e : Stmt} {t t' : TS} (h : PS X e t) (w : ∀ D σ H, t' D σ H → t D σ H) : PS X e t' := ⟨fun pins s σ H D I q => h.run pins s σ H D I (w D σ H q)⟩
theorem pss_imp {X : Cx} {e : List Stmt} {t t' : TS} (h : PSs X e t) (w : ∀ D σ H, t' D σ H → t D σ H) : PSs X e t' := ⟨fun pins s σ H D I q => h.run pins s σ H D I (w D σ H q)⟩
section
variable {TT : TB} {K : PySem.W.Frag} {C : CA} {W : WX} {cx : Cxt} {β : BB} {H : Hp} {m : Store} {ρ : Fr} {σ : L2.St} {D : Ends}
theorem es1 {a : CE} {f : Val → Store → RS} {R0 : VK} (rep : RepS TT K β H m) (rf : RF K β H ρ σ) (hp : PostS TT K C W σ.length β H (RS.of (evE cx a ρ m) ρ f) D)
    (k : ∀ δ x m1 v H1, Grow β H δ H1 → RepS TT K (β ++ δ) H1 m1 → RF K (β ++ δ) H1 ρ σ → RV K (β ++ δ) H1 x v → PostS TT K C W σ.length (β ++ δ) H1 (f x m1) D → R0 v H1) : tE TT K C (WE W) cx a σ H R0 :=
  ⟨β, m, ρ, rep, rf, (PostS.of (Rel := RV K) hp rf rfl).mono fun v H1 ⟨δ, x, m1, g, r, q, p⟩ => k δ x m1 v H1 g r (rf.grow g) q p⟩
theorem es1T {a : CE} {f : Bool → Store → RS} {R0 : Bool → Hp → Prop} (rep : RepS TT K β H m) (rf : RF K β H ρ σ) (hp : PostS TT K C W σ.length β H (RS.of (evT cx a ρ m) ρ f) D)
    (k : ∀ δ x m1 H1, Grow β H δ H1 → RepS TT K (β ++ δ) H1 m1 → RF K (β ++ δ) H1 ρ σ → PostS TT K C W σ.length (β ++ δ) H1 (f x m1) D → R0 x H1) : tT TT K C (WE W) cx a σ H R0 :=
  ⟨β, m, ρ, rep, rf, (PostS.of (Rel := RBo) hp rf rfl).mono fun v H1 ⟨δ, x, m1, g, r, q, p⟩ => by
    cases (show x = v from q)
    exact k δ v m1 H1 g r (rf.grow g) p⟩
end
section
variable {X : Cx} {TT : TB} {C : CA} {W : WX} {cx : Cxt} {e : Expr} {ce : CE} {pos : Pos}
theorem ss_nil : PSs X [] (tSs TT X.K C W cx []) := pss_imp pss_nil fun D σ H ⟨β, m, ρ, rep, rf, hp⟩ => by
  simp only [evSs] at hp
  exact hp.nx0 rep rf rfl
theorem ss_cons {s : Stmt} {ss : List Stmt} {c : CS} {cs : List CS} (h1 : PS X s (tS TT X.K C W cx c)) (h2 : PSs X ss (tSs TT X.K C W cx cs)) : PSs X (s :: ss) (tSs TT X.K C W cx (c :: cs)) :=
  pss_imp (pss_cons h1 h2) fun D σ H ⟨β, m, ρ, rep, rf, hp⟩ => by
    simp only [evSs] at hp
    refine ⟨β, m, ρ, rep, rf, ?_⟩
    cases e : evS cx c ρ m with
    | nx ρ1 m1 =>
      rw [e] at hp
      intro δ H1 σ1 g r f l
      refine ⟨β ++ δ, m1, ρ1, r, f, ?_⟩
      rw [l]
      exact PostS.grow hp g r
    | rt _ _ => rw [e] at hp; exact hp
    | bk _ _ => rw [e] at hp; exact hp
    | ct _ _ => rw [e] at hp; exact hp
    | ex _ _ _ => rw [e] at hp; exact hp
    | no => rw [e] at hp; exact hp.elim
theorem ss_pass : PS X (.Pass pos) (tS TT X.K C W cx .pass) := ps_imp ps_pass fun D σ H ⟨β, m, ρ, rep, rf, hp⟩ => by
  simp only [evS] at hp
  exact hp.nx0 rep rf rfl
theorem ss_brk : PS X (.Break pos) (tS TT X.K C W cx .brk) := ps_imp ps_break fun D σ H ⟨β, m, ρ, rep, rf, hp⟩ => by
  simp only [evS] at hp
  exact hp.bk0 rep rf rfl
theorem ss_cnt : PS X (.Continue pos) (tS TT X.K C W cx .cnt) := ps_imp ps_continue fun D σ H ⟨β, m, ρ, rep, rf, hp⟩ => by
  simp only [evS] at hp
  exact hp.ct0 rep rf rfl
theorem ss_ret (he : PE X e (tE TT X.K C (WE W) cx ce)) : PS X (.Return (some e) pos) (tS TT X.K C W cx (.ret ce)) := ps_imp (ps_ret he) fun D σ H ⟨β, m, ρ, rep, rf, hp⟩ => by
  simp only [evS] at hp
  exact es1 rep rf hp fun δ x m1 v H1 g r f q p => p.rt0 r q
theorem ss_ret0 : PS X (.Return none pos) (tS TT X.K C W cx .ret0) := ps_imp ps_retN fun D σ H ⟨β, m, ρ, rep, rf, hp⟩ => by
  simp only [evS] at hp
  exact PostS.rt0 (x := .d .none) hp rep (show DP X.K β H _ _ from .non)
theorem ss_ex (he : PE X e (tE TT X.K C (WE W) cx ce)) (hs : swapsWith e none pos.line X.env = pure false) : PS X (.Expr e pos) (tS TT X.K C W cx (.ex ce)) := ps_imp (ps_expr he hs) fun D σ H ⟨β, m, ρ, rep, rf, hp⟩ => by
  simp only [evS] at hp
  exact es1 rep rf hp fun δ x m1 v H1 g r f q p => p.nx0 r f rfl
theorem ss_asg {tg : Expr} {t : CT} (he : PE X e (tE TT X.K C (WE W) cx ce)) (hg : PG X tg (tG X.K t)) (hs : swapsWithSole [tg] e pos.line X.env = pure false) (hw : swappedStores [tg] e X.env = pure none) (h1 : (assignEach [tg] X.env).map (·.2) = [assign tg X.env]) :
    PS X (.Assign [tg] e pos) (tS TT X.K C W cx (.asg t ce)) := ps_imp (ps_asg he hg hs hw h1) fun D σ H ⟨β, m, ρ, rep, rf, hp⟩ => by
  simp only [evS] at hp
  refine es1 rep rf hp fun δ x m1 v H1 g r f q p => ?_
  cases e1 : asg t x ρ with
  | none => rw [e1] at p; exact p.elim
  | some ρ1 =>
    rw [e1] at p
    exact ⟨_, ρ, x, ρ1, f, q, e1, fun σ1 f1 l1 _ => p.nx0 r f1 l1⟩
theorem ss_par {i j : Nat} {x y : Str} {a b : Expr} {ca cb : CE} {px py pt : Pos} {kt k2 : Nat} {pt2 : Pos} (hc : X.calm = true) (hN : X.N.Nodup) (hi : X.N[i]? = some x) (hj : X.N[j]? = some y) (hij : i ≠ j)
    (hx : X.env.scope.names.lookup x = some .local) (hy : X.env.scope.names.lookup y = some .local) (ha : PA X [a, b] (tA TT X.K C (WE W) cx [ca, cb]))
    (hw : swappedStores [.Tuple [.Name x px, .Name y py] kt pt] (.Tuple [a, b] k2 pt2) X.env = pure (some [x, y])) (hs : swapsWithSole [.Tuple [.Name x px, .Name y py] kt pt] (.Tuple [a, b] k2 pt2) pos.line X.env = pure false) :
    PS X (.Assign [.Tuple [.Name x px, .Name y py] kt pt] (.Tuple [a, b] k2 pt2) pos) (tS TT X.K C W cx (.par i j ca cb)) := ps_imp (ps_par hc hN hi hj hij hx hy ha hw hs) fun D σ H ⟨β, m, ρ, rep, rf, hp⟩ => by
  simp only [evS] at hp
  have key : tA TT X.K C (WE W) cx [ca, cb] σ H fun vs H1 => ∃ v w, vs = [v, w] ∧ D.nx ((σ.set i (some v)).set j (some w)) H1 := by
    refine ⟨β, m, ρ, rep, rf, ?_⟩
    simp only [evEs]
    cases e1 : evE cx ca ρ m with
    | no => rw [e1] at hp; exact hp.elim
    | ex e m1 =>
      rw [e1] at hp
      exact fun δ H1 dx g r x => hp δ H1 σ dx g r (rf.grow g) rfl x
    | ok v m1 =>
      rw [e1] at hp
      cases e2 : evE cx cb ρ m1 with
      | no => simp only [RS.of] at hp; rw [e2] at hp; exact hp.elim
      | ex e m2 =>
        simp only [RS.of] at hp
        rw [e2] at hp
        simp only [R.bind]
        rw [e2]
        exact fun δ H1 dx g r x => hp δ H1 σ dx g r (rf.grow g) rfl x
      | ok w m2 =>
        simp only [RS.of] at hp
        rw [e2] at hp
        simp only [R.bind]
        rw [e2]
        dsimp only at hp ⊢
        intro δ H1 vs g r q
        split at hp
        · rename_i hz
          cases q with
          | cons h0 hs =>
            cases hs with
            | cons h1 hs2 =>
              cases hs2
              exact ⟨_, _, rfl, hp δ H1 _ g r (((rf.grow g).set h0).set h1) (by rw [List.length_set, List.length_set])⟩
        · exact hp.elim
  exact key
theorem ss_par3 {i j l : Nat} {x y z : Str} {a b c : Expr} {ca cb cc : CE} {px py pz pt : Pos} {kt k2 : Nat} {pt2 : Pos} (hc : X.calm = true) (hN : X.N.Nodup) (hi : X.N[i]? = some x) (hj : X.N[j]? = some y) (hl : X.N[l]? = some z) (hij : i ≠ j) (hil : i ≠ l) (hjl : j ≠ l)
    (hx : X.env.scope.names.lookup x = some .local) (hy : X.env.scope.names.lookup y = some .local) (hz : X.env.scope.names.lookup z = some .local) (ha : PA X [a, b, c] (tA TT X.K C (WE W) cx [ca, cb, cc]))
    (hw : swappedStores [.Tuple [.Name x px, .Name y py, .Name z pz] kt pt] (.Tuple [a, b, c] k2 pt2) X.env = pure (some [x, y, z])) (hs : swapsWithSole [.Tuple [.Name x px, .Name y py, .Name z pz] kt pt] (.Tuple [a, b, c] k2 pt2) pos.line X.env = pure false) :
    PS X (.Assign [.Tuple [.Name x px, .Name y py, .Name z pz] kt pt] (.Tuple [a, b, c] k2 pt2) pos) (tS TT X.K C W cx (.par3 i j l ca cb cc)) := ps_imp (ps_par3 hc hN hi hj hl hij hil hjl hx hy hz ha hw hs) fun D σ H ⟨β, m, ρ, rep, rf, hp⟩ => by
  simp only [evS] at hp
  have key : tA TT X.K C (WE W) cx [ca, cb, cc] σ H fun vs H1 => ∃ u v w, vs = [u, v, w] ∧ D.nx (((σ.set i (some u)).set j (some v)).set l (some w)) H1 := by
    refine ⟨β, m, ρ, rep, rf, ?_⟩
    simp only [evEs]
    cases e1 : evE cx ca ρ m with
    | no => rw [e1] at hp; exact hp.elim
    | ex e m1 =>
      rw [e1] at hp
      exact fun δ H1 dx g r x => hp δ H1 σ dx g r (rf.grow g) rfl x
    | ok v m1 =>
      rw [e1] at hp
      cases e2 : evE cx cb ρ m1 with
      | no => simp only [RS.of] at hp; rw [e2] at hp; exact hp.elim
      | ex e m2 =>
        simp only [RS.of] at hp
        rw [e2] at hp
        simp only [R.bind]
        rw [e2]
        exact fun δ H1 dx g r x => hp δ H1 σ dx g r (rf.grow g) rfl x
      | ok w m2 =>
        simp only [RS.of] at hp
        rw [e2] at hp
        cases e3 : evE cx cc ρ m2 with
        | no => simp only [] at hp; rw [e3] at hp; exact hp.elim
        | ex e m3 =>
          simp only [] at hp
          rw [e3] at hp
          simp only [R.bind]
          rw [e2]
          simp only []
          rw [e3]
          exact fun δ H1 dx g r x => hp δ H1 σ dx g r (rf.grow g) rfl x
        | ok u m3 =>
          simp only [] at hp
          rw [e3] at hp
          simp only [R.bind]
          rw [e2]
          simp only []
          rw [e3]
          dsimp only at hp ⊢
          intro δ H1 vs g r q
          split at hp
          · rename_i hz
            cases q with
            | cons h0 hs =>
              cases hs with
              | cons h1 hs2 =>
                cases hs2 with
                | cons h2 hs3 =>
                  cases hs3
                  exact ⟨_, _, _, rfl, hp δ H1 _ g r ((((rf.grow g).set h0).set h1).set h2) (by rw [List.length_set, List.length_set, List.length_set])⟩
          · exact hp.elim
  exact key
theorem ss_set {o i : Expr} {co ci : CE} {pos' : Pos} (hu : X.A.units + 1 < cLine) (he : PE X e (tE TT X.K C (WE W) cx ce)) (ho : PE X o (tE TT X.K C (WE W) cx co)) (hi : PE X i (tE TT X.K C (WE W) cx ci))
    (ha : ∀ v, assign (.Subscript o i pos') X.env v = (do
      let ov ← holding [v] (eval o X.env)
      let iv ← holding [v, ov] (eval i X.env)
      standAt pos'
      holding [v, ov, iv] (PySem.setItem ov iv v)
      release [v, ov, iv] [])) (hs : swapsWithSole [.Subscript o i pos'] e pos.line X.env = pure false) (hw : swappedStores [.Subscript o i pos'] e X.env = pure none) (h1 : (assignEach [.Subscript o i pos'] X.env).map (·.2) = [assign (.Subscript o i pos') X.env]) :
    PS X (.Assign [.Subscript o i pos'] e pos) (tS TT X.K C W cx (.set co ci ce)) := ps_imp (ps_asg he (pg_sub ho hi (set_all (TT := TT) (C := C) hu) ha) hs hw h1) fun D σ H ⟨β, m, ρ, rep, rf, hp⟩ => by
  simp only [evS] at hp
  refine es1 rep rf hp fun δ x m1 v H1 g r f q p => es1 r f p fun δ2 y m2 w H2 g2 r2 f2 q2 p2 => es1 r2 f2 p2 fun δ3 z m3 u H3 g3 r3 f3 q3 p3 => ?_
  refine ⟨_, m3, y, z, x, WE W σ, r3, q2.grow g3, q3, (q.grow g2).grow g3, (PostS.of (Rel := RU) p3 f3 rfl).mono ?_⟩
  intro _ H4 ⟨δ4, _, m4, g4, r4, _, p4⟩
  exact p4.nx0 r4 (f3.grow g4) rfl
theorem ss_ifs {c : Expr} {cc : CE} {a b : List Stmt} {ca cb : List CS} (hc : PT X c (tT TT X.K C (WE W) cx cc)) (ha : PSs X a (tSs TT X.K C W cx ca)) (hb : PSs X b (tSs TT X.K C W cx cb)) : PS X (.If c a b pos) (tS TT X.K C W cx (.ifs cc ca cb)) :=
  ps_imp (ps_if hc ha hb) fun D σ H ⟨β, m, ρ, rep, rf, hp⟩ => by
    simp only [evS] at hp
    refine es1T rep rf hp fun δ x m1 H1 g r f p => ?_
    cases x with
    | true => exact ⟨_, m1, ρ, r, f, p⟩
    | false => exact ⟨_, m1, ρ, r, f, p⟩
/-! ### loops -/
/-- behind a turn of a loop -/
theorem turn_body {γ : BB} {H1 H : Hp} {δ : List Addr} {m : Store} {ρ : Fr} {σ : L2.St} {cs : List CS} {g : Fr → Store → RS} {D : Ends} {n : Nat} {N : L2.St → Hp → Prop} (gr : Grow γ H1 δ H) (rep : RepS TT X.K (γ ++ δ) H m) (rf : RF X.K (γ ++ δ) H ρ σ) (hl : σ.length = n)
    (hp : PostS TT X.K C W n γ H1 ((evSs cx cs ρ m).turn g) D) (hN : ∀ δ H2 σ2 ρ2 m2, Grow γ H1 δ H2 → RepS TT X.K (γ ++ δ) H2 m2 → RF X.K (γ ++ δ) H2 ρ2 σ2 → σ2.length = n → PostS TT X.K C W n γ H1 (g ρ2 m2) D → N σ2 H2) :
    tSs TT X.K C W cx cs { D with nx := N, ct := N, bk := D.nx } σ H := by
  refine ⟨γ ++ δ, m, ρ, rep, rf, ?_⟩
  rw [hl]
  cases e : evSs cx cs ρ m with
  | nx ρ1 m1 =>
    rw [e] at hp
    intro δ2 H2 σ2 g2 r2 f2 l2
    rw [BB.app_assoc] at r2 f2
    exact hN _ H2 σ2 ρ1 m1 (gr.trans g2 rep) r2 f2 l2 hp
  | ct ρ1 m1 =>
    rw [e] at hp
    intro δ2 H2 σ2 g2 r2 f2 l2
    rw [BB.app_assoc] at r2 f2
    exact hN _ H2 σ2 ρ1 m1 (gr.trans g2 rep) r2 f2 l2 hp
  | bk ρ1 m1 =>
    rw [e] at hp
    intro δ2 H2 σ2 g2 r2 f2 l2
    rw [BB.app_assoc] at r2 f2
    exact hp _ H2 σ2 (gr.trans g2 rep) r2 f2 l2
  | rt x m1 =>
    rw [e] at hp
    exact PostS.grow (r := .rt x m1) hp gr rep
  | ex ee ρ1 m1 =>
    rw [e] at hp
    exact PostS.grow (r := .ex ee ρ1 m1) hp gr rep
  | no => rw [e] at hp; exact hp.elim
/-- one turn of a for -/
def turnL (cx : Cxt) (t : CT) (cs : List CS) : PyData → Fr → Store → RS := fun x ρ m => match asg t (.d x) ρ with
  | none => .no
  | some ρ1 => evSs cx cs ρ1 m
theorem turn_for {γ : BB} {H1 H : Hp} {δ : List Addr} {m : Store} {ρ : Fr} {σ : L2.St} {t : CT} {cs : List CS} {g : Fr → Store → RS} {D : Ends} {n : Nat} {N : L2.St → Hp → Prop} {d : PyData} {x : V} (gr : Grow γ H1 δ H) (rep : RepS TT X.K (γ ++ δ) H m) (rf : RF X.K (γ ++ δ) H ρ σ) (hl : σ.length = n)
    (hd : DP X.K (γ ++ δ) H d x) (hp : PostS TT X.K C W n γ H1 ((turnL cx t cs d ρ m).turn g) D) (hN : ∀ δ H2 σ2 ρ2 m2, Grow γ H1 δ H2 → RepS TT X.K (γ ++ δ) H2 m2 → RF X.K (γ ++ δ) H2 ρ2 σ2 → σ2.length = n → PostS TT X.K C W n γ H1 (g ρ2 m2) D → N σ2 H2) :
    tG X.K t x σ H fun σ2 H2 => tSs TT X.K C W cx cs { D with nx := N, ct := N, bk := D.nx } σ2 H2 := by
  unfold turnL at hp
  cases e : asg t (.d d) ρ with
  | none => rw [e] at hp; exact hp.elim
  | some ρ1 =>
    rw [e] at hp
    exact ⟨_, ρ, .d d, ρ1, rf, hd, e, fun σ2 f2 l2 _ => turn_body gr rep f2 (l2.trans hl) hp hN⟩
theorem ss_for {tg iter : Expr} {body : List Stmt} {k : ItK} {its : List CE} {t : CT} {cs : List CS} (hp0 : PassesOwn (model X.prog X.w) X.A X.env X.xe) (hc : X.calm = true) (hi : PI X tg iter (tI TT X.K C (WE W) cx k its)) (hg : PG X tg (tG X.K t)) (hb : PSs X body (tSs TT X.K C W cx cs))
    (hs : ∀ x, foldedSetIterable iter X.env x = pure x) : PS X (.For tg iter body [] pos) (tS TT X.K C W cx (.for_ k its t cs)) :=
  ps_imp (ps_for hp0 hc hi hg hb hs) fun D σ H ⟨β, m, ρ, rep, rf, hp⟩ => by
    simp only [evS] at hp
    refine ⟨β, m, ρ, rep, rf, (PostS.of (Rel := RVs X.K) hp rf rfl).mono ?_⟩
    intro vs H1 ⟨δ0, xs, m1, g, r, q, p⟩
    have rf1 := rf.grow g
    generalize hγ : β ++ δ0 = γ at r q p rf1
    refine ⟨γ, xs, m1, r, q, fun z => ?_, fun J hJ => ?_⟩
    · rw [z] at p
      exact p
    · generalize hw : walk k xs m1 = w at p hJ
      generalize hn : σ.length = n at p
      cases w with
      | no => exact hJ.elim
      | items ys =>
        refine ⟨fun i j σ' H' => j = ys.length - i ∧ i ≤ ys.length ∧ σ'.length = n ∧ ∃ δ m' ρ', Grow γ H1 δ H' ∧ RepS TT X.K (γ ++ δ) H' m' ∧ RF X.K (γ ++ δ) H' ρ' σ' ∧ PostS TT X.K C W n γ H1 (loopL (turnL cx t cs) (ys.drop i) ρ' m') D,
          ⟨ys.length, rfl, Nat.zero_le _, hn, [], m1, ρ, Grow.refl, by rw [BB.app_nil]; exact r, by rw [BB.app_nil]; exact rf1, p⟩, ?_⟩
        rintro i j σ' H' ⟨rfl, hi, hl', δ, m', ρ', gr, r', f', hp⟩
        by_cases hl : i < ys.length
        · refine .inr ⟨hJ.go i δ H' hl gr, fun σ'' H'' => i + 1 ≤ ys.length ∧ σ''.length = n ∧ ∃ δ m' ρ', Grow γ H1 δ H'' ∧ RepS TT X.K (γ ++ δ) H'' m' ∧ RF X.K (γ ++ δ) H'' ρ' σ'' ∧ PostS TT X.K C W n γ H1 (loopL (turnL cx t cs) (ys.drop (i + 1)) ρ' m') D,
            fun σ'' H'' ⟨h1, h2⟩ => ⟨ys.length - (i + 1), by omega, rfl, h1, h2⟩, fun x H2 hy => ?_⟩
          rw [List.drop_eq_getElem_cons hl] at hp
          unfold loopL at hp
          rcases hJ.yld i δ H' x H2 ys[i] gr (List.getElem?_eq_getElem hl) hy with ⟨rfl, hd⟩ | ⟨p, ws, ds, hpn, rfl, rfl, ed, hds⟩
          · exact turn_for gr r' f' hl' (hd.grow gr) hp fun δ H2 σ2 ρ2 m2 g2 r2 f2 l2 p2 => ⟨hl, l2, δ, m2, ρ2, g2, r2, f2, p2⟩
          · have g2 : Grow γ H1 (δ ++ []) (upd H' p (.tup ws)) := gr.trans (Grow.fresh hpn) r'
            rw [List.append_nil] at g2
            have f2 : RF X.K (γ ++ δ) (upd H' p (.tup ws)) ρ' σ' := by
              have := f'.grow (Grow.fresh (β := γ ++ δ) (o := .tup ws) hpn)
              rwa [BB.app_nil] at this
            refine turn_for g2 (r'.fresh hpn) f2 hl' ?_ hp fun δ H2 σ2 ρ2 m2 g2 r2 f2 l2 p2 => ⟨hl, l2, δ, m2, ρ2, g2, r2, f2, p2⟩
            rw [ed]
            exact .tup (.inl (.inl upd_same)) ((hds.grow gr).fresh hpn)
        · have : i = ys.length := by omega
          subst this
          rw [List.drop_length] at hp
          exact .inl ⟨hJ.stop _ δ H' (Nat.le_refl _) gr, hp δ H' σ' gr r' f' hl'⟩
      | dyn nn fuel =>
        obtain ⟨a, ea, rfl⟩ := hJ
        refine ⟨fun i j σ' H' => σ'.length = n ∧ ∃ δ m' ρ', Grow γ H1 δ H' ∧ RepS TT X.K (γ ++ δ) H' m' ∧ RF X.K (γ ++ δ) H' ρ' σ' ∧ PostS TT X.K C W n γ H1 (loopD (turnL cx t cs) nn j i ρ' m') D,
          ⟨fuel, hn, [], m1, ρ, Grow.refl, by rw [BB.app_nil]; exact r, by rw [BB.app_nil]; exact rf1, p⟩, ?_⟩
        rintro i j σ' H' ⟨hl', δ, m', ρ', gr, r', f', hp⟩
        have pa : (γ ++ δ).pos[nn]? = some a := by
          show (γ.pos ++ δ)[nn]? = some a
          rw [List.getElem?_append_left (List.getElem?_eq_some_iff.mp ea).1]
          exact ea
        cases j with
        | zero => exact hp.elim
        | succ j =>
          unfold loopD at hp
          cases hm : m'[nn]? with
          | none => rw [hm] at hp; exact hp.elim
          | some o =>
            rw [hm] at hp
            cases o with
            | dic _ => exact hp.elim
            | lst zs =>
              obtain ⟨vs2, h1, h2⟩ := r'.lst pa hm
              dsimp only at hp
              cases hz : zs[i]? with
              | none =>
                rw [hz] at hp
                refine .inl ⟨⟨vs2, .inl (.inl h1), ?_⟩, hp δ H' σ' gr r' f' hl'⟩
                rw [← h2.length]
                exact List.getElem?_eq_none_iff.mp hz
              | some z =>
                rw [hz] at hp
                dsimp only at hp
                obtain ⟨w, e1, e2⟩ := h2.get hz
                refine .inr ⟨⟨vs2, w, .inl (.inl h1), e1⟩, fun σ'' H'' => σ''.length = n ∧ ∃ δ m' ρ', Grow γ H1 δ H'' ∧ RepS TT X.K (γ ++ δ) H'' m' ∧ RF X.K (γ ++ δ) H'' ρ' σ'' ∧ PostS TT X.K C W n γ H1 (loopD (turnL cx t cs) nn j (i + 1) ρ' m') D,
                  fun σ'' H'' h => ⟨j, by omega, h⟩, fun x H2 hy => ?_⟩
                obtain ⟨rfl, hy⟩ := hy
                have e3 := hy vs2 (.inl (.inl h1))
                rw [e1] at e3
                cases e3
                exact turn_for gr r' f' hl' e2 hp fun δ H2 σ2 ρ2 m2 g2 r2 f2 l2 p2 => ⟨l2, δ, m2, ρ2, g2, r2, f2, p2⟩
theorem ss_whl {c : Expr} {cc : CE} {body : List Stmt} {cs : List CS} (hp0 : PassesOwn (model X.prog X.w) X.A X.env X.xe) (hc : PT X c (tT TT X.K C (WE W) cx cc)) (hb : PSs X body (tSs TT X.K C W cx cs)) : PS X (.While c body [] pos) (tS TT X.K C W cx (.whl cc cs)) :=
  ps_imp (ps_while hp0 hc hb) fun D σ H ⟨β, m, ρ, rep, rf, hp⟩ => by
    simp only [evS] at hp
    generalize hn : σ.length = n at hp
    refine ⟨fun j σ' H' => σ'.length = n ∧ ∃ δ m' ρ', Grow β H δ H' ∧ RepS TT X.K (β ++ δ) H' m' ∧ RF X.K (β ++ δ) H' ρ' σ' ∧ PostS TT X.K C W n β H (loopW (fun ρ m => evT cx cc ρ m) (fun ρ m => evSs cx cs ρ m) j ρ' m') D,
      ⟨WFUEL, hn, [], m, ρ, Grow.refl, by rw [BB.app_nil]; exact rep, by rw [BB.app_nil]; exact rf, hp⟩, ?_⟩
    rintro j σ' H' ⟨hl', δ, m', ρ', gr, r', f', hp⟩
    cases j with
    | zero => exact hp.elim
    | succ j =>
      unfold loopW at hp
      have hp2 := PostS.grow hp gr r'
      subst hn
      rw [← hl'] at hp2
      cases e : evT cx cc ρ' m' with
      | no => rw [e] at hp; exact hp.elim
      | ex ee m2 =>
        rw [e] at hp2
        refine ⟨_, m', ρ', r', f', ?_⟩
        rw [e]
        exact fun δ2 H2 dx g2 r2 x => hp2 δ2 H2 σ' dx g2 r2 (f'.grow g2) rfl x
      | ok b m2 =>
        rw [e] at hp
        refine ⟨_, m', ρ', r', f', ?_⟩
        rw [e]
        intro δ2 H2 b2 g2 r2 eb
        cases (show b = b2 from eb)
        have f2 := f'.grow g2
        rw [BB.app_assoc] at r2 f2
        have g3 := gr.trans g2 r'
        simp only [RS.of] at hp
        cases b with
        | false =>
          rw [if_neg Bool.false_ne_true]
          exact hp _ H2 σ' g3 r2 f2 hl'
        | true =>
          rw [if_pos rfl]
          rw [if_pos rfl] at hp
          exact ⟨fun σ'' H'' => σ''.length = σ.length ∧ ∃ δ m' ρ', Grow β H δ H'' ∧ RepS TT X.K (β ++ δ) H'' m' ∧ RF X.K (β ++ δ) H'' ρ' σ'' ∧ PostS TT X.K C W σ.length β H (loopW (fun ρ m => evT cx cc ρ m) (fun ρ m => evSs cx cs ρ m) j ρ' m') D,
            fun σ'' H'' h => ⟨j, by omega, h⟩, turn_body g3 r2 f2 hl' hp fun δ H2 σ2 ρ2 m2 g2 r2 f2 l2 p2 => ⟨l2, δ, m2, ρ2, g2, r2, f2, p2⟩⟩
end
end MN

set_option maxRecDepth 100000
set_option maxHeartbeats 4000000
/-! MnTry: try with several clauses, each with a name of its own or without. -/
namespace MN
open PySem PySem.Spec PyProof.Rows L2

/-- a clause: the class, the name's slot, the suite's reading -/
structure Cl where
  c : Value
  i : Option Nat
  ts : Addr → Value → Option Addr → TS
def Cl.go (k : Cl) (D : Ends) (a : Addr) (cls : Value) (d : Option Addr) (σ : L2.St) (H : Hp) : Prop := match k.i with
  | none => k.ts a cls d D σ H
  | some i => k.ts a cls d { nx := fun σ' H' => D.nx (σ'.set i none) H', rt := D.rt, bk := fun σ' H' => D.bk (σ'.set i none) H', ct := fun σ' H' => D.ct (σ'.set i none) H' } (σ.set i (some (.ref a))) H
def wCl (K : PySem.W.Frag) (Wo : WX) (D : Ends) : List Cl → WX
  | [] => Wo
  | k :: ks => fun cls d σ H => ∃ b, PySem.W.exmOne K cls k.c = some b ∧ (b = true → ∀ a, H a = none → k.go D a cls d σ H) ∧ (b = false → wCl K Wo D ks cls d σ H)
def SuiteOk (X : Cx) (s : List Stmt) (ts : Addr → Value → Option Addr → TS) : Prop :=
  ∀ (a : Addr) (oe : Obj) (cls : Value) (d : Option Addr) (pn : List (Addr × Obj)), Zc cls d oe → (∃ vs, oe.data = .fields vs) → PSs (X.suite a ((a, oe) :: pn)) s (ts a cls d)
inductive ClOk (X : Cx) : List ExceptHandler → List Cl → Prop
  | nil : ClOk X [] []
  | none {x : Str} {c : Value} {ts : Addr → Value → Option Addr → TS} {s0 : Stmt} {ss : List Stmt} {np hp : Pos} {hs : List ExceptHandler} {ks : List Cl} (hc : Names X x c) (hsu : SuiteOk X (s0 :: ss) ts) (r : ClOk X hs ks) :
      ClOk X (.ExceptHandler (some (.Name x np)) none (s0 :: ss) hp :: hs) (⟨c, none, ts⟩ :: ks)
  | some {x n : Str} {c : Value} {i : Nat} {ts : Addr → Value → Option Addr → TS} {s0 : Stmt} {ss : List Stmt} {np hp : Pos} {hs : List ExceptHandler} {ks : List Cl} (hc : Names X x c) (hi : X.N[i]? = some n) (hl : X.env.kindOf n = some .local) (hsu : SuiteOk X (s0 :: ss) ts) (r : ClOk X hs ks) :
      ClOk X (.ExceptHandler (some (.Name x np)) (some n) (s0 :: ss) hp :: hs) (⟨c, some i, ts⟩ :: ks)
section
variable {X : Cx} {pos : Pos} {Wo : WX} {D : Ends} {pins : List (Addr × Obj)}
/-- the clause's class is looked up -/
theorem test_cls {x : Str} {c : Value} {np : Pos} {a : Addr} {oe : Obj} {σ : L2.St} {H : Hp} {s : Shared} {Q : Value → Shared → Prop} {E : Value → Shared → Prop} (S : Inv (X.suite a ((a, oe) :: (X.pn ++ pins))) [] σ H s) (hc : Names X x c) (q : Q c s) :
    wpAny (model X.prog X.w) (X.A.mark (some (.ref a))) (eval (.Name x np) X.env) Q E s := by
  obtain ⟨h1, h2, h3⟩ := hc
  rcases h3 with h3 | ⟨h3, h4, h5⟩
  · exact ld_glob (X := X.suite a ((a, oe) :: (X.pn ++ pins))) S h1 h3 q h2
  · exact ld_blt (X := X.suite a ((a, oe) :: (X.pn ++ pins))) S h1 h3 h4 q h5 h2
/-- the exception at a has landed in s3 (raised behind sI): what the clauses come to -/
theorem cl_walk {B : Heap} {a : Addr} {cls : Value} {d : Option Addr} {sI s3 : Shared} {σ : L2.St} {H : Hp} (hst : X.stack = X.env :: X.outer) (hfr : X.env.frame = some X.env.locals) (hN : X.N.Nodup) (tk : Takes X Wo) (ok : X.Ok)
    (J : Inv X pins σ H sI) (nb : ∀ b o, sI.heap.get? b = some o → b ∉ frs X.stack → B.get? b = some o) (up : sI.heap.UpToSlots s3.heap) (fl : HandSPX.FlyingZ B (X.env :: X.outer) a (Zc cls d) s3.heap) (os : s3.os = sI.os) (ag : AllBare s3.gens) (na : H a = none) :
    ∀ {hs : List ExceptHandler} {ks : List Cl}, ClOk X hs ks → wCl X.K Wo D ks cls d σ H → wpAny (model X.prog X.w) X.A (handleBy (.ref a) X.env hs) (SP X pins D) X.xe s3 := by
  obtain ⟨hp, gs, dr, tk0, os0⟩ := s3
  have J3 : Inv X pins σ H ⟨hp, gs, dr, tk0, os0⟩ := J.landed nb fl.1 up os ag
  obtain ⟨oe, vs, he, hz, hd⟩ := fl.there
  have out : a ∉ frs (X.env :: X.outer) := fun hm => by
    obtain ⟨_, ob, e2, hnf⟩ := fl.2.2.1.mem hm
    rw [he] at e2
    cases e2
    exact hnf vs hd
  have nL : a ≠ X.env.locals := fun z => out (List.mem_filterMap.mpr ⟨X.env, List.mem_cons_self, by rw [hfr, z]⟩)
  have nF : a ∉ X.fs := fun hm => by
    obtain ⟨en, h1, h2⟩ := List.mem_filterMap.mp hm
    exact out (List.mem_filterMap.mpr ⟨en, List.mem_cons_of_mem _ h1, h2⟩)
  have S3 := J3.suite he hd na nL nF
  have suite : ∀ {s0 : List Stmt} {ts : Addr → Value → Option Addr → TS} {σ4 : L2.St} {s4 : Shared} {D4 : Ends} {oe4 : Obj} {vs4 : Array Value}, SuiteOk X s0 ts → Zc cls d oe4 → oe4.data = .fields vs4 → Inv (X.suite a ((a, oe4) :: (X.pn ++ pins))) [] σ4 H s4 → ts a cls d D4 σ4 H →
      wpAny (model X.prog X.w) (X.A.mark (some (.ref a))) (execs s0 X.env) (fun f s5 => SP (X.suite a ((a, oe4) :: (X.pn ++ pins))) [] D4 f s5) (fun _ _ => False) s4 := fun hsu hz4 hd4 S4 q =>
    (hsu a _ cls d (X.pn ++ pins) hz4 ⟨_, hd4⟩).run [] _ _ H _ S4 q
  intro hs ks hk
  induction hk with
  | nil =>
    intro w
    apply wpAny_handleBy_nil
    have fl2 := fl
    obtain ⟨_, _, _, oe2, vs2, T, oT, ts2, he2, _, hd2, h12, _⟩ := fl2
    unfold PySem.passOn
    apply wpAny_bind
    apply wpAny_field he2 hd2 h12
    rw [if_neg (show ¬ ((Value.ref T == Value.none) = true) by simp)]
    have up_on : wpAny (model X.prog X.w) X.A (setFlight (.ref a) X.env.frame) (fun _ s4 => wpAny (model X.prog X.w) X.A (throw (.ref a) : Sem Flow) (SP X pins D) X.xe s4) X.xe ⟨hp, gs, dr, tk0, os0⟩ := by
      rw [hfr]
      apply HandSPX.setFlight_upZ fl
      intro h4 held up4
      exact wpAny_throw (tk _ _ ⟨a, B, sI, pins, σ, H, cls, d, rfl, J, nb, up.trans up4, .inr (.inr (by rw [hst]; exact held)), na, os, ag, w⟩)
    first
      | exact wpAny_bind (wpAny_pure (wpAny_bind up_on))
      | exact wpAny_bind up_on
  | @none x c ts s0 ss np hpp hds2 ks2 hc hsu r ih =>
    intro w
    obtain ⟨b, hb, yes, no⟩ := w
    apply wpAny_handleBy_cons (codeAny_handlers_test ?_) (by intro q; cases q)
    apply test_cls S3 hc
    have LT : PySem.W.Looks (model X.prog X.w) hp (typeOf (.ref a)) cls := fun A2 Q2 E2 s2 k2 q2 => wpAny_typeOf_ref (k2 _ _ he) (by rw [hz.1]; exact q2)
    apply (PySem.W.exm_one (M := model X.prog X.w) J3.kIn LT hb).here
    cases b with
    | false => exact ih (no rfl)
    | true =>
      apply codeAny_handlers_suite
      apply HandSPX.lands_againZ fl
      intro h4 fl4 up4
      obtain ⟨oe4, vs4, he4, hz4, hd4⟩ := fl4.there
      have J4 : Inv X pins σ H ⟨h4, gs, dr, tk0, os0⟩ := J.landed nb fl4.1 (up.trans up4) os ag
      have S4 := J4.suite he4 hd4 na nL nF
      refine wpAny_mono (suite hsu hz4 hd4 S4 (yes rfl a na)) (fun f s6 q => ?_) fun _ _ z => z.elim
      cases f with
      | next => exact let ⟨σ6, H6, S6, q6⟩ := q; ⟨σ6, H6, S6.unsuite ok, q6⟩
      | brk => exact let ⟨σ6, H6, S6, q6⟩ := q; ⟨σ6, H6, S6.unsuite ok, q6⟩
      | cont => exact let ⟨σ6, H6, S6, q6⟩ := q; ⟨σ6, H6, S6.unsuite ok, q6⟩
      | ret u => exact let ⟨v6, σ6, H6, S6, r6, q6⟩ := q; ⟨v6, σ6, H6, S6.unsuite ok, r6, q6⟩
  | @some x n c i ts s0 ss np hpp hds2 ks2 hc hi hl hsu r ih =>
    intro w
    obtain ⟨b, hb, yes, no⟩ := w
    apply wpAny_handleBy_cons (codeAny_handlers_test ?_) (by intro q; cases q)
    apply test_cls S3 hc
    have LT : PySem.W.Looks (model X.prog X.w) hp (typeOf (.ref a)) cls := fun A2 Q2 E2 s2 k2 q2 => wpAny_typeOf_ref (k2 _ _ he) (by rw [hz.1]; exact q2)
    apply (PySem.W.exm_one (M := model X.prog X.w) J3.kIn LT hb).here
    cases b with
    | false => exact ih (no rfl)
    | true =>
      apply codeAny_handlers_suite_as
      apply HandSPX.lands_againZ fl
      intro h4 fl4 up4
      obtain ⟨oe4, vs4, he4, hz4, hd4⟩ := fl4.there
      have J4 : Inv X pins σ H ⟨h4, gs, dr, tk0, os0⟩ := J.landed nb fl4.1 (up.trans up4) os ag
      have S4 := J4.suite he4 hd4 na nL nF
      refine store_ok (X := X.suite a ((a, oe4) :: (X.pn ++ pins))) (v := .ref a) S4 hN hi (.inl hl) rfl (fun s5 S5 => ?_) (.inr hl)
      refine wpAny_mono (suite hsu hz4 hd4 S5 (yes rfl a na)) (fun f s6 q => ?_) fun _ _ z => z.elim
      have gone : ∀ {σ6 : L2.St} {H6 : Hp} {Q : Shared → Prop}, Inv (X.suite a ((a, oe4) :: (X.pn ++ pins))) [] σ6 H6 s6 → (∀ s7, Inv X pins (σ6.set i none) H6 s7 → Q s7) →
          wpAny (model X.prog X.w) X.A (do bindName X.env n .none; unbindBehindTheSuite X.env n hpp) (fun _ s7 => Q s7) X.xe s6 := fun S6 hq => gone_ok (S6.unsuite ok) hN hi hl hq
      cases f with
      | next => exact let ⟨σ6, H6, S6, q6⟩ := q; gone S6 fun s7 J7 => ⟨_, H6, J7, q6⟩
      | brk => exact let ⟨σ6, H6, S6, q6⟩ := q; gone S6 fun s7 J7 => ⟨_, H6, J7, q6⟩
      | cont => exact let ⟨σ6, H6, S6, q6⟩ := q; gone S6 fun s7 J7 => ⟨_, H6, J7, q6⟩
      | ret u => exact let ⟨v6, σ6, H6, S6, r6, q6⟩ := q; gone S6 fun s7 J7 => ⟨v6, _, H6, J7, r6, q6⟩
theorem ps_try_cl {body : List Stmt} {h0 : ExceptHandler} {hs : List ExceptHandler} {ks : List Cl} {tb : WX → TS} (hst : X.stack = X.env :: X.outer) (hfr : X.env.frame = some X.env.locals) (hN : X.N.Nodup) (tk : Takes X Wo)
    (hb : ∀ (W : WX) (pn : List (Addr × Obj)) (xe : Value → Shared → Prop), Takes (X.tr pn xe) W → PassesOwn (model X.prog X.w) X.A X.env xe → PSs (X.tr pn xe) body (tb W)) (hk : ClOk X (h0 :: hs) ks) :
    PS X (.Try body (h0 :: hs) [] [] pos) (fun D σ H => tb (wCl X.K Wo D ks) D σ H) := by
  constructor
  intro pins s σ H D I q
  have ok := I.ok
  apply wpAny_Try_except
  refine wpAny_mono ((hb (wCl X.K Wo D ks) (X.pn ++ pins) (fun e s1 => wpAny (model X.prog X.w) X.A (noteFrame e X.env) (fun _ s2 => wpAny (model X.prog X.w) X.A (setFlight e none) (fun _ s3 =>
    wpAny (model X.prog X.w) X.A (handleBy e X.env (h0 :: hs)) (SP X pins D) X.xe s3) X.xe s2) X.xe s1) (fun u s1 fly => ?_) PassesOwn.looking).run [] s σ H D (I.toTry _) q) (fun f s1 z => ?_) fun _ _ z => z
  · obtain ⟨a, B, sI, pins2, σ2, H2, cls, d, rfl, J2, nb, up, sky, na, os, ag, w⟩ := fly
    have sky2 : Sky B (X.env :: X.outer) a (Zc cls d) X.env.locals s1.heap := by rw [← hst]; exact sky
    show wpAny (model X.prog X.w) X.A (noteFrame (.ref a) X.env) _ _ _
    apply Sky.land Zc.steady (by rw [ok.frames, hst]) hfr sky2
    intro h3 fl3 up3
    exact cl_walk (s3 := { s1 with heap := h3 }) hst hfr hN tk ok (J2.ofTry ok) nb (up.trans up3) fl3 os ag na hk w
  · cases f with
    | next => exact let ⟨σ6, H6, S6, q6⟩ := z; wpAny_execs_nil ⟨σ6, H6, S6.ofTry ok, q6⟩
    | brk => exact let ⟨σ6, H6, S6, q6⟩ := z; ⟨σ6, H6, S6.ofTry ok, q6⟩
    | cont => exact let ⟨σ6, H6, S6, q6⟩ := z; ⟨σ6, H6, S6.ofTry ok, q6⟩
    | ret u => exact let ⟨v6, σ6, H6, S6, r6, q6⟩ := z; ⟨v6, σ6, H6, S6.ofTry ok, r6, q6⟩
end
end MN

set_option maxRecDepth 100000
set_option maxHeartbeats 4000000
/-! MnExc: raise, try, a caught error's fields. -/
namespace MN
open PySem PySem.Spec PyProof.Rows L2

theorem pe_never {X : Cx} {e : Expr} : PE X e (fun _ _ _ => False) := ⟨fun _ _ _ _ _ _ h => h.elim⟩
section
variable {X : Cx} {TT : TB} {C : CA} {E : L2.St → XK} {cx : Cxt} {pos p : Pos}
theorem so_fld {a : Addr} {oe : Obj} {cls : Value} {d : Option Addr} {pn : List (Addr × Obj)} {c : Str} {dd : Addr} (hz : Zc cls d oe) (hf : ∃ vs, oe.data = .fields vs) (hcls : cls = .ref (C c)) (hd : d = some dd) (her : TT.er = some (a, dd, c))
    {f : Str} (hef : cx.ef c f = true → XfC X.K (C c) ∧ PySem.W.findIn X.K (.ref (C c)) f = some none) {x : Str} {i : Nat} (hN : X.N[i]? = some x) (hv : Vis X.env.scope x) (hdb : (x == ("__debug__" : Str)) = false) (hcd : (x == ("__classdict__" : Str)) = false) :
    PE (X.suite a ((a, oe) :: pn)) (.Attribute (.Name x p) f pos) (tE TT X.K C E cx (.fld i f)) := by
  by_cases h : cx.ef c f = true
  · obtain ⟨T, hno⟩ := hef h
    refine pe_imp (pe_xf (X := X) T hno hz hf (pe_var (X := X.suite a ((a, oe) :: pn)) hN hv hdb hcd) rfl) fun σ H Q ⟨β, m, ρ, rep, rf, hp⟩ => ?_
    simp only [evE] at hp
    cases e : ρ[i]? with
    | none => rw [e] at hp; exact hp.elim
    | some o =>
      rw [e] at hp
      cases o with
      | none => exact hp.elim
      | some o =>
        cases o with
        | v _ => exact hp.elim
        | lam => exact hp.elim
        | err ee =>
          obtain ⟨a2, dd2, h1, h2, h3, fs, h4, h5⟩ := rf.err i ee e
          rw [rep.er, her] at h1
          cases h1
          dsimp only at hp
          rw [if_pos h] at hp
          cases el : ee.fs.lookup f with
          | none => rw [el] at hp; exact (show False from hp).elim
          | some y =>
            rw [el] at hp
            obtain ⟨v, g1, g2⟩ := h5 f y el
            exact ⟨_, h2, rfl, hcls, dd, fs, v, hd, h4, g1, Post.val (x := .d y) hp rep g2⟩
  · refine pe_imp pe_never fun σ H Q ⟨β, m, ρ, rep, rf, hp⟩ => ?_
    simp only [evE] at hp
    cases e : ρ[i]? with
    | none => rw [e] at hp; exact hp.elim
    | some o =>
      rw [e] at hp
      cases o with
      | none => exact hp.elim
      | some o =>
        cases o with
        | v _ => exact hp.elim
        | lam => exact hp.elim
        | err ee =>
          obtain ⟨a2, dd2, h1, h2, h3, fs, h4, h5⟩ := rf.err i ee e
          rw [rep.er, her] at h1
          cases h1
          dsimp only at hp
          rw [if_neg h] at hp
          exact hp.elim
/-! ### raise -/
theorem zip_lookup {K : PySem.W.Frag} {β : BB} {H : Hp} {f : Str} {x : PyData} : ∀ {fs : List Str} {ds : List PyData} {ys : List V}, DPs K β H ds ys → fs.Nodup → (fs.zip ds).lookup f = some x → ∃ v, (fs.zip ys).lookup f = some v ∧ DP K β H x v
  | [], _, _, _, _, h => by simp at h
  | g :: fs, _, _, .nil, _, h => by simp at h
  | g :: fs, _, _, .cons (v := v) h0 hs, hn, h => by
    rw [List.zip_cons_cons, List.lookup_cons] at h ⊢
    by_cases e : (f == g) = true
    · rw [e] at h ⊢
      cases h
      exact ⟨v, rfl, h0⟩
    · have e' : (f == g) = false := by simpa using e
      rw [e'] at h ⊢
      exact zip_lookup hs (List.nodup_cons.mp hn).2 h
theorem rev_lookup {α : Type} {f : Str} {x : α} : ∀ {l : List (Str × α)}, (l.map (·.1)).Nodup → l.lookup f = some x → l.reverse.lookup f = some x
  | [], _, h => by simp at h
  | (g, y) :: l, hn, h => by
    rw [List.reverse_cons]
    rw [List.map_cons, List.nodup_cons] at hn
    rw [List.lookup_cons] at h
    have app : ∀ (a b : List (Str × α)), (a ++ b).lookup f = (a.lookup f).or (b.lookup f) := by
      intro a b
      induction a with
      | nil => simp
      | cons p a ih =>
        rw [List.cons_append, List.lookup_cons, List.lookup_cons, ih]
        cases (f == p.1) <;> rfl
    rw [app]
    by_cases e : (f == g) = true
    · rw [e] at h
      cases h
      have none : l.reverse.lookup f = none := by
        rw [List.lookup_eq_none_iff]
        intro p hp
        have : p.1 ∈ l.map (·.1) := List.mem_map.mpr ⟨p, by simpa using hp, rfl⟩
        have eg : f = g := by simpa using e
        rw [eg]
        simp only [bne_iff_ne, ne_eq]
        intro z
        exact hn.1 (z ▸ this)
      rw [none]
      simp [List.lookup_cons, e]
    · have e' : (f == g) = false := by simpa using e
      rw [e'] at h
      rw [rev_lookup hn.2 h]
      rfl
theorem datas_len : ∀ {vs : List Val} {ds : List PyData}, datas? vs = some ds → vs.length = ds.length
  | [], _, e => by cases e; rfl
  | v :: vs, ds, e => by
    unfold datas? at e
    cases v with
    | loc n => simp [Val.data?] at e
    | d x =>
      cases q : datas? vs with
      | none => simp [Val.data?, q] at e
      | some ys =>
        simp [Val.data?, q] at e
        subst e
        rw [List.length_cons, List.length_cons, datas_len q]
theorem so_raise {T : Tbl} {G : Str → Option GK} {n nf : Nat} {W : WX} {x : Str} {es : List Expr} {cs : List CE} {rpos : Pos} (gf : GF T G TT C n X.prog X.w X.K X.mg X.base) (hr : Room (n + 2) X.A) (hc : X.calm = true) (tk : Takes X W) (hG : G x = some (.exc nf)) (hg : Gl X x)
    (hcall : cx.call = (cxt T n).call) (hx : Passes (L2.CX X.prog X.w) X (fun _ _ _ => False)) (ha : PA X es (tA TT X.K C (WE W) cx cs)) (hl : cs.length = nf) (hl0 : cs.length = es.length) (hns : ∀ e ∈ es, noStar e = true) :
    PS X (.Raise (some (.Call (.Name x p) es [] pos)) none rpos) (tS TT X.K C W cx (.raise x cs)) := by
  obtain ⟨d, fs, fI, fd, ps, hT, hexc, hfn, hm, oex, hinit, hty, hb, hps, hne, hnd, h1000, F⟩ := gf.exc x nf hG
  have hdb := (gf.nd x _ hG).1
  cases es with
  | nil =>
    exfalso
    have : cs.length = 0 := by rw [hl0]; rfl
    exact hne (List.eq_nil_of_length_eq_zero (by omega))
  | cons e es =>
    refine ps_imp (ps_raise hc tk (pmk_oex (dvs := []) oex hinit hty F (hr.mono (by omega)) hb .nil hx hg hm ha hdb (star_cons (hns e List.mem_cons_self)) (star_plain fun x hx => hns x (List.mem_cons_of_mem _ hx)).1)) fun D σ H ⟨β, m, ρ, rep, rf, hp⟩ => ?_
    simp only [evS] at hp
    refine ⟨β, m, ρ, rep, rf, ?_⟩
    cases ev : evEs cx cs ρ m with
    | no => rw [ev] at hp; exact hp.elim
    | ex ee m1 =>
      rw [ev] at hp
      exact fun δ H1 dx g r x => hp δ H1 σ dx g r (rf.grow g) rfl x
    | ok xs m1 =>
      rw [ev] at hp
      intro δ H1 vs g r q
      simp only [RS.of, hcall] at hp
      have hlx := evEs_len ev
      have rf1 := rf.grow g
      have pp := PostS.grow hp g r
      refine ⟨by rw [← q.length]; omega, fun a hna => ?_⟩
      cases n with
      | zero => exact pp.elim
      | succ n =>
        have er : (cxt T (n + 1)).call x xs m1 = (match datas? xs with
          | some ds => if ds.length = fs.length then .ex ⟨x, fs.zip ds⟩ m1 else .no
          | none => .no) := by
          show run T (cxt T n) x xs m1 = _
          unfold run
          rw [hT]
          dsimp only
          rw [hexc]
          all_goals rfl
        rw [er] at pp
        cases ed : datas? xs with
        | none => rw [ed] at pp; exact pp.elim
        | some ds =>
          rw [ed] at pp
          have hd := q.datas ed
          dsimp only at pp
          by_cases hz : ds.length = fs.length
          · rw [if_pos hz] at pp
            have hyl : vs.length = fs.length := by rw [← hd.length]; exact hz
            refine ⟨a, vs, by rw [List.append_nil], hyl, upd_same, fun dx hdx hda => ⟨rfl, dx, (fs.zip vs).reverse, upd_same, by rw [upd_ne hda]; exact upd_same, ?_, ?_⟩⟩
            · rw [upd_ne hda] at hdx
              exact hdx
            · have hdx' : H1 dx = none := by rw [upd_ne hda] at hdx; exact hdx
              have eH : upd (del (upd (upd (upd H1 a (exo a (C x) none)) dx (exd dx (fs.zip vs).reverse)) a (exo a (C x) (some dx))) a) dx (.xd (fs.zip vs).reverse) = upd H1 dx (.xd (fs.zip vs).reverse) := by
                funext b
                by_cases hb1 : b = dx
                · subst hb1
                  rw [upd_same, upd_same]
                · rw [upd_ne hb1, upd_ne hb1]
                  by_cases hb2 : b = a
                  · subst hb2
                    rw [del_same, hna]
                  · rw [del_ne hb2, upd_ne hb2, upd_ne hb1, upd_ne hb2]
              rw [eH]
              have gf1 := Grow.fresh (β := β ++ δ) (o := .xd (fs.zip vs).reverse) hdx'
              refine pp [] (upd H1 dx (.xd (fs.zip vs).reverse)) σ dx gf1 (by rw [BB.app_nil]; exact r.fresh hdx') (rf1.grow gf1) rfl ⟨_, upd_same, fun f y hy => ?_⟩
              obtain ⟨v, g1, g2⟩ := zip_lookup (hd.grow gf1) hnd hy
              refine ⟨v, rev_lookup ?_ g1, g2⟩
              have : (fs.zip vs).map (·.1) = fs := by
                rw [List.map_fst_zip]
                omega
              rw [this]
              exact hnd
          · rw [if_neg hz] at pp
            exact pp.elim
end

/-! ### try -/
def BB.set (β : BB) (q : Option (Addr × Addr × Str)) : BB := ⟨β.pos, β.out, q, β.act⟩
theorem BB.set_app (β : BB) (q : Option (Addr × Addr × Str)) (δ : List Addr) : β.set q ++ δ = (β ++ δ).set q := rfl
section
variable {TT : TB} {K : PySem.W.Frag} {C : CA} {β : BB} {H H1 : Hp} {δ : List Addr} {m : Store} {q : Option (Addr × Addr × Str)} {ρ : Fr} {σ : L2.St}
theorem RepS.setE (r : RepS TT K β H m) : RepS ⟨TT.tb, q, TT.lam⟩ K (β.set q) H m where
  nd := r.nd
  len := r.len
  outs := r.outs
  at_ := fun n a ob e h => by
    obtain ⟨u, e1, z, old⟩ := r.at_ n a ob e h
    exact ⟨u, e1, z.re (β := β) (γ := β.set q) (fun _ h _ => h) fun _ _ z => z, old⟩
  tabs := r.tabs
  er := rfl
  ac := r.ac
theorem RepS.unE {q0 : Option (Addr × Addr × Str)} (r : RepS ⟨TT.tb, q, TT.lam⟩ K (β.set q) H m) (h0 : β.err = TT.er) : RepS TT K β H m where
  nd := r.nd
  len := r.len
  outs := r.outs
  at_ := fun n a ob e h => by
    obtain ⟨u, e1, z, old⟩ := r.at_ n a ob e h
    exact ⟨u, e1, z.re (β := β.set q) (γ := β) (fun _ h _ => h) fun _ _ z => z, old⟩
  tabs := r.tabs
  er := h0
  ac := r.ac
theorem Grow.setE (g : Grow (β.set q) H δ H1) : Grow β H δ H1 := ⟨g.new, g.tup, g.frz, g.keep, g.tbl⟩
theorem RV.unE {x : Val} {v : V} (h : RV K (β.set q) H x v) : RV K β H x v := h.re (β := β.set q) (γ := β) (fun _ h _ => h) fun _ _ z => z
theorem LamAt.unE {L : LamRec} (h : LamAt K (β.set q) H L) : LamAt K β H L := h.re (β := β.set q) (γ := β) (fun _ h _ => h) fun _ _ z => z
theorem LamAt.setE {L : LamRec} (h : LamAt K β H L) : LamAt K (β.set q) H L := h.re (β := β) (γ := β.set q) (fun _ h _ => h) fun _ _ z => z
theorem RF.unE (h : RF K (β.set q) H ρ σ) (hn : noErr ρ = true) : RF K β H ρ σ where
  len := h.len
  val := fun i x e => by
    obtain ⟨v, z, r⟩ := h.val i x e
    exact ⟨v, z, r.unE⟩
  err := fun i e z => by
    unfold noErr at hn
    rw [List.all_eq_true] at hn
    have := hn _ (List.mem_of_getElem? z)
    cases this
  lam := fun i e => by
    obtain ⟨L, h1, h2, h3⟩ := h.lam i e
    exact ⟨L, h1, h2, h3.unE⟩
theorem RF.setE {i : Nat} {e : Exc} {a dx : Addr} (h : RF K β H ρ σ) (h0 : β.err = none) (hd : dx ∉ β.pos) (x : ExcAt K β H e dx) : RF K (β.set (some (a, dx, e.cls))) H (ρ.set i (some (.err e))) (σ.set i (some (.ref a))) where
  len := by rw [List.length_set, List.length_set]; exact h.len
  val := fun j y z => by
    rcases getElem?_set_cases z with ⟨rfl, hi, z⟩ | ⟨hj, z⟩
    · cases z
    · obtain ⟨v, q, r⟩ := h.val j y z
      exact ⟨v, by rw [List.getElem?_set_ne hj]; exact q, r.re (β := β) (γ := β.set (some (a, dx, e.cls))) (fun _ h _ => h) fun _ _ z => z⟩
  err := fun j y z => by
    rcases getElem?_set_cases z with ⟨rfl, hi, z⟩ | ⟨hj, z⟩
    · cases z
      exact ⟨a, dx, rfl, List.getElem?_set_self (Nat.lt_of_lt_of_le hi h.len), hd, x.re (β := β) (γ := β.set (some (a, dx, e.cls))) (fun _ h _ => h)⟩
    · obtain ⟨a2, dd2, h1, _⟩ := h.err j y z
      rw [h0] at h1
      cases h1
  lam := fun j z => by
    rcases getElem?_set_cases z with ⟨rfl, hi, z⟩ | ⟨hj, z⟩
    · cases z
    · obtain ⟨L, h1, h2, h3⟩ := h.lam j z
      exact ⟨L, h1, by rw [List.getElem?_set_ne hj]; exact h2, h3.setE⟩
theorem RF.setE0 (h : RF K β H ρ σ) (h0 : β.err = none) : RF K (β.set q) H ρ σ where
  len := h.len
  val := fun j y z => by
    obtain ⟨v, e, r⟩ := h.val j y z
    exact ⟨v, e, r.re (β := β) (γ := β.set q) (fun _ h _ => h) fun _ _ z => z⟩
  err := fun j y z => by
    obtain ⟨a2, dd2, h1, _⟩ := h.err j y z
    rw [h0] at h1
    cases h1
  lam := fun j z => by
    obtain ⟨L, h1, h2, h3⟩ := h.lam j z
    exact ⟨L, h1, h2, h3.setE⟩
end
/-- a clause's suite, in every context that it may meet -/
def SuiteS (TT : TB) (C : CA) (cx : Cxt) (X : Cx) (s : List Stmt) (cs : List CS) : Prop :=
  ∀ (a : Addr) (oe : Obj) (c : Str) (dd : Addr) (pn : List (Addr × Obj)), Zc (.ref (C c)) (some dd) oe → (∃ vs, oe.data = .fields vs) →
    PSs (X.suite a ((a, oe) :: pn)) s (tSs ⟨TT.tb, some (a, dd, c), TT.lam⟩ X.K C (fun _ _ _ _ => False) cx cs)
def tCl (TT : TB) (K : PySem.W.Frag) (C : CA) (cx : Cxt) (cs : List CS) : Addr → Value → Option Addr → TS := fun a cls d D σ H => ∃ c dd, cls = .ref (C c) ∧ d = some dd ∧ tSs ⟨TT.tb, some (a, dd, c), TT.lam⟩ K C (fun _ _ _ _ => False) cx cs D σ H
def clOf (TT : TB) (K : PySem.W.Frag) (C : CA) (cx : Cxt) (h : Str × Option Nat × List CS) : Cl := ⟨.ref (C h.1), h.2.1, tCl TT K C cx h.2.2⟩
section
variable {X : Cx} {TT : TB} {C : CA} {cx : Cxt} {pos : Pos}
theorem suite_ok {s : List Stmt} {cs : List CS} (h : SuiteS TT C cx X s cs) : SuiteOk X s (tCl TT X.K C cx cs) := fun a oe cls d pn hz hf => ⟨fun pins sh σ H D I ⟨c, dd, hc, hd, q⟩ => by
  subst hc hd
  exact (h a oe c dd pn hz hf).run pins sh σ H D I q⟩
theorem ss_try {Wo : WX} {body : List Stmt} {h0 : ExceptHandler} {hs : List ExceptHandler} {cb : List CS} {chs : List (Str × Option Nat × List CS)} (hst : X.stack = X.env :: X.outer) (hfr : X.env.frame = some X.env.locals) (hN : X.N.Nodup) (tk : Takes X Wo) (h0e : TT.er = none)
    (hisE : ∀ c c' b, cx.isE c c' = some b → PySem.W.exmOne X.K (.ref (C c)) (.ref (C c')) = some b)
    (hb : ∀ (W : WX) (pn : List (Addr × Obj)) (xe : Value → Shared → Prop), Takes (X.tr pn xe) W → PassesOwn (model X.prog X.w) X.A X.env xe → PSs (X.tr pn xe) body (tSs TT X.K C W cx cb)) (hk : ClOk X (h0 :: hs) (chs.map (clOf TT X.K C cx))) :
    PS X (.Try body (h0 :: hs) [] [] pos) (tS TT X.K C Wo cx (.try_ cb chs)) :=
  ps_imp (ps_try_cl (tb := fun W => tSs TT X.K C W cx cb) hst hfr hN tk hb hk) fun D σ H ⟨β, m, ρ, rep, rf, hp⟩ => by
    simp only [evS] at hp
    refine ⟨β, m, ρ, rep, rf, ?_⟩
    generalize hn : σ.length = n at hp
    cases ev : evSs cx cb ρ m with
    | no => rw [ev] at hp; exact hp
    | nx _ _ => rw [ev] at hp; exact hp
    | rt _ _ => rw [ev] at hp; exact hp
    | bk _ _ => rw [ev] at hp; exact hp
    | ct _ _ => rw [ev] at hp; exact hp
    | ex e ρ1 m1 =>
      rw [ev] at hp
      dsimp only at hp
      intro δ H1 σ1 dx g r f l xat
      have hβ : (β ++ δ).err = none := by rw [r.er]; exact h0e
      have hdx : dx ∉ (β ++ δ).pos := fun z => by
        obtain ⟨fs, h1, _⟩ := xat
        obtain ⟨u, h2, h3⟩ := r.there (.inl z)
        rw [h1] at h2
        cases h2
        rcases h3 with ⟨_, h3⟩ | ⟨_, h3⟩ <;> cases h3
      refine (?_ : ∀ chs, PostS TT X.K C Wo n β H (evHs cx e chs ρ1 m1) D → wCl X.K Wo D (chs.map (clOf TT X.K C cx)) (.ref (C e.cls)) (some dx) σ1 H1) chs hp
      clear hk hp
      intro chs
      induction chs with
      | nil => exact fun hp => hp δ H1 σ1 dx g r f l xat
      | cons ch chs ih =>
        intro hp
        obtain ⟨c, i, s⟩ := ch
        unfold evHs at hp
        cases eb : cx.isE e.cls c with
        | none => rw [eb] at hp; exact hp.elim
        | some b =>
          rw [eb] at hp
          refine ⟨b, hisE _ _ _ eb, ?_, ?_⟩
          · rintro rfl a hna
            cases i with
            | some i =>
              refine ⟨e.cls, dx, rfl, rfl, (β ++ δ).set (some (a, dx, e.cls)), m1, exIn (some i) e ρ1, r.setE, f.setE hβ hdx xat, ?_⟩
              rw [List.length_set, l]
              dsimp only at hp
              have key : ∀ {δ2 : List Addr} {H2 : Hp}, Grow ((β ++ δ).set (some (a, dx, e.cls))) H1 δ2 H2 → Grow β H (δ ++ δ2) H2 := fun g2 => g.trans g2.setE r
              have keyR : ∀ {δ2 : List Addr} {H2 : Hp} {m2 : Store}, RepS ⟨TT.tb, some (a, dx, e.cls), TT.lam⟩ X.K ((β ++ δ).set (some (a, dx, e.cls)) ++ δ2) H2 m2 → RepS TT X.K (β ++ (δ ++ δ2)) H2 m2 := fun {δ2 H2 m2} r2 => by
                rw [← BB.app_assoc]
                exact RepS.unE (q0 := none) (q := some (a, dx, e.cls)) (β := β ++ δ ++ δ2) r2 (by show (β ++ δ).err = _; rw [hβ, h0e])
              have keyF : ∀ {δ2 : List Addr} {H2 : Hp} {ρ2 : Fr} {σ2 : L2.St}, RF X.K ((β ++ δ).set (some (a, dx, e.cls)) ++ δ2) H2 ρ2 σ2 → noErr (ρ2.set i none) = true → RF X.K (β ++ (δ ++ δ2)) H2 (ρ2.set i none) (σ2.set i none) := fun {δ2 H2 ρ2 σ2} f2 hne => by
                rw [← BB.app_assoc]
                exact RF.unE (q := some (a, dx, e.cls)) (β := β ++ δ ++ δ2) f2.unset hne
              cases ev2 : evSs cx s (exIn (some i) e ρ1) m1 with
              | no => rw [ev2] at hp; exact hp
              | ex _ _ _ => rw [ev2] at hp; exact hp.elim
              | rt x m2 =>
                rw [ev2] at hp
                intro δ2 H2 v g2 r2 q2
                refine hp (δ ++ δ2) H2 v (key g2) (keyR r2) ?_
                rw [← BB.app_assoc]
                exact RV.unE (q := some (a, dx, e.cls)) (β := β ++ δ ++ δ2) q2
              | nx ρ2 m2 =>
                rw [ev2] at hp
                dsimp only at hp
                split at hp
                · rename_i hne
                  exact fun δ2 H2 σ2 g2 r2 f2 l2 => hp (δ ++ δ2) H2 _ (key g2) (keyR r2) (keyF f2 hne) (by rw [List.length_set]; exact l2)
                · exact hp.elim
              | bk ρ2 m2 =>
                rw [ev2] at hp
                dsimp only at hp
                split at hp
                · rename_i hne
                  exact fun δ2 H2 σ2 g2 r2 f2 l2 => hp (δ ++ δ2) H2 _ (key g2) (keyR r2) (keyF f2 hne) (by rw [List.length_set]; exact l2)
                · exact hp.elim
              | ct ρ2 m2 =>
                rw [ev2] at hp
                dsimp only at hp
                split at hp
                · rename_i hne
                  exact fun δ2 H2 σ2 g2 r2 f2 l2 => hp (δ ++ δ2) H2 _ (key g2) (keyR r2) (keyF f2 hne) (by rw [List.length_set]; exact l2)
                · exact hp.elim
            | none =>
              refine ⟨e.cls, dx, rfl, rfl, (β ++ δ).set (some (a, dx, e.cls)), m1, exIn none e ρ1, r.setE, f.setE0 hβ, ?_⟩
              rw [l]
              dsimp only at hp
              have key : ∀ {δ2 : List Addr} {H2 : Hp}, Grow ((β ++ δ).set (some (a, dx, e.cls))) H1 δ2 H2 → Grow β H (δ ++ δ2) H2 := fun g2 => g.trans g2.setE r
              have keyR : ∀ {δ2 : List Addr} {H2 : Hp} {m2 : Store}, RepS ⟨TT.tb, some (a, dx, e.cls), TT.lam⟩ X.K ((β ++ δ).set (some (a, dx, e.cls)) ++ δ2) H2 m2 → RepS TT X.K (β ++ (δ ++ δ2)) H2 m2 := fun {δ2 H2 m2} r2 => by
                rw [← BB.app_assoc]
                exact RepS.unE (q0 := none) (q := some (a, dx, e.cls)) (β := β ++ δ ++ δ2) r2 (by show (β ++ δ).err = _; rw [hβ, h0e])
              have keyF : ∀ {δ2 : List Addr} {H2 : Hp} {ρ2 : Fr} {σ2 : L2.St}, RF X.K ((β ++ δ).set (some (a, dx, e.cls)) ++ δ2) H2 ρ2 σ2 → noErr ρ2 = true → RF X.K (β ++ (δ ++ δ2)) H2 ρ2 σ2 := fun {δ2 H2 ρ2 σ2} f2 hne => by
                rw [← BB.app_assoc]
                exact RF.unE (q := some (a, dx, e.cls)) (β := β ++ δ ++ δ2) f2 hne
              cases ev2 : evSs cx s (exIn none e ρ1) m1 with
              | no => rw [ev2] at hp; exact hp
              | ex _ _ _ => rw [ev2] at hp; exact hp.elim
              | rt x m2 =>
                rw [ev2] at hp
                intro δ2 H2 v g2 r2 q2
                refine hp (δ ++ δ2) H2 v (key g2) (keyR r2) ?_
                rw [← BB.app_assoc]
                exact RV.unE (q := some (a, dx, e.cls)) (β := β ++ δ ++ δ2) q2
              | nx ρ2 m2 =>
                rw [ev2] at hp
                dsimp only at hp
                split at hp
                · rename_i hne
                  exact fun δ2 H2 σ2 g2 r2 f2 l2 => hp (δ ++ δ2) H2 _ (key g2) (keyR r2) (keyF f2 hne) l2
                · exact hp.elim
              | bk ρ2 m2 =>
                rw [ev2] at hp
                dsimp only at hp
                split at hp
                · rename_i hne
                  exact fun δ2 H2 σ2 g2 r2 f2 l2 => hp (δ ++ δ2) H2 _ (key g2) (keyR r2) (keyF f2 hne) l2
                · exact hp.elim
              | ct ρ2 m2 =>
                rw [ev2] at hp
                dsimp only at hp
                split at hp
                · rename_i hne
                  exact fun δ2 H2 σ2 g2 r2 f2 l2 => hp (δ ++ δ2) H2 _ (key g2) (keyR r2) (keyF f2 hne) l2
                · exact hp.elim
          · rintro rfl
            exact ih hp
end
end MN

set_option maxRecDepth 100000
set_option maxHeartbeats 4000000
/-! MnIsx: isinstance of a caught error. -/
namespace MN
open PySem PySem.Spec PyProof.Rows L2
section
variable {X : Cx} {TT : TB} {C : CA} {E : L2.St → XK} {cx : Cxt} {pos p px py : Pos}
/-- the error at a, of the class D, with the dict dd -/
def rIsX (K : PySem.W.Frag) (D a dd : Addr) : List V → Hp → VK → Prop := fun xs H Q => ∃ (c : Addr) (b : Bool) (fs : List (Str × V)), xs = [.ref a, .ref c] ∧ IsC K D c b ∧ H dd = some (.xd fs) ∧ Q (.bl b) H
theorem call_isX {a D dd : Addr} {oe : Obj} {pn : List (Addr × Obj)} (hz : Zc (.ref D) (some dd) oe) (hf : ∃ vs, oe.data = .fields vs) : CallR (X.suite a ((a, oe) :: pn)) (.builtin "isinstance") (rIsX X.K D a dd) := by
  intro pins s σ H xs us Q I r h
  obtain ⟨c, b, fs, rfl, T, hdd, q⟩ := h
  obtain ⟨u1, u2, rfl, r1, r2⟩ := vals2 r
  obtain rfl : u1 = Value.ref a := r1
  obtain rfl : u2 = Value.ref c := r2
  obtain ⟨hget, _⟩ := I.pin (a, oe) (List.mem_append_left _ List.mem_cons_self)
  obtain ⟨vs, hv⟩ := hf
  have hx : ObjOk X.prog X.w H s.heap dd (.xd fs) := I.hok dd _ hdd
  obtain ⟨mA, hns, _⟩ := hx
  obtain ⟨od, ho, _⟩ := lookIn_ns hns
  have J : PySem.W.InstAt s.heap a oe D (some od) := ⟨hget, hz.1, by unfold PySem.W.notCls; rw [hv] <;> rfl, by rw [hz.2]; exact ho⟩
  exact PySem.W.kia_one (PySem.W.kitx_exc T.cl T.ga T.gt T.sb T.ha T.hn T.tk T.mr) I.kIn J T.one (fun z => nomatch z) fun tk => ⟨.bl b, H, I.kept (t' := tk) fun _ _ z => z, rfl, q⟩
theorem so_isx {a : Addr} {oe : Obj} {pn : List (Addr × Obj)} {c : Str} {dd : Addr} (hz : Zc (.ref (C c)) (some dd) oe) (hf : ∃ vs, oe.data = .fields vs) (her : TT.er = some (a, dd, c)) {x y : Str} (hi : ∀ b, cx.isE c y = some b → IsC X.K (C c) (C y) b)
    {i : Nat} (hN : X.N[i]? = some x) (hv : Vis X.env.scope x) (hdb : (x == ("__debug__" : Str)) = false) (hcd : (x == ("__classdict__" : Str)) = false) (hgy : Gl X y) (hmy : X.mg y = some (.ref (C y))) (hdy : (y == ("__debug__" : Str)) = false)
    (hg : Gl X "isinstance") (hm : X.mg "isinstance" = none) : PE (X.suite a ((a, oe) :: pn)) (.Call (.Name "isinstance" p) [.Name x px, .Name y py] [] pos) (tE TT X.K C E cx (.isx i y)) := by
  have e1 : starEach [Expr.Name y py] X.env = (false, eval (.Name y py) X.env) :: starEach [] X.env := rfl
  have e2 : starEach [Expr.Name x px, Expr.Name y py] X.env = (false, eval (.Name x px) X.env) :: starEach [Expr.Name y py] X.env := rfl
  have hpa : PA (X.suite a ((a, oe) :: pn)) [.Name x px, .Name y py] (tCons (tVar i) (tCons (tC (.ref (C y))) tNil)) := pa_cons (pe_var (X := X.suite a ((a, oe) :: pn)) hN hv hdb hcd) (pa_cons (pe_glob (X := X.suite a ((a, oe) :: pn)) hgy hmy rfl hdy) pa_nil e1) e2
  refine pe_imp (pe_callB (X := X.suite a ((a, oe) :: pn)) (call_isX (X := X) hz hf) hg hm PyProof.Rows.boot_isinstance hpa (by decide) (by decide) e2 rfl) fun σ H Q ⟨β, m, ρ, rep, rf, hp⟩ => ?_
  simp only [evE] at hp
  cases e : ρ[i]? with
  | none => rw [e] at hp; exact hp.elim
  | some o =>
    rw [e] at hp
    cases o with
    | none => exact hp.elim
    | some o =>
      cases o with
      | v _ => exact hp.elim
      | lam => exact hp.elim
      | err ee =>
        obtain ⟨a2, dd2, h1, h2, h3, fs, h4, h5⟩ := rf.err i ee e
        rw [rep.er, her] at h1
        cases h1
        dsimp only at hp
        cases eb : cx.isE ee.cls y with
        | none => rw [eb] at hp; exact (show False from hp).elim
        | some b =>
          rw [eb] at hp
          exact ⟨_, h2, C y, b, fs, rfl, hi b eb, h4, Post.val (x := .d (.bool b)) hp rep (.bl b)⟩
end
end MN

set_option maxRecDepth 100000
set_option maxHeartbeats 4000000
/-! MnLam: a lambda without parameters that is handed to a def. -/
namespace MN
open PySem PySem.Spec PyProof.Rows L2
/-- behind the making of a lambda: nothing new, or a code object more and its row in the table -/
def Made (H : Hp) (P cn : Addr) (q : Str) (H1 : Hp) : Prop := H1 = H ∨ ∃ tb tb1 : Array Value, H P = some (.tbl tb) ∧ H cn = none ∧ H1 = upd (upd H P (.tbl tb1)) cn (LamX.CodeO cn q)
abbrev lamO (X : Cx) (params : Arguments) (body : Expr) (scope : Scope) (pm : Value) (cn : Addr) (ct : Value) : Obj := PySem.W.kla_obj "<lambda>" (X.env.qual ++ "<lambda>") params body scope (cloFrom X.env.cells scope.names []) pm cn ct
section
variable {X : Cx} {pins : List (Addr × Obj)} {σ : L2.St} {H : Hp} {s : Shared}
theorem lam_made {c P : Addr} {params : Arguments} {body : Expr} {scope : Scope} {pos : Pos} {E Q : Value → Shared → Prop} (I : Inv X pins σ H s) (B : LamX.TabB X.base X.mg c P) (hc : X.env.code = .ref c) (hT : LamX.TabS H P (X.env.qual ++ "<lambda>"))
    (hd : defaultsOf params X.env = ([], [])) (hf : ∀ y ∈ scope.names, y.2 = .free → ∃ a, X.env.cells.lookup y.1 = some a)
    (k : ∀ (f cn : Addr) (pm ct : Value) (H1 : Hp) (s1 : Shared), Inv X pins σ H1 s1 → Made H P cn (X.env.qual ++ "<lambda>") H1 → LamX.TabS H1 P (X.env.qual ++ "<lambda>") → s1.heap.get? f = some (lamO X params body scope pm cn ct) → H1 f = none → f ∉ frs X.stack →
      H1 cn = some (LamX.CodeO cn (X.env.qual ++ "<lambda>")) → Q (.ref f) s1) :
    wpAny (model X.prog X.w) X.A (eval (.Lambda params body scope pos) X.env) Q E s := by
  obtain ⟨tb, e1, e2, e3⟩ := hT
  have hbi := B.bm.keeps I.bk
  have hobj : s.heap.get? P = some { cls := .none, data := .fields tb } := I.hok P _ e1
  have far : ∀ f, s.heap.objs.size ≤ f → f ∉ frs X.stack := fun f le z => (List.mem_cons.mp (I.stkSub _ z)).elim (fun e => by
    have h1 := I.lt
    rw [← e] at h1
    exact absurd (Nat.lt_of_lt_of_le h1 le) (Nat.lt_irrefl f)) fun e => I.nofs le e
  refine PySem.W.kla_eval hd ?_
  cases q : codeAmong pos tb.toList with
  | some cv =>
    obtain ⟨cn, rfl, hco⟩ := e3 pos cv q
    exact PySem.W.kla_makeFunctionHit (c := c) (P := P) (ps := tb) (mg := X.mg) (closure_ok hf) I.ok.glob (I.mod.glob.keeps I.bk) hc (B.code.keeps I.bk) hobj e2 q hbi fun ct h' tk hx _ =>
      k h'.objs.size cn _ ct H _ (I.kept fun b o e => Heap.get?_push_of_some _ (hx b o e)) (.inl rfl) ⟨tb, e1, e2, e3⟩ (Heap.get?_push_size _ rfl) (I.hok.fresh (by assumption)) (far _ (by assumption)) hco
  | none =>
    refine PySem.W.kla_makeFunction (c := c) (P := P) (ps := tb) (mg := X.mg) (closure_ok hf) I.ok.glob (I.mod.glob.keeps I.bk) hc (B.code.keeps I.bk) hobj e2 q B.gP hbi fun cn ct h' tk hx hge hlt hrec htb => ?_
    obtain ⟨c2, oc, vs, t, ec, hoc, hdat, hv⟩ := hrec
    cases ec
    have nC : H cn = none := I.hok.fresh hge
    have neP : P ≠ cn := ne_of_none e1 nC
    have hsz : s.heap.objs.size ≤ h'.objs.size := Nat.le_trans hge (Nat.le_of_lt hlt)
    have sP : P < s.heap.objs.size := Heap.lt_size hobj
    let tb1 : Array Value := tb ++ #[rawInt pos.line, rawInt pos.col, .ref cn]
    have atP : upd (upd H P (.tbl tb1)) cn (LamX.CodeO cn (X.env.qual ++ "<lambda>")) P = some (.tbl tb1) := by rw [upd_ne neP, upd_same]
    have snoc : tb1.toList = tb.toList ++ [rawInt pos.line, rawInt pos.col, .ref cn] := by simp [tb1]
    have I1 := LamX.inv_table (t' := tk) (more := #[rawInt pos.line, rawInt pos.col, .ref cn]) (h' := h'.push (lamO X params body scope ((X.mg "__name__").getD .none) cn ct)) I e1 (fun b o hb e => Heap.get?_push_of_some _ (hx b o hb e)) (Heap.get?_push_of_some _ htb) hge ⟨oc, vs, t, Heap.get?_push_of_some _ hoc, hdat, hv⟩
    refine k h'.objs.size cn _ ct _ _ I1 (.inr ⟨tb, tb1, e1, nC, rfl⟩) ⟨tb1, atP, by rw [snoc]; exact PySem.TriplesOk_snoc _ _ _ _ e2, fun p2 cv hcv => ?_⟩ (Heap.get?_push_size _ rfl) ?_ (far _ hsz) upd_same
    · rw [snoc] at hcv
      rcases LamX.among_app _ e2 hcv with z | z
      · obtain ⟨c0, r1, r2⟩ := e3 p2 cv z
        have n1 : c0 ≠ cn := ne_of_none r2 nC
        have n2 : c0 ≠ P := fun z => by
          rw [z, e1] at r2
          exact LamX.codeO_ne _ (Option.some.inj r2).symm
        exact ⟨c0, r1, by rw [upd_ne n1, upd_ne n2]; exact r2⟩
      · exact ⟨cn, z, upd_same⟩
    · rw [upd_ne (Nat.ne_of_gt hlt), upd_ne (Nat.ne_of_gt (Nat.lt_of_lt_of_le sP hsz))]
      exact I.hok.fresh hsz
/-- the lambda is called, in the def to which it was handed -/
theorem lam_act {Eg : XK} {Ng : List Str} {qg : Str} {sg : Scope} {g f cn : Addr} {cdg pm ct : Value} {params : Arguments} {body : Expr} {scope : Scope} {k i : Nat} {a : Str} {pn : List (Addr × Obj)} {xe : Value → Shared → Prop} {W : WX} {tb : XK → TE} {p1 p2 : Pos}
    (I : Inv X pins σ H s) (S : LamX.LamS X.env.scope scope) (hf : s.heap.get? f = some (lamO X params body scope pm cn ct)) (hn : H f = none) (far : f ∉ frs X.stack)
    (hb : bindArgs (PySem.W.kla_fn "<lambda>" (X.env.qual ++ "<lambda>") params body scope (cloFrom X.env.cells scope.names []) pm (.ref cn) ct) ⟨[], []⟩ = pure [])
    (tk : Takes ((cxOf (L2.CX X.prog X.w) X.prog X.w X.K X.mg X.base Ng qg sg g cdg X.A X.stack s H Eg).tr pn xe) W) (hr : Room (k + 1) (X.A.deeper (envOfC qg sg s.heap.objs.size g cdg)))
    (run : ∀ (outer : List Env) (s2 : Shared) (H2 : Hp) (E : XK), Room k ((X.A.deeper (envOfC qg sg s.heap.objs.size g cdg)).deeper (LamX.lamEnv X scope s2.heap.objs.size f cn)) → PE (LamX.lamCx X (X.A.deeper (envOfC qg sg s.heap.objs.size g cdg)) outer s2 H2 E scope f cn) body (tb E))
    (hN : Ng[i]? = some a) (hv : Vis sg a) (hd : (a == ("__debug__" : Str)) = false) (hcd : (a == ("__classdict__" : Str)) = false) :
    PE ((cxOf (L2.CX X.prog X.w) X.prog X.w X.K X.mg X.base Ng qg sg g cdg X.A X.stack s H Eg).tr pn xe) (.Call (.Name a p1) [] [] p2)
      (fun τ G Q => τ[i]? = some (some (.ref f)) ∧ G cn = some (LamX.CodeO cn (X.env.qual ++ "<lambda>")) ∧ tb (WE W τ) σ G Q) := by
  refine ⟨fun pz sz τ G Q J ⟨h1, h2, h3⟩ => ?_⟩
  refine wpAny_Call_Name_kw (thn ((pe_var (pos := p1) (i := i) hN hv hd hcd).run pz sz τ G (fun v G1 => v = .ref f ∧ G1 = G) J ⟨.ref f, h1, rfl, rfl⟩) fun u s1 ⟨v, G1, J1, r1, ev, eG⟩ => ?_)
  subst ev eG
  obtain rfl : u = Value.ref f := r1
  have live : s1.heap.get? f = some (lamO X params body scope pm cn ct) := J1.base.keep f _ hf hn far (fun z => by cases z)
  refine PySem.W.callWith_F0 ⟨_, _, _, _, live⟩ ?_
  obtain ⟨⟨oc, vs, t, o1, o2, o3⟩, _, _⟩ := J1.hok cn _ h2
  have old : Un (frs X.stack) [] H G1 s.heap s1.heap := J1.base
  have inside : codeAny (model X.prog X.w) (X.A.deeper (envOfC qg sg s.heap.objs.size g cdg)) (.call (.ref f) ⟨[], []⟩) (CR (L2.CX X.prog X.w) (envOfC qg sg s.heap.objs.size g cdg :: X.stack) X.prog X.w G1 s1 Q (WE W τ)) s1 := by
    refine PySem.W.kla_callFunE hr.depth live rfl S.co S.gen rfl ⟨cn, oc, vs, t, rfl, o1, o2, o3⟩ ?_
    rw [hb]
    refine wpAny_pure (wpAny_newFunctionEnv (fun y hy => (S.own y hy).2) (fun y hy => by cases hy) (fun h2 hns hsb => ⟨J1.nolimit.fresh _ hsb, ?_⟩) S.kind)
    have more : ∀ b o, s1.heap.get? b = some o → h2.get? b = some o := fun b o e => hsb.extBut b o (Nat.ne_of_lt (Heap.lt_size e)) (Heap.get?_push_of_some _ e)
    have J2 := LamX.lam_start2 (A := X.A.deeper (envOfC qg sg s.heap.objs.size g cdg)) (outer := envOfC qg sg s.heap.objs.size g cdg :: X.stack) (E := WE W τ) (f := f) (c' := cn) (tk := s1.toks + ([] : List (Str × Value)).length) I S J1.env0 hr.hd old hns more
    exact PySem.W.kla_codeExpr (wpAny_mono ((run _ s1 G1 (WE W τ) (hr.deeper _)).run [] _ _ G1 Q J2 h3) (fun v s3 ⟨w, G2, J3, rv, q⟩ => ⟨w, G2, J3.os, J3.bare, J3.base, J3.hok, rv, q⟩) fun e s3 hq => hq)
  refine wpAny_call (codeAny_mono inside fun r s3 hq => ?_)
  match r, hq with
  | .error e, hq => exact passAt tk τ pz G1 s1 e s3 J1 hq
  | .ok (.ret u), hq => exact J1.after hq
  | .ok .next, hq => exact hq.elim
  | .ok .brk, hq => exact hq.elim
  | .ok .cont, hq => exact hq.elim
end
/-! ### x(lambda: body) -/
def BB.setA (β : BB) (L : Option LamRec) : BB := ⟨β.pos, β.out, β.err, L⟩
section
variable {TT : TB} {K : PySem.W.Frag} {C : CA} {β : BB} {H H1 : Hp} {δ : List Addr} {m : Store} {L L0 : Option LamRec} {ρ : Fr} {σ : L2.St}
theorem RepS.setA (r : RepS TT K β H m) (h : TT.er = none) : RepS ⟨TT.tb, none, L⟩ K (β.setA L) H m where
  nd := r.nd
  len := r.len
  outs := r.outs
  at_ := fun n a ob e h => by
    obtain ⟨u, e1, z, old⟩ := r.at_ n a ob e h
    exact ⟨u, e1, z.re (β := β) (γ := β.setA L) (fun _ h _ => h) fun _ _ z => z, old⟩
  tabs := r.tabs
  er := r.er.trans h
  ac := rfl
theorem RepS.unA (r : RepS ⟨TT.tb, none, L⟩ K (β.setA L) H m) (h : TT.er = none) (hl : β.act = TT.lam) : RepS TT K β H m where
  nd := r.nd
  len := r.len
  outs := r.outs
  at_ := fun n a ob e h => by
    obtain ⟨u, e1, z, old⟩ := r.at_ n a ob e h
    exact ⟨u, e1, z.re (β := β.setA L) (γ := β) (fun _ h _ => h) fun _ _ z => z, old⟩
  tabs := r.tabs
  er := r.er.trans h.symm
  ac := hl
theorem Grow.unA (g : Grow (β.setA L) H δ H1) : Grow β H δ H1 := ⟨g.new, g.tup, g.frz, g.keep, g.tbl⟩
theorem RV.unA {x : Val} {v : V} (h : RV K (β.setA L) H x v) : RV K β H x v := h.re (β := β.setA L) (γ := β) (fun _ h _ => h) fun _ _ z => z
theorem ExcAt.unA {e : Exc} {dx : Addr} (h : ExcAt K (β.setA L) H e dx) : ExcAt K β H e dx := h.re (β := β.setA L) (γ := β) (fun _ h _ => h)
theorem RF0.setA (h : RF0 K β H ρ σ) : RF0 K (β.setA L) H ρ σ := h.re (β := β) (γ := β.setA L) (fun _ h _ => h) fun _ _ z => z
theorem Post.unA {r : R Val} {Q : VK} {QE : XK} (h : Post TT K C (RV K) β H r Q QE) (h0 : TT.er = none) (hl : β.act = TT.lam) : Post ⟨TT.tb, none, L⟩ K C (RV K) (β.setA L) H r Q QE := by
  cases r with
  | ok a m1 => exact fun δ H1 v g r q => h δ H1 v g.unA (RepS.unA (β := β ++ δ) (L := L) r h0 hl) (RV.unA (β := β ++ δ) (L := L) q)
  | ex e m1 => exact fun δ H1 dx g r x => h δ H1 dx g.unA (RepS.unA (β := β ++ δ) (L := L) r h0 hl) (ExcAt.unA (β := β ++ δ) (L := L) x)
  | no => exact h
/-- what was made leaves all else -/
theorem made_grow {P cn : Addr} {q : Str} (h : Made H P cn q H1) : Grow β H [] H1 := by
  rcases h with rfl | ⟨tb, tb1, e1, e2, rfl⟩
  · exact Grow.refl
  · have at_ : ∀ b o, H b = some o → b ≠ P → upd (upd H P (.tbl tb1)) cn (LamX.CodeO cn q) b = some o := fun b o e n => by rw [upd_ne (ne_of_none e e2), upd_ne n, e]
    have nP : ∀ b o, H b = some o → (∀ ps, o ≠ .tbl ps) → b ≠ P := fun b o e n z => by
      rw [z, e1] at e
      exact n tb (Option.some.inj e).symm
    refine ⟨(fun _ z => by cases z), fun a xs e => at_ a _ e (nP a _ e fun _ z => by cases z), fun a o u e => at_ a _ e (nP a _ e fun _ z => by cases z), fun a o e _ n => at_ a _ e (nP a _ e n), fun a ps e => ?_⟩
    by_cases z : a = P
    · exact ⟨tb1, by rw [z, upd_ne (ne_of_none e1 e2), upd_same]⟩
    · exact ⟨ps, at_ a _ e z⟩
theorem made_rep {P cn : Addr} {q : Str} (r : RepS TT K β H m) (h : Made H P cn q H1) (hu : ∀ p ∈ TT.tb, p.1 = P → p.2 = q) (hT : LamX.TabS H1 P q) : RepS TT K β H1 m := by
  have g : Grow β H [] H1 := made_grow h
  have keep : ∀ a u, H a = some u → ((∃ vs, u = .lst vs) ∨ ∃ kws, u = .dK kws) → H1 a = some u := fun a u e k => by
    rcases h with rfl | ⟨tb, tb1, e1, e2, rfl⟩
    · exact e
    · have n : a ≠ P := fun z => by
        rw [z, e1] at e
        cases e
        rcases k with ⟨_, z⟩ | ⟨_, z⟩ <;> cases z
      rw [upd_ne (ne_of_none e e2), upd_ne n, e]
  refine ⟨r.nd, r.len, fun a ha => ?_, fun n a o e1 e2 => ?_, fun p hp => ?_, r.er, r.ac⟩
  · obtain ⟨u, e, k⟩ := r.outs a ha
    exact ⟨u, keep a u e k, k⟩
  · obtain ⟨u, e, z, old⟩ := r.at_ n a o e1 e2
    have z2 := z.grow g
    rw [BB.app_nil] at z2
    exact ⟨u, keep a u e z.kind, z2, old⟩
  · obtain ⟨ps, t1, t2, t3⟩ := r.tabs p hp
    rcases h with rfl | ⟨tb, tb1, e1, e2, rfl⟩
    · exact ⟨ps, t1, t2, t3⟩
    · by_cases z : p.1 = P
      · rw [hu p hp z, z]
        exact hT
      · refine ⟨ps, by rw [upd_ne (ne_of_none t1 e2), upd_ne z]; exact t1, t2, fun pos cv hc => ?_⟩
        obtain ⟨c, k1, k2⟩ := t3 pos cv hc
        have n2 : c ≠ P := fun z => by
          rw [z, e1] at k2
          exact LamX.codeO_ne _ (Option.some.inj k2).symm
        exact ⟨c, k1, by rw [upd_ne (ne_of_none k2 e2), upd_ne n2]; exact k2⟩
end
theorem plain_rf {K : PySem.W.Frag} {β : BB} {H : Hp} {ρ : Fr} {σ : L2.St} (h : RF0 K β H ρ σ) (p : plainFr ρ = true) : RF K β H ρ σ := by
  have all : ∀ (i : Nat) (o : Option SV), ρ[i]? = some o → (match o with
    | some (.err _) => false
    | some .lam => false
    | _ => true) = true := fun i o e => List.all_eq_true.mp p o (List.mem_of_getElem? e)
  refine ⟨h.len, h.val, fun i e z => ?_, fun i z => ?_⟩
  · cases all i _ z
  · cases all i _ z
section
variable {X : Cx} {TT : TB} {C : CA} {E : L2.St → XK} {cx : Cxt} {T : Tbl} {G : Str → Option GK} {n : Nat}
theorem so_lam {x : Str} {rp : Bool} {c P : Addr} {params : Arguments} {body : Expr} {scope : Scope} {cb : CE} {p lpos pos : Pos} (h0 : TT.er = none) (gf : GF T G TT C n X.prog X.w X.K X.mg X.base) (hr : Room (n + 2) X.A) (hgd : rp = true → X.A.guards = some [])
    (hG : G x = some (.lam rp)) (hg : Gl X x) (hcl : cx.callL = (cxt T n).callL) (hx : ∀ σ, PassesAt (L2.CX X.prog X.w) X σ (E σ)) (B : LamX.TabB X.base X.mg c P) (hc : X.env.code = .ref c) (hm : (P, X.env.qual ++ "<lambda>") ∈ TT.tb) (hu : ∀ p ∈ TT.tb, p.1 = P → p.2 = X.env.qual ++ "<lambda>")
    (S : LamX.LamS X.env.scope scope) (hd : defaultsOf params X.env = ([], [])) (hb : ∀ (q : Str) (cl : List (Str × Addr)) (pm cv ct : Value), bindArgs (PySem.W.kla_fn "<lambda>" q params body scope cl pm cv ct) ⟨[], []⟩ = pure [])
    (run : ∀ (A : Around) (outer : List Env) (s2 : Shared) (H2 : Hp) (E2 : XK) (f cn : Addr) (L : LamRec), A.guards = X.A.guards → Room n (A.deeper (LamX.lamEnv X scope s2.heap.objs.size f cn)) → PE (LamX.lamCx X A outer s2 H2 E2 scope f cn) body (tE ⟨TT.tb, none, some L⟩ X.K C (fun _ => E2) { cx with call := (cxt T (n - 2)).call } cb)) :
    PE X (.Call (.Name x p) [.Lambda params body scope lpos] [] pos) (tE TT X.K C E cx (.callL x cb)) := by
  refine ⟨fun pins s σ H Q I ⟨β, m, ρ, rep, rf, hp⟩ => ?_⟩
  simp only [evE] at hp
  by_cases hpl : plainFr ρ = true
  · rw [if_pos hpl, show cx.callL x = (cxt T n).callL x by rw [hcl]] at hp
    obtain ⟨g, N, sc, p0, cd, hmg, hk, hN, hv, hd1, hd2, F⟩ := gf.lam x rp hG
    refine wpAny_Call_Name_kw (ld_glob I hg hmg ?_ (gf.nd x _ hG).1)
    refine PySem.W.callWith_K (h₀ := X.base) I.ok.mod.kin hk ?_ (by rfl) (by rfl)
    show wpAny _ _ (spliced ((false, eval (.Lambda params body scope lpos) X.env) :: backTo pos (starEach [] X.env))) _ _ s
    refine Calls.spliced_cons (lam_made I B hc (rep.tabs _ hm) hd (S.has I.ok) fun f cn pm ct H1 s1 I1 made T1 hf hn far hco => ?_)
    refine Calls.spliced_nil ⟨I1.kIn, ?_⟩
    have g0 : Grow β H [] H1 := made_grow made
    have rep1 := made_rep rep made hu T1
    have rep1n : RepS TT X.K (β ++ ([] : List Addr)) H1 m := by rw [BB.app_nil]; exact rep1
    let L : LamRec := ⟨f, cn, X.env.qual ++ "<lambda>", ρ, σ⟩
    have post : Post TT X.K C (RV X.K) β H1 ((cxt T n).callL x (fun call m => evE { cx with call := call } cb ρ m) m) Q (E σ) := by
      have z := Post.grow hp g0 rep1n
      rwa [BB.app_nil] at z
    have lamAt : LamAt X.K (β.setA (some L)) H1 L := by
      have rf1 := RF.grow g0 rf
      rw [BB.app_nil] at rf1
      refine ⟨hco, fun z => ?_, RF0.setA ⟨rf1.len, rf1.val⟩⟩
      obtain ⟨u, e, k⟩ := rep1.there z
      have e' : H1 cn = some u := e
      rw [hco] at e'
      cases e'
      rcases k with ⟨_, k⟩ | ⟨_, k⟩ <;> cases k
    have rc := F X.A X.stack s1 H1 L (fun call m => evE { cx with call := call } cb ρ m) (β.setA (some L)) m Q (E σ) hr hgd I1.env0 lamAt (rep1.setA h0) (fun W pn xe p1 p2 tk => ?_) (Post.unA post h0 rep.ac)
    · refine wpAny_call (codeAny_mono rc fun r s2 hq => ?_)
      match r, hq with
      | .error e, hq => exact hx σ pins H1 s1 e s2 I1 hq
      | .ok (.ret u), hq => exact I1.after hq
      | .ok .next, hq => exact hq.elim
      | .ok .brk, hq => exact hq.elim
      | .ok .cont, hq => exact hq.elim
    · refine pe_imp (lam_act (k := n) (i := 0) (tb := fun E2 => tE ⟨TT.tb, none, some L⟩ X.K C (fun _ => E2) { cx with call := (cxt T (n - 2)).call } cb) I1 S hf hn far (hb _ _ _ _ _) tk (hr.deeper _) (fun outer s2 H2 E2 r2 => run _ outer s2 H2 E2 f cn L rfl r2) hN hv hd1 hd2) fun τ G Q2 ⟨γ, m2, ρ2, q1, q2, q3⟩ => ?_
      cases e : ρ2[0]? with
      | none => rw [e] at q3; exact q3.elim
      | some o =>
        rw [e] at q3
        match o, e, q3 with
        | none, _, q3 => exact q3.elim
        | some (.v _), _, q3 => exact q3.elim
        | some (.err _), _, q3 => exact q3.elim
        | some .lam, e, q3 =>
          obtain ⟨L2, a1, a2, a3⟩ := q2.lam 0 e
          have e2 := a1.symm.trans q1.ac
          cases e2
          exact ⟨a2, a3.code, γ, m2, ρ, q1, plain_rf a3.fr hpl, q3⟩
  · rw [if_neg hpl] at hp
    exact hp.elim
end
end MN

set_option maxRecDepth 100000
set_option maxHeartbeats 4000000
/-! MnComp: from the program's text to the evaluator's words. -/
namespace MN
open PySem PySem.Spec PyProof.Rows L2

/-- where a text stands -/
structure CC where
  N : List Str
  sc : Scope
  fn : Str → Bool
  G : Str → Option GK
  calm : Bool
  er : Option Str
  mu : Str → Bool
  /-- repr may be called here -/
  rep : Bool
  /-- lambdas may be made here -/
  mkl : Bool
  /-- the parameter that is a lambda -/
  lam : Option Str
  /-- .. and it may be called here -/
  act : Option Str
def ixOf : List Str → Str → Option Nat
  | [], _ => none
  | y :: ys, x => if y = x then some 0 else match ixOf ys x with
    | some i => some (i + 1)
    | none => none
theorem ixOf_ok : ∀ {N : List Str} {x : Str} {i : Nat}, ixOf N x = some i → N[i]? = some x
  | [], _, _, h => by cases h
  | y :: ys, x, i, h => by
    unfold ixOf at h
    split at h
    · rename_i e
      cases h
      rw [e]
      rfl
    · cases e : ixOf ys x with
      | none => rw [e] at h; cases h
      | some j =>
        rw [e] at h
        cases h
        have := ixOf_ok e
        simpa using this
def nameOk (x : Str) : Bool := (!(x == ("__debug__" : Str))) && !(x == ("__classdict__" : Str))
def isVis (cc : CC) (x : Str) : Bool := match cc.sc.names.lookup x with
  | some .local => true
  | some .cell => true
  | some .free => true
  | _ => false
def isGl (cc : CC) (x : Str) : Bool := match cc.sc.names.lookup x with
  | some .globalImplicit => true
  | _ => false
def isLoc (cc : CC) (x : Str) : Bool := match cc.sc.names.lookup x with
  | some .local => true
  | some .cell => cc.fn x
  | _ => false
def isBl (cc : CC) (x : Str) : Bool := isGl cc x && match cc.G x with
  | some .blt => true
  | _ => false
def bin? : Operator → Option BinOp
  | .Add => some .add
  | .Sub => some .sub
  | .Mult => some .mul
  | .FloorDiv => some .fdiv
  | .Mod => some .mod
  | .Pow => some .pow
  | _ => none
theorem bin_ok {o : Operator} {b : BinOp} (h : bin? o = some b) : toOp b = o := by
  cases o <;> cases h <;> rfl
def cmp? : CmpOp → Option CmpO
  | .Eq => some .eq
  | .NotEq => some .ne
  | .Lt => some .lt
  | .LtE => some .le
  | .Gt => some .gt
  | .GtE => some .ge
  | .In => some .inn
  | .NotIn => some .notin
  | .Is => some .isN
  | .IsNot => some .notN
theorem cmp_ok {o : CmpOp} {b : CmpO} (h : cmp? o = some b) : toCmp b = o := by
  cases o <;> cases h <;> rfl
def noSet (e : Expr) : Bool := match e with
  | .Set .. => false
  | _ => true
theorem noSet_marks {e : Expr} {o : CmpOp} (h : noSet e = true) : behindInMarks o e = false := by
  cases e <;> first | rfl | cases h
theorem noSet_fold {e : Expr} {env : Env} (h : noSet e = true) : ∀ x, foldedSetIterable e env x = pure x := by
  intro x
  cases e <;> first | rfl | cases h
def noSl (e : Expr) : Bool := match e with
  | .Slice .. => false
  | _ => true
theorem noSl_ok {e : Expr} (h : noSl e = true) : PlainIx e := by
  intro o i
  cases e <;> first | rfl | cases h
def isTy (y : Str) : Option (Bi × String) :=
  if y = "int" then some (.isInt, "int") else if y = "bool" then some (.isBool, "bool") else if y = "str" then some (.isStr, "str") else if y = "tuple" then some (.isTup, "tuple") else if y = "list" then some (.isList, "list") else if y = "dict" then some (.isDict, "dict") else none
/-- each in turn -/
def mapO {α β : Type} (g : α → Option β) : List α → Option (List β)
  | [] => some []
  | x :: xs => match g x, mapO g xs with
    | some y, some ys => some (y :: ys)
    | _, _ => none
inductive All2 {α β : Type} (R : α → β → Prop) : List α → List β → Prop
  | nil : All2 R [] []
  | cons {x : α} {y : β} {xs : List α} {ys : List β} : R x y → All2 R xs ys → All2 R (x :: xs) (y :: ys)
theorem mapO_ok {α β : Type} {g : α → Option β} : ∀ {xs : List α} {ys : List β}, mapO g xs = some ys → All2 (fun x y => g x = some y) xs ys
  | [], ys, h => by cases h; exact .nil
  | x :: xs, ys, h => by
    unfold mapO at h
    cases e : g x with
    | none => rw [e] at h; cases h
    | some y =>
      cases e2 : mapO g xs with
      | none => rw [e, e2] at h; cases h
      | some zs =>
        rw [e, e2] at h
        cases h
        exact .cons e (mapO_ok e2)
theorem All2.len {α β : Type} {R : α → β → Prop} : ∀ {xs : List α} {ys : List β}, All2 R xs ys → xs.length = ys.length
  | _, _, .nil => rfl
  | _, _, .cons _ h => by rw [List.length_cons, List.length_cons, All2.len h]
theorem All2.imp {α β : Type} {R S : α → β → Prop} (w : ∀ x y, R x y → S x y) : ∀ {xs : List α} {ys : List β}, All2 R xs ys → All2 S xs ys
  | _, _, .nil => .nil
  | _, _, .cons h hs => .cons (w _ _ h) (All2.imp w hs)
def key? : Option Expr → Option Ky
  | some (.Constant (.str x) _ _) => some (.inr x)
  | some (.Constant (.int i) _ _) => some (.inl i)
  | _ => none
def mt? (m : Str) (n : Nat) : Option Mt :=
  if m = "append" ∧ n = 1 then some .append else if m = "pop" ∧ n = 0 then some .pop else if m = "reverse" ∧ n = 0 then some .reverse else if m = "get" ∧ n = 1 then some .get1 else if m = "get" ∧ n = 2 then some .get2 else none
/-- range(..) -/
def rg? (cc : CC) : Expr → Option (List Expr)
  | .Call (.Name r _) args [] _ => if r = "range" ∧ isBl cc r = true then some args else none
  | _ => none
/-- a table of the module -/
def tb? (cc : CC) : Expr → Option (List (Ky × PyData))
  | .Name x _ => if isGl cc x = true ∧ nameOk x = true then (match cc.G x with
    | some (.tbl t) => some t
    | _ => none) else none
  | _ => none
def nameE (cc : CC) (x : Str) : Option CE := if nameOk x = true then (if isVis cc x = true then (match ixOf cc.N x with
  | some i => some (.var i)
  | none => none) else if isGl cc x = true then (match cc.G x with
  | some (.con d) => some (.cst d)
  | _ => none) else none) else none
def boolL (mk : CE → CE → CE) : List CE → Option CE
  | [] => none
  | [c] => some c
  | c :: r => match boolL mk r with
    | some d => some (mk c d)
    | none => none
def mkB : BoolOp → CE → CE → CE
  | .And => .and
  | .Or => .or
def ownFrom (names : List (Str × NameKind)) : Nat → List Str → List (Str × Nat)
  | _, [] => []
  | i, x :: xs => match names.lookup x with
    | some .local => (x, i) :: ownFrom names (i + 1) xs
    | some .cell => (x, i) :: ownFrom names (i + 1) xs
    | _ => ownFrom names (i + 1) xs
/-- a block's own names, with their places -/
def ownOf (N : List Str) (names : List (Str × NameKind)) : List (Str × Nat) := ownFrom names 0 N
def CC.blk (cc : CC) (scope : Scope) : CC := { cc with sc := relS scope cc.sc, fn := fun x => scope.names.lookup x == some .cell, er := none, mkl := false, lam := none, act := none }
/-- a lambda's body -/
def CC.lamC (cc : CC) (scope : Scope) : CC := { cc with sc := scope, fn := fun _ => false, er := none, calm := true, mkl := false, lam := none, act := none }
/-- a try's body -/
def CC.try_ (cc : CC) : CC := { cc with act := cc.lam, lam := none }
def noPar (a : Arguments) : Bool := match a with
  | ⟨[], [], none, [], [], none, []⟩ => true
  | _ => false
def compG (cc : CC) : Nat → Expr → Option CT
  | 0, _ => none
  | f + 1, e => match e with
    | .Name x _ => if isLoc cc x = true then (match ixOf cc.N x with
      | some i => some (.v i)
      | none => none) else none
    | .Tuple es _ _ => if cc.calm = true then (match mapO (compG cc f) es with
      | some ts => some (.t ts)
      | none => none) else none
    | _ => none
def isCls (cc : CC) (c : Str) : Bool := match cc.G c with
  | some .cls => true
  | some (.exc _) => true
  | _ => false
/-- the caught error's name -/
def erE (cc : CC) : Expr → Option Nat
  | .Name x _ => if cc.er = some x ∧ isVis cc x = true ∧ nameOk x = true then ixOf cc.N x else none
  | _ => none
/-- f(a), f a built-in name -/
def one? (cc : CC) (f : Str) : Expr → Option Expr
  | .Call (.Name x _) [a] [] _ => if x = f ∧ isBl cc x = true ∧ cc.calm = true then some a else none
  | _ => none
/-- len(set(a)) -/
def ls? (cc : CC) (x : Str) (args : List Expr) : Option Expr := if x = "len" then (match args with
  | [a] => one? cc "set" a
  | _ => none) else none
def mkOp (nl : Bool) (o : BinOp) (c d : CE) : CE := match nl, o with
  | true, .add => .nadd c d
  | _, o => .op o c d
def insE (cc : CC) (g : Expr → Option CE) (args : List Expr) : Option CE := match args with
  | [a, .Name y _] => (match erE cc a with
    | some i => if isGl cc y = true ∧ nameOk y = true ∧ isCls cc y = true then some (.isx i y) else none
    | none => if isBl cc y = true ∧ nameOk y = true then (match isTy y, g a with
      | some (k, _), some c => some (.bi k [c])
      | _, _ => none) else none)
  | _ => none
def srtE (cc : CC) (g : Expr → Option CE) (args : List Expr) : Option CE := match args with
  | [a] => (match one? cc "set" a with
    | some b => (match g b with
      | some c => some (.bi .sset [c])
      | none => none)
    | none => (match g a with
      | some c => some (.bi .sortD [c])
      | none => none))
  | _ => none
/-- o.values() -/
def vl? (cc : CC) : Expr → Option Expr
  | .Call (.Attribute o m apos) [] [] mpos => if m = "values" ∧ (apos.endLine == mpos.line) = true ∧ plainBase o = true ∧ cc.calm = true then some o else none
  | _ => none
def lstE (cc : CC) (g : Expr → Option CE) (nl : Bool) (args : List Expr) : Option CE := match args with
  | [a] => (match one? cc "enumerate" a with
    | some b => if nl = false then (match g b with
      | some c => some (.bi .lstEnum [c])
      | none => none) else none
    | none => (match rg? cc a with
      | some [b] => if cc.calm = true then (match g b with
        | some c => some (if nl = true then .bloc .lstRange [c] else .bi .lstRange [c])
        | none => none) else none
      | some [b, d] => if cc.calm = true ∧ nl = false then (match g b, g d with
        | some c, some e => some (.bi .lstRange [c, e])
        | _, _ => none) else none
      | some _ => none
      | none => (match vl? cc a with
        | some o => if nl = false then (match g o with
          | some c => some (.bi .dvals [c])
          | none => none) else none
        | none => (match g a with
          | some c => some (if nl = true then .bloc .list [c] else .bi .list [c])
          | none => none))))
  | _ => none
def tupE (cc : CC) (g : Expr → Option CE) (args : List Expr) : Option CE := match args with
  | [a] => (match rg? cc a with
    | some [b] => if cc.calm = true then (match g b with
      | some c => some (.bi .tupRange [c])
      | none => none) else none
    | some _ => none
    | none => (match g a with
      | some c => some (.bi .tuple [c])
      | none => none))
  | _ => none
def othE (cc : CC) (g : Expr → Option CE) (x : Str) (args : List Expr) : Option CE := match mapO g args with
  | none => none
  | some cs => if x = "len" ∧ args.length = 1 then some (.bi .len cs)
    else if x = "int" ∧ args.length = 1 then some (.bi .int cs)
    else if x = "repr" ∧ args.length = 1 ∧ cc.rep = true then some (.bi .repr cs)
    else if x = "dict" ∧ args.length = 1 then some (.bloc .dict cs)
    else if x = "sum" ∧ args.length = 1 ∧ cc.calm = true then some (.bi .sum cs)
    else if x = "max" ∧ args.length = 1 ∧ cc.calm = true then some (.bi .max1 cs)
    else if x = "max" ∧ args.length = 2 ∧ cc.calm = true then some (.bi .max2 cs)
    else if x = "min" ∧ args.length = 2 ∧ cc.calm = true then some (.bi .min2 cs)
    else if x = "min" ∧ args.length = 1 ∧ cc.calm = true then some (.bi .min1 cs)
    else none
def bltE (cc : CC) (g : Expr → Option CE) (nl : Bool) (x : Str) (args : List Expr) : Option CE :=
  if x = "isinstance" then insE cc g args
  else if x = "sorted" then srtE cc g args
  else if x = "list" then lstE cc g nl args
  else if x = "tuple" then tupE cc g args
  else (match ls? cc x args with
  | some b => (match g b with
    | some c => some (.bi .setLen [c])
    | none => none)
  | none => othE cc g x args)
def callE (cc : CC) (g : Expr → Option CE) (nl : Bool) (func : Expr) (args : List Expr) (pos : Pos) : Option CE := match func with
  | .Name x _ => if cc.act = some x ∧ args.isEmpty = true then some (.act 0) else if isGl cc x = true ∧ nameOk x = true then (match cc.G x with
    | some (.fn np nd rp) => if cc.calm = true ∧ args.length ≤ np ∧ np ≤ args.length + nd ∧ (rp = true → cc.rep = true) then (match mapO g args with
      | some cs => some (.call x cs)
      | none => none) else none
    | some .blt => bltE cc g nl x args
    | _ => none) else none
  | .Attribute o m apos => if (apos.endLine == pos.line) = true ∧ plainBase o = true ∧ args.length < 30 then (match mt? m args.length, g o, mapO g args with
    | some k, some c, some cs => some (.mt k c cs)
    | _, _, _ => none) else none
  | _ => none
def cmpE (cc : CC) (g : Expr → Option CE) (a : Expr) (ops : List CmpOp) (bs : List Expr) : Option CE := match ops, bs with
  | [o], [b] => (match tb? cc b with
    | some t => (match o, g a with
      | .In, some c => some (.gin false t c)
      | .NotIn, some c => some (.gin true t c)
      | _, _ => none)
    | none => if noSet b = true then (match cmp? o, g a, g b with
      | some o, some c, some d => some (.cmp o c d)
      | _, _, _ => none) else none)
  | [o, o'], [b, c] => if noSet c = true then (match cmp? o, cmp? o', g a, g b, g c with
    | some o, some o', some x, some y, some z => some (.chain o o' x y z)
    | _, _, _, _, _ => none) else none
  | _, _ => none
def partE (g : Expr → Option CE) : Option Expr → Option (List CE)
  | none => some []
  | some e => match g e with
    | some c => some [c]
    | none => none
def subE (cc : CC) (g : Expr → Option CE) (o i : Expr) : Option CE := match i with
  | .Slice lo hi none _ => (match g o, partE g lo, partE g hi with
    | some c, some l, some h => some (.sl c l h)
    | _, _, _ => none)
  | _ => if noSl i = true then (match tb? cc o with
    | some t => (match g i with
      | some d => some (.gidx t d)
      | none => none)
    | none => (match g o, g i with
      | some c, some d => some (.idx c d)
      | _, _ => none)) else none
def isTg : Expr → Bool
  | .Tuple .. => true
  | _ => false
theorem isTg_is {e : Expr} (h : isTg e = true) : ∃ es k p, e = .Tuple es k p := by
  cases e <;> first | exact ⟨_, _, _, rfl⟩ | cases h
/-- enumerate(..) -/
def en? (cc : CC) (tg : Expr) : Expr → Option Expr
  | .Call (.Name x _) [a] [] _ => if x = "enumerate" ∧ isBl cc x = true ∧ isTg tg = true then some a else none
  | _ => none
def iterE (cc : CC) (g : Expr → Option CE) (tg it : Expr) : Option (ItK × List CE) := match rg? cc it with
  | some [a] => (match g a with
    | some c => some (.range1, [c])
    | none => none)
  | some [a, b] => (match g a, g b with
    | some c, some d => some (.range2, [c, d])
    | _, _ => none)
  | some [a, b, e] => (match g a, g b, g e with
    | some c, some d, some k => some (.range3, [c, d, k])
    | _, _, _ => none)
  | some _ => none
  | none => (match en? cc tg it with
    | some a => (match g a with
      | some c => some (.enum, [c])
      | none => none)
    | none => if noSet it = true then (match g it with
      | some c => some (.seq, [c])
      | none => none) else none)
/-- a list made within a dict's display is one that may change -/
def dnl (cc : CC) : Expr → Bool
  | .ListComp .. => cc.mu "{}"
  | _ => false
/-- x(lambda: body) -/
def lamA (cc : CC) (func : Expr) (args : List Expr) : Option (Str × Expr × Scope) := match func, args with
  | .Name x _, [.Lambda params body scope _] => if cc.mkl = true ∧ cc.calm = true ∧ isGl cc x = true ∧ noPar params = true ∧ LamX.lamSB cc.sc scope = true then (match cc.G x with
    | some (.lam rp) => if rp = true → cc.rep = true then some (x, body, scope) else none
    | _ => none) else none
  | _, _ => none
mutual
def compE (cc : CC) : Nat → Bool → Expr → Option CE
  | 0, _, _ => none
  | f + 1, nl, e => match e with
    | .Constant k _ _ => (match cstE k with
      | some d => some (.cst d)
      | none => none)
    | .Name x _ => nameE cc x
    | .Tuple es _ _ => (match mapO (compE cc f false) es with
      | some cs => some (.tup cs)
      | none => none)
    | .List es _ => (match mapO (compE cc f false) es with
      | some cs => some (if nl = true then .nlst cs else .lst cs)
      | none => none)
    | .Dict keys es _ => if keys.length = es.length ∧ keys.length ≤ 15 then (match mapO key? keys, mapO (fun e => compE cc f (dnl cc e) e) es with
      | some ks, some cs => some (.ndic ks cs)
      | _, _ => none) else none
    | .BinOp a op b _ => (match bin? op, compE cc f false a, compE cc f false b with
      | some o, some c, some d => some (mkOp nl o c d)
      | _, _, _ => none)
    | .UnaryOp .USub a _ => (match compE cc f false a with
      | some c => some (.neg c)
      | none => none)
    | .UnaryOp .Not a _ => (match compE cc f false a with
      | some c => some (.not c)
      | none => none)
    | .BoolOp op es _ => (match mapO (compE cc f false) es with
      | some cs => boolL (mkB op) cs
      | none => none)
    | .Compare a ops bs _ => cmpE cc (compE cc f false) a ops bs
    | .IfExp c a b _ => (match compT cc f c, compE cc f nl a, compE cc f nl b with
      | some x, some y, some z => some (.ite x y z)
      | _, _, _ => none)
    | .Subscript o i _ => subE cc (compE cc f false) o i
    | .Call func args [] pos => (match lamA cc func args with
      | some (x, body, scope) => (match compE (cc.lamC scope) f false body with
        | some cb => some (.callL x cb)
        | none => none)
      | none => callE cc (compE cc f false) nl func args pos)
    | .Attribute (.Name x _) a _ => if cc.er = some x ∧ isVis cc x = true ∧ nameOk x = true then (match ixOf cc.N x with
      | some i => some (.fld i a)
      | none => none) else none
    | .ListComp elt [⟨tg, it, ifs, 0⟩] scope _ => if cc.calm = true ∧ ifs.length ≤ 1 ∧ blkC cc.N cc.sc scope (ownOf cc.N scope.names) = true ∧ noSet it = true then
        (match iterE cc (compE cc f false) tg it, compG (cc.blk scope) f tg, mapO (compT (cc.blk scope) f) ifs, compE (cc.blk scope) f false elt with
        | some (k, its), some t, some cifs, some c => if (t.ix.all fun j => ((ownOf cc.N scope.names).map (·.2)).contains j) = true then some (.comp nl k its t ((ownOf cc.N scope.names).map (·.2)) cifs c) else none
        | _, _, _, _ => none) else none
    | _ => none
def compT (cc : CC) : Nat → Expr → Option CE
  | 0, _ => none
  | f + 1, e => match e with
    | .UnaryOp .Not a _ => (match compT cc f a with
      | some c => some (.not c)
      | none => none)
    | .BoolOp op es _ => (match mapO (compT cc f) es with
      | some cs => boolL (mkB op) cs
      | none => none)
    | .Compare a ops bs _ => cmpE cc (compE cc f false) a ops bs
    | .Name .. => (match compE cc f false e with
      | some c => some (.tst c)
      | none => none)
    | .Call .. => (match compE cc f false e with
      | some c => some (.tst c)
      | none => none)
    | .Subscript .. => (match compE cc f false e with
      | some c => some (.tst c)
      | none => none)
    | .Constant .. => (match compE cc f false e with
      | some c => some (.tst c)
      | none => none)
    | _ => none
end
end MN

set_option maxRecDepth 100000
set_option maxHeartbeats 4000000
/-! MnSound: an expression that was compiled comes to what the evaluator says. -/
namespace MN
open PySem PySem.Spec PyProof.Rows L2

structure OkE (T : Tbl) (C : CA) (n : Nat) (TT : TB) (cc : CC) (X : Cx) (E : L2.St → XK) (cx : Cxt) : Prop where
  gf : ∀ j, j ≤ n → ∀ lm, GF T cc.G ⟨TT.tb, none, lm⟩ C j X.prog X.w X.K X.mg X.base
  un : X.A.units + 200 < cLine
  guards : cc.rep = true → X.A.guards = some []
  nd : X.N.Nodup
  eN : X.N = cc.N
  sc : X.env.scope = cc.sc
  fn : ∀ x, X.fn x = cc.fn x
  calm : cc.calm = true → X.calm = true ∧ Room (n + 2) X.A ∧ TT.er = none ∧ ∀ σ, PassesAt (L2.CX X.prog X.w) X σ (E σ)
  call : cx.call = (cxt T n).call
  callL : cc.mkl = true → cx.callL = (cxt T n).callL
  act : ∀ a, cc.act = some a → ∀ p1 p2, PE X (.Call (.Name a p1) [] [] p2) (tE TT X.K C E cx (.act 0))
  mkl : cc.mkl = true → ∃ c P, LamX.TabB X.base X.mg c P ∧ X.env.code = .ref c ∧ (P, X.env.qual ++ "<lambda>") ∈ TT.tb ∧ ∀ p ∈ TT.tb, p.1 = P → p.2 = X.env.qual ++ "<lambda>"
  isE : cx.isE = T.isE
  ef : cx.ef = T.ef
  er : ∀ y, cc.er = some y → ∃ (Y : Cx) (a : Addr) (oe : Obj) (pn : List (Addr × Obj)) (c : Str) (dd : Addr), X = Y.suite a ((a, oe) :: pn) ∧ Zc (.ref (C c)) (some dd) oe ∧ (∃ vs, oe.data = .fields vs) ∧ TT.er = some (a, dd, c)
section
variable {T : Tbl} {C : CA} {n : Nat} {TT : TB} {cc : CC} {X : Cx} {E : L2.St → XK} {cx : Cxt}
theorem passE0 {X : Cx} {σ : L2.St} : PassesAt (L2.CX X.prog X.w) X σ (fun _ _ _ => False) := fun _ _ _ _ _ _ c => by
  obtain ⟨_, _, _, _, _, _, _, _, _, _, _, _, z⟩ := c
  exact z.elim
theorem OkE.blk (o : OkE T C n TT cc X E cx) (hc : cc.calm = true) {scope : Scope} (s : Shared) (H : Hp) (A : Addr) (cl : List (Str × Addr)) (fp : List Addr) : OkE T C n TT (cc.blk scope) (X.blk s H scope (compEnvC scope cl A X.env) fp) E0 cx where
  gf := o.gf
  un := o.un
  guards := o.guards
  nd := o.nd
  eN := o.eN
  sc := by
    show relS scope X.env.scope = relS scope cc.sc
    rw [o.sc]
  fn := fun x => rfl
  calm := fun _ => ⟨(o.calm hc).1, (o.calm hc).2.1, (o.calm hc).2.2.1, fun σ => passE0⟩
  call := o.call
  callL := fun h => by cases h
  act := fun a h => by cases h
  mkl := fun h => by cases h
  isE := o.isE
  ef := o.ef
  er := fun y h => by cases h
theorem name_ok {x : Str} (h : nameOk x = true) : (x == ("__debug__" : Str)) = false ∧ (x == ("__classdict__" : Str)) = false := by
  unfold nameOk at h
  simpa using h
theorem vis_ok (o : OkE T C n TT cc X E cx) {x : Str} (h : isVis cc x = true) : Vis X.env.scope x := by
  unfold isVis at h
  unfold Vis
  rw [o.sc]
  split at h
  · rename_i e; exact .inl e
  · rename_i e; exact .inr (.inl e)
  · rename_i e; exact .inr (.inr e)
  · cases h
theorem gl_ok (o : OkE T C n TT cc X E cx) {x : Str} (h : isGl cc x = true) : Gl X x := by
  unfold isGl at h
  show X.env.scope.names.lookup x = _
  rw [o.sc]
  split at h
  · assumption
  · cases h
theorem bl_ok (o : OkE T C n TT cc X E cx) {x : Str} (h : isBl cc x = true) : Gl X x ∧ X.mg x = none ∧ (x == ("__debug__" : Str)) = false ∧ x ≠ "__name__" := by
  unfold isBl at h
  rw [Bool.and_eq_true] at h
  obtain ⟨h1, h2⟩ := h
  split at h2
  · rename_i e
    exact ⟨gl_ok o h1, (o.gf n (Nat.le_refl n) none).blt x e, (o.gf n (Nat.le_refl n) none).nd x _ e⟩
  · cases h2
theorem nl_ok (o : OkE T C n TT cc X E cx) {x : Str} {i : Nat} (h : ixOf cc.N x = some i) : X.N[i]? = some x := by
  rw [o.eN]
  exact ixOf_ok h
theorem tb_ok (o : OkE T C n TT cc X E cx) {e : Expr} {t : List (Ky × PyData)} (h : tb? cc e = some t) : ∃ x p d, e = .Name x p ∧ Gl X x ∧ X.mg x = some (.ref d) ∧ (x == ("__debug__" : Str)) = false ∧ TblAt X.K X.w d t := by
  unfold tb? at h
  cases e with
  | Name x p =>
    dsimp only at h
    split at h
    · rename_i hh
      split at h
      · rename_i t2 e
        cases h
        obtain ⟨d, h1, h2⟩ := (o.gf n (Nat.le_refl n) none).tbl x _ e
        exact ⟨x, p, d, rfl, gl_ok o hh.1, h1, (name_ok hh.2).1, h2⟩
      · cases h
    · cases h
  | _ => cases h
theorem rg_is (o : OkE T C n TT cc X E cx) {e : Expr} {as : List Expr} (h : rg? cc e = some as) : ∃ p pos, e = .Call (.Name "range" p) as [] pos ∧ Gl X "range" ∧ X.mg "range" = none := by
  unfold rg? at h
  split at h
  · split at h
    · rename_i hh
      cases h
      obtain ⟨rfl, h2⟩ := hh
      obtain ⟨h3, h4, _⟩ := bl_ok o h2
      exact ⟨_, _, rfl, h3, h4⟩
    · cases h
  · cases h
theorem one_is (o : OkE T C n TT cc X E cx) {f : Str} {e a : Expr} (h : one? cc f e = some a) : ∃ p pos, e = .Call (.Name f p) [a] [] pos ∧ Gl X f ∧ X.mg f = none ∧ cc.calm = true := by
  unfold one? at h
  split at h
  · split at h
    · rename_i hh
      cases h
      obtain ⟨rfl, h2, h3⟩ := hh
      obtain ⟨h4, h5, _⟩ := bl_ok o h2
      exact ⟨_, _, rfl, h4, h5, h3⟩
    · cases h
  · cases h
theorem ty_ok {y : Str} {k : Bi} {s : String} (h : isTy y = some (k, s)) : biTy k = some s ∧ bootBuiltins y = some (.type s) := by
  unfold isTy at h
  split at h
  · rename_i e; cases h; subst e; exact ⟨rfl, by decide +kernel⟩
  split at h
  · rename_i e; cases h; subst e; exact ⟨rfl, by decide +kernel⟩
  split at h
  · rename_i e; cases h; subst e; exact ⟨rfl, by decide +kernel⟩
  split at h
  · rename_i e; cases h; subst e; exact ⟨rfl, by decide +kernel⟩
  split at h
  · rename_i e; cases h; subst e; exact ⟨rfl, by decide +kernel⟩
  split at h
  · rename_i e; cases h; subst e; exact ⟨rfl, by decide +kernel⟩
  · cases h
theorem mt_ok {m : Str} {n : Nat} {k : Mt} (h : mt? m n = some k) : m = mtName k := by
  unfold mt? at h
  split at h
  · rename_i e; cases h; exact e.1
  split at h
  · rename_i e; cases h; exact e.1
  split at h
  · rename_i e; cases h; exact e.1
  split at h
  · rename_i e; cases h; exact e.1
  split at h
  · rename_i e; cases h; exact e.1
  · cases h
theorem bool_ok {op : BoolOp} {pos : Pos} : ∀ {es : List Expr} {cs : List CE} {c : CE}, All2 (fun e c => PE X e (tE TT X.K C E cx c)) es cs → boolL (mkB op) cs = some c → PE X (.BoolOp op es pos) (tE TT X.K C E cx c)
  | [], _, _, .nil, h => by cases h
  | [e], _, _, .cons h1 .nil, h => by
    cases h
    exact pe_one h1
  | e :: e2 :: es, _, c, .cons (y := c1) h1 (.cons (y := c2) (ys := cs) h2 hs), h => by
    unfold boolL at h
    cases q : boolL (mkB op) (c2 :: cs) with
    | none => rw [q] at h; cases h
    | some d =>
      rw [q] at h
      cases h
      have ih := bool_ok (op := op) (pos := pos) (.cons h2 hs) q
      cases op with
      | And => exact so_and h1 ih
      | Or => exact so_or h1 ih
theorem boolT_ok {op : BoolOp} {pos : Pos} : ∀ {es : List Expr} {cs : List CE} {c : CE}, All2 (fun e c => PT X e (tT TT X.K C E cx c)) es cs → boolL (mkB op) cs = some c → PW X (.BoolOp op es pos) (tT TT X.K C E cx c)
  | [], _, _, .nil, h => by cases h
  | [e], _, _, .cons h1 .nil, h => by
    cases h
    cases op with
    | And => exact pw_and1 h1
    | Or => exact pw_or1 h1
  | e :: e2 :: es, _, c, .cons (y := c1) h1 (.cons (y := c2) (ys := cs) h2 hs), h => by
    unfold boolL at h
    cases q : boolL (mkB op) (c2 :: cs) with
    | none => rw [q] at h; cases h
    | some d =>
      rw [q] at h
      cases h
      have ih := boolT_ok (op := op) (pos := pos) (.cons h2 hs) q
      cases op with
      | And => exact st_and h1 ih
      | Or => exact st_or h1 ih
/-- what is known of a compiler of parts -/
structure Part (TT : TB) (C : CA) (X : Cx) (E : L2.St → XK) (cx : Cxt) (g : Expr → Option CE) : Prop where
  pe : ∀ e c, g e = some c → PE X e (tE TT X.K C E cx c)
  star : ∀ e c, g e = some c → noStar e = true
theorem pa_all {g : Expr → Option CE} (P : Part TT C X E cx g) : ∀ {es : List Expr} {cs : List CE}, All2 (fun e c => g e = some c) es cs → PA X es (tA TT X.K C E cx cs) ∧ ∀ e ∈ es, noStar e = true
  | _, _, .nil => ⟨so_nil, fun _ h => by cases h⟩
  | _, _, .cons h hs => by
    obtain ⟨h1, h2⟩ := pa_all P hs
    exact ⟨so_cons (P.pe _ _ h) h1 (star_cons (P.star _ _ h)), fun e he => by
      rcases List.mem_cons.mp he with rfl | he
      · exact P.star _ _ h
      · exact h2 e he⟩
theorem blt_ok {g : Expr → Option CE} (P : Part TT C X E cx g) (o : OkE T C n TT cc X E cx) {nl : Bool} {x : Str} {args : List Expr} {c : CE} {p pos : Pos} (hb : isBl cc x = true) (h : bltE cc g nl x args = some c) : PE X (.Call (.Name x p) args [] pos) (tE TT X.K C E cx c) := by
  obtain ⟨hg, hm, hdb, hnn⟩ := bl_ok o hb
  have hu := o.un
  unfold bltE at h
  split at h
  · rename_i hx
    subst hx
    unfold insE at h
    split at h
    · rename_i a y py
      split at h
      · rename_i i ei
        split at h
        · rename_i hh
          cases h
          unfold erE at ei
          split at ei
          · rename_i z pz
            split at ei
            · rename_i hz
              obtain ⟨Y, a2, oe, pn, c2, dd, rfl, hzc, hf, her⟩ := o.er z hz.1
              obtain ⟨d1, d2⟩ := name_ok hz.2.2
              refine so_isx (X := Y) hzc hf her (fun b hb => ?_) (nl_ok o ei) (vis_ok o hz.2.1) d1 d2 (gl_ok o hh.1) ((o.gf n (Nat.le_refl n) none).cls _ ?_) (name_ok hh.2.1).1 hg hm
              · rw [o.isE] at hb
                exact (o.gf n (Nat.le_refl n) none).isE c2 y b hb
              · have h3 := hh.2.2
                unfold isCls at h3
                split at h3
                · rename_i eG; exact .inl eG
                · rename_i nf eG; exact .inr ⟨nf, eG⟩
                · cases h3
            · cases ei
          · cases ei
        · cases h
      · split at h
        · rename_i hh
          split at h
          · rename_i k s c1 e1 e2
            cases h
            obtain ⟨h1, h2⟩ := ty_ok e1
            obtain ⟨g1, g2, g3, g4⟩ := bl_ok o hh.1
            exact so_is h1 hg hm g1 g2 h2 g4 g3 (P.star _ _ e2) (P.pe _ _ e2)
          · cases h
        · cases h
    · cases h
  split at h
  · rename_i hx
    subst hx
    unfold srtE at h
    split at h
    · rename_i a
      split at h
      · rename_i b e
        split at h
        · rename_i c1 e2
          cases h
          obtain ⟨p2, pos2, rfl, g1, g2, g3⟩ := one_is o e
          exact so_sset (o.calm g3).1 hg hm g1 g2 (P.pe _ _ e2) (P.star _ _ e2)
        · cases h
      · split at h
        · rename_i d e2
          cases h
          exact so_bi (pe_callB (bi_sortD hu) hg hm (by decide +kernel) (so_cons (P.pe _ _ e2) so_nil (star_cons (P.star _ _ e2))) hnn hdb (star_cons (P.star _ _ e2)) rfl)
        · cases h
    · cases h
  split at h
  · rename_i hx
    subst hx
    unfold lstE at h
    split at h
    · rename_i a
      split at h
      · rename_i b e
        split at h
        · split at h
          · rename_i c1 e2
            cases h
            obtain ⟨p2, pos2, rfl, g1, g2, g3⟩ := one_is o e
            exact so_lstEnum (o.calm g3).1 hg hm g1 g2 (P.pe _ _ e2) (P.star _ _ e2)
          · cases h
        · cases h
      split at h
      · rename_i b e
        split at h
        · rename_i hc
          split at h
          · rename_i d e2
            cases h
            obtain ⟨p2, pos2, rfl, g1, g2⟩ := rg_is o e
            cases nl with
            | true => exact so_lrg1l (ar := b) (o.calm hc).1 hg hm g1 g2 (P.star _ _ e2) (P.pe _ _ e2)
            | false => exact so_lrg1 (ar := b) (o.calm hc).1 hg hm g1 g2 (P.star _ _ e2) (P.pe _ _ e2)
          · cases h
        · cases h
      · rename_i b d e
        split at h
        · rename_i hc
          split at h
          · rename_i c1 c2 e1 e2
            cases h
            obtain ⟨p2, pos2, rfl, g1, g2⟩ := rg_is o e
            exact so_lrg2 (o.calm hc.1).1 hg hm g1 g2 (P.star _ _ e1) (P.star _ _ e2) (P.pe _ _ e1) (P.pe _ _ e2)
          · cases h
        · cases h
      · cases h
      · split at h
        · rename_i ov ev
          split at h
          · split at h
            · rename_i d e2
              cases h
              unfold vl? at ev
              split at ev
              · split at ev
                · rename_i hh
                  cases ev
                  obtain ⟨hx, h1, h2, h3⟩ := hh
                  subst hx
                  exact so_dvals (o.calm h3).1 hg hm (P.pe _ _ e2) h2 h1
                · cases ev
              · cases ev
            · cases h
          · cases h
        · split at h
          · rename_i d e2
            cases h
            have hpa : PA X [a] (tA TT X.K C E cx [d]) := so_cons (P.pe _ _ e2) so_nil (star_cons (P.star _ _ e2))
            cases nl with
            | true => exact so_bl (pe_callTy bl_list hg hm PySem.Pv.boot_list hpa hnn hdb (star_cons (P.star _ _ e2)) rfl)
            | false => exact so_bi (pe_callTy bi_list hg hm PySem.Pv.boot_list hpa hnn hdb (star_cons (P.star _ _ e2)) rfl)
          · cases h
    · cases h
  split at h
  · rename_i hx
    subst hx
    unfold tupE at h
    split at h
    · rename_i a
      split at h
      · rename_i b e
        split at h
        · rename_i hc
          split at h
          · rename_i d e2
            cases h
            obtain ⟨p2, pos2, rfl, g1, g2⟩ := rg_is o e
            exact so_trg1 (ar := b) (o.calm hc).1 hg hm g1 g2 (P.star _ _ e2) (P.pe _ _ e2)
          · cases h
        · cases h
      · cases h
      · split at h
        · rename_i d e2
          cases h
          have hpa : PA X [a] (tA TT X.K C E cx [d]) := so_cons (P.pe _ _ e2) so_nil (star_cons (P.star _ _ e2))
          exact so_bi (pe_callTy bi_tuple hg hm PySem.Pv.boot_tuple hpa hnn hdb (star_cons (P.star _ _ e2)) rfl)
        · cases h
    · cases h
  cases e : ls? cc x args with
  | some b =>
    rw [e] at h
    dsimp only at h
    split at h
    · rename_i c1 e2
      cases h
      unfold ls? at e
      split at e
      · rename_i hx
        subst hx
        split at e
        · rename_i a
          obtain ⟨p2, pos2, rfl, g1, g2, g3⟩ := one_is o e
          exact so_setLen (o.calm g3).1 hg hm g1 g2 (P.pe _ _ e2) (P.star _ _ e2)
        · cases e
      · cases e
    · cases h
  | none =>
  rw [e] at h
  dsimp only at h
  clear e
  unfold othE at h
  cases hcs : mapO g args with
  | none => rw [hcs] at h; cases h
  | some cs =>
    rw [hcs] at h
    dsimp only at h
    obtain ⟨hpa, hns⟩ := pa_all P (mapO_ok hcs)
    have one : ∀ {id : String} {r : List V → Hp → VK → Prop}, CallR X (.builtin id) r → bootBuiltins x = some (.builtin id) → 0 < args.length → PE X (.Call (.Name x p) args [] pos) (tCB r (tA TT X.K C E cx cs)) := fun {id r} hc hv hl => by
      cases args with
      | nil => simp at hl
      | cons a as => exact pe_callB hc hg hm hv hpa hnn hdb (star_cons (hns a List.mem_cons_self)) (star_plain fun y hy => hns y (List.mem_cons_of_mem _ hy)).1
    have ty : ∀ {id : String} {r : List V → Hp → VK → Prop}, CallR X (.type id) r → bootBuiltins x = some (.type id) → 0 < args.length → PE X (.Call (.Name x p) args [] pos) (tCB r (tA TT X.K C E cx cs)) := fun {id r} hc hv hl => by
      cases args with
      | nil => simp at hl
      | cons a as => exact pe_callTy hc hg hm hv hpa hnn hdb (star_cons (hns a List.mem_cons_self)) (star_plain fun y hy => hns y (List.mem_cons_of_mem _ hy)).1
    split at h
    · rename_i hx
      cases h
      exact so_bi (one bi_len (by rw [hx.1]; decide +kernel) (by omega))
    split at h
    · rename_i hx
      cases h
      exact so_bi (ty bi_int (by rw [hx.1]; decide +kernel) (by omega))
    split at h
    · rename_i hx
      cases h
      exact so_bi (one (bi_repr (o.guards hx.2.2) o.un) (by rw [hx.1]; decide +kernel) (by omega))
    split at h
    · rename_i hx
      cases h
      exact so_bl (ty bl_dict (by rw [hx.1]; decide +kernel) (by omega))
    split at h
    · rename_i hx
      cases h
      exact so_bi (one (bi_sum (o.calm hx.2.2).1) (by rw [hx.1]; decide +kernel) (by omega))
    split at h
    · rename_i hx
      cases h
      exact so_bi (one (bi_max1 (o.calm hx.2.2).1 o.un) (by rw [hx.1]; decide +kernel) (by omega))
    split at h
    · rename_i hx
      cases h
      exact so_bi (one (bi_max2 (o.calm hx.2.2).1) (by rw [hx.1]; decide +kernel) (by omega))
    split at h
    · rename_i hx
      cases h
      exact so_bi (one (bi_min2 (o.calm hx.2.2).1) (by rw [hx.1]; decide +kernel) (by omega))
    split at h
    · rename_i hx
      cases h
      exact so_bi (one (bi_min1 (o.calm hx.2.2).1 o.un) (by rw [hx.1]; decide +kernel) (by omega))
    · cases h
theorem tt_er (h : TT.er = none) : (⟨TT.tb, none, TT.lam⟩ : TB) = TT := by
  cases TT
  dsimp only at h
  rw [h]
theorem callE_ok {g : Expr → Option CE} (P : Part TT C X E cx g) (o : OkE T C n TT cc X E cx) {nl : Bool} {func : Expr} {args : List Expr} {c : CE} {pos : Pos} (h : callE cc g nl func args pos = some c) : PE X (.Call func args [] pos) (tE TT X.K C E cx c) := by
  have hu := o.un
  unfold callE at h
  split at h
  · rename_i x p
    split at h
    · rename_i hh
      cases h
      have ea : args = [] := List.isEmpty_iff.mp hh.2
      subst ea
      exact o.act x hh.1 p pos
    split at h
    · rename_i hh
      split at h
      · rename_i np nd rp eG
        split at h
        · rename_i hc
          split at h
          · rename_i cs hcs
            cases h
            have al := mapO_ok hcs
            obtain ⟨hpa, hns⟩ := pa_all P al
            obtain ⟨c1, c2, c3, c4⟩ := o.calm hc.1
            have gf := o.gf n (Nat.le_refl n) TT.lam
            rw [tt_er c3] at gf
            have hl := al.len
            exact so_call gf c2 (fun h => o.guards (hc.2.2.2 h)) eG (gl_ok o hh.1) o.call c4 hpa (by omega) (by omega) hns hl.symm
          · cases h
        · cases h
      · rename_i eG
        refine blt_ok P o ?_ h
        unfold isBl
        rw [hh.1, eG]
        rfl
      · cases h
    · cases h
  · rename_i ob m apos
    split at h
    · rename_i hh
      split at h
      · rename_i k co cs e1 e2 e3
        cases h
        rw [mt_ok e1]
        have al := mapO_ok e3
        obtain ⟨hpa, hns⟩ := pa_all P al
        exact so_mt (by omega) k (P.pe _ _ e2) hpa al.len.symm hh.2.1 hns hh.2.2 hh.1
      · cases h
    · cases h
  · cases h
theorem cmpE_ok {g : Expr → Option CE} (P : Part TT C X E cx g) (o : OkE T C n TT cc X E cx) {a : Expr} {ops : List CmpOp} {bs : List Expr} {c : CE} {pos : Pos} (h : cmpE cc g a ops bs = some c) : PE X (.Compare a ops bs pos) (tE TT X.K C E cx c) ∧ PT X (.Compare a ops bs pos) (tT TT X.K C E cx c) := by
  unfold cmpE at h
  split at h
  · rename_i op b
    split at h
    · rename_i t et
      obtain ⟨x, p, d, rfl, g1, g2, g3, g4⟩ := tb_ok o et
      split at h
      · rename_i ca e1
        cases h
        exact ⟨so_gin false g1 g2 g3 g4 (P.pe _ _ e1), st_gin false g1 g2 g3 g4 (P.pe _ _ e1)⟩
      · rename_i ca e1
        cases h
        exact ⟨so_gin true g1 g2 g3 g4 (P.pe _ _ e1), st_gin true g1 g2 g3 g4 (P.pe _ _ e1)⟩
      · cases h
    · split at h
      · rename_i hs
        split at h
        · rename_i oo ca cb e1 e2 e3
          cases h
          rw [← cmp_ok e1]
          exact ⟨so_cmp o.un oo (P.pe _ _ e2) (P.pe _ _ e3) (noSet_marks hs), st_cmp o.un oo (P.pe _ _ e2) (P.pe _ _ e3) (noSet_marks hs)⟩
        · cases h
      · cases h
  · split at h
    · rename_i hs
      split at h
      · rename_i o1 o2 ca cb cc e1 e2 e3 e4 e5
        cases h
        rw [← cmp_ok e1, ← cmp_ok e2]
        exact ⟨so_chain o.un o1 o2 (P.pe _ _ e3) (P.pe _ _ e4) (P.pe _ _ e5) (noSet_marks hs), st_chain o.un o1 o2 (P.pe _ _ e3) (P.pe _ _ e4) (P.pe _ _ e5) (noSet_marks hs)⟩
      · cases h
    · cases h
  · cases h
theorem partE_ok {g : Expr → Option CE} (P : Part TT C X E cx g) {e : Option Expr} {cs : List CE} (h : partE g e = some cs) : PO X e (tP TT X.K C E cx cs) := by
  cases e with
  | none => cases h; exact so_po0
  | some e =>
    unfold partE at h
    dsimp only at h
    split at h
    · rename_i c e1
      cases h
      exact so_po1 (P.pe _ _ e1)
    · cases h
theorem subE_ok {g : Expr → Option CE} (P : Part TT C X E cx g) (o : OkE T C n TT cc X E cx) {a i : Expr} {c : CE} {pos : Pos} (h : subE cc g a i = some c) : PE X (.Subscript a i pos) (tE TT X.K C E cx c) := by
  have hu := o.un
  unfold subE at h
  split at h
  · split at h
    · rename_i c0 l0 h0 e1 e2 e3
      cases h
      exact so_sl (P.pe _ _ e1) (partE_ok P e2) (partE_ok P e3)
    · cases h
  · split at h
    · rename_i hs
      split at h
      · rename_i t et
        obtain ⟨x, p, d, rfl, g1, g2, g3, g4⟩ := tb_ok o et
        split at h
        · rename_i ci e1
          cases h
          exact so_gidx g1 g2 g3 g4 (P.pe _ _ e1) (noSl_ok hs)
        · cases h
      · split at h
        · rename_i c1 c2 e1 e2
          cases h
          exact so_idx (by omega) (P.pe _ _ e1) (P.pe _ _ e2) (noSl_ok hs)
        · cases h
    · cases h
theorem iterE_ok {g : Expr → Option CE} (P : Part TT C X E cx g) (o : OkE T C n TT cc X E cx) {tg it : Expr} {k : ItK} {cs : List CE} (h : iterE cc g tg it = some (k, cs)) : PI X tg it (tI TT X.K C E cx k cs) := by
  unfold iterE at h
  split at h
  · rename_i a er
    obtain ⟨p2, pos2, rfl, g1, g2⟩ := rg_is o er
    split at h
    · rename_i c e1
      cases h
      exact si_range1 g1 g2 (so_cons (P.pe _ _ e1) so_nil (star_cons (P.star _ _ e1))) (star_cons (P.star _ _ e1))
    · cases h
  · rename_i a b er
    obtain ⟨p2, pos2, rfl, g1, g2⟩ := rg_is o er
    split at h
    · rename_i c d e1 e2
      cases h
      have hb : starEach [b] X.env = [(false, eval b X.env)] := star_cons (P.star _ _ e2)
      exact si_range2 g1 g2 (so_cons (P.pe _ _ e1) (so_cons (P.pe _ _ e2) so_nil (star_cons (P.star _ _ e2))) (star_cons (P.star _ _ e1))) (by rw [star_cons (P.star _ _ e1), hb]) hb
    · cases h
  · rename_i a b d er
    obtain ⟨p2, pos2, rfl, g1, g2⟩ := rg_is o er
    split at h
    · rename_i c1 c2 c3 e1 e2 e3
      cases h
      have hb : starEach [b, d] X.env = [(false, eval b X.env), (false, eval d X.env)] := by rw [star_cons (P.star _ _ e2), star_cons (P.star _ _ e3)]; rfl
      exact si_range3 g1 g2 (so_cons (P.pe _ _ e1) (so_cons (P.pe _ _ e2) (so_cons (P.pe _ _ e3) so_nil (star_cons (P.star _ _ e3))) (star_cons (P.star _ _ e2))) (star_cons (P.star _ _ e1))) (star_cons (P.star _ _ e1)) hb
    · cases h
  · cases h
  · split at h
    · rename_i a en
      split at h
      · rename_i c e1
        cases h
        unfold en? at en
        split at en
        · split at en
          · rename_i hh
            cases en
            obtain ⟨rfl, h2, h3⟩ := hh
            obtain ⟨g1, g2, _⟩ := bl_ok o h2
            obtain ⟨es, kd, tp, rfl⟩ := isTg_is h3
            exact si_enum g1 g2 (so_cons (P.pe _ _ e1) so_nil (star_cons (P.star _ _ e1))) (star_cons (P.star _ _ e1))
          · cases en
        · cases en
      · cases h
    · split at h
      · split at h
        · rename_i c e1
          cases h
          exact si_seq (P.pe _ _ e1)
        · cases h
      · cases h
/-! ### targets -/
theorem loc_ok (o : OkE T C n TT cc X E cx) {x : Str} (h : isLoc cc x = true) : L2.Loc X.env.scope x ∧ (X.fn x = true ∨ X.env.scope.names.lookup x = some .local) := by
  unfold isLoc at h
  unfold L2.Loc
  rw [o.sc, o.fn]
  split at h
  · rename_i e; exact ⟨.inl e, .inr e⟩
  · rename_i e; exact ⟨.inr e, .inl h⟩
  · cases h
theorem assign_star {es : List Expr} {env : Env} (h : ∀ e ∈ es, noStar e = true) : (assignEach es env).length = es.length ∧ (assignEach es env).findIdx? (·.1) = none := by
  induction es with
  | nil => exact ⟨rfl, rfl⟩
  | cons e es ih =>
    obtain ⟨h1, h2⟩ := ih fun x hx => h x (List.mem_cons_of_mem _ hx)
    have e1 : assignEach (e :: es) env = (false, assign e env) :: assignEach es env := by
      have := h e List.mem_cons_self
      cases e <;> first | rfl | cases this
    rw [e1]
    refine ⟨by rw [List.length_cons, List.length_cons, h1], ?_⟩
    rw [List.findIdx?_cons, h2]
    rfl
theorem assign_cons {e : Expr} {es : List Expr} {env : Env} (h : noStar e = true) : (assignEach (e :: es) env).map (·.2) = assign e env :: (assignEach es env).map (·.2) := by
  cases e <;> first | rfl | cases h
theorem compG_star {f : Nat} {e : Expr} {t : CT} (h : compG cc f e = some t) : noStar e = true := by
  cases f with
  | zero => cases h
  | succ f => cases e <;> first | rfl | (simp [compG] at h)
theorem compG_ok (o : OkE T C n TT cc X E cx) : ∀ (f : Nat) {e : Expr} {t : CT}, compG cc f e = some t → PG X e (tG X.K t)
  | 0, e, t, h => by cases h
  | f + 1, e, t, h => by
    cases e with
    | Name x p =>
      simp only [compG] at h
      split at h
      · rename_i hl
        split at h
        · rename_i i ei
          cases h
          obtain ⟨h1, h2⟩ := loc_ok o hl
          exact sg_v o.nd (nl_ok o ei) h1 h2
        · cases h
      · cases h
    | Tuple es k p =>
      simp only [compG] at h
      split at h
      · rename_i hc
        split at h
        · rename_i ts ets
          cases h
          have al := mapO_ok ets
          have all : ∀ {es : List Expr} {ts : List CT}, All2 (fun x y => compG cc f x = some y) es ts → PGs X es (tGs X.K ts) ∧ ∀ e ∈ es, noStar e = true := by
            intro es ts al
            induction al with
            | nil => exact ⟨sg_nil, fun _ h => by cases h⟩
            | cons h hs ih =>
              refine ⟨sg_cons (compG_ok o f h) ih.1 (assign_cons (compG_star h)), fun e he => ?_⟩
              rcases List.mem_cons.mp he with rfl | he
              · exact compG_star h
              · exact ih.2 e he
          obtain ⟨h1, h2⟩ := all al
          obtain ⟨h3, h4⟩ := assign_star (env := X.env) h2
          exact sg_t (o.calm hc).1 h1 h3 al.len.symm h4
        · cases h
      · cases h
    | _ => simp [compG] at h
theorem noPar_is {a : Arguments} (h : noPar a = true) : a = ⟨[], [], none, [], [], none, []⟩ := by
  unfold noPar at h
  split at h
  · rfl
  · cases h
theorem lam_ok (o : OkE T C n TT cc X E cx) {func : Expr} {args : List Expr} {pos : Pos} {x : Str} {body : Expr} {scope : Scope} {cb : CE} (h : lamA cc func args = some (x, body, scope))
    (run : ∀ {TT2 : TB} {X2 : Cx} {E2 : L2.St → XK} {i : Nat} {cx2 : Cxt}, OkE T C i TT2 (cc.lamC scope) X2 E2 cx2 → PE X2 body (tE TT2 X2.K C E2 cx2 cb)) : PE X (.Call func args [] pos) (tE TT X.K C E cx (.callL x cb)) := by
  unfold lamA at h
  split at h
  · rename_i y p params body2 scope2 lpos
    split at h
    · rename_i hh
      obtain ⟨hm, hc, hg, hp, hs⟩ := hh
      split at h
      · rename_i rp eG
        split at h
        · rename_i hrp
          cases h
          obtain ⟨c1, c2, c3, c4⟩ := o.calm hc
          obtain ⟨c, P, t1, t2, t3, t4⟩ := o.mkl hm
          have hcl := o.callL hm
          have gf := o.gf n (Nat.le_refl n) TT.lam
          rw [tt_er c3] at gf
          have hpar := noPar_is hp
          subst hpar
          by_cases h2 : 2 ≤ n
          · obtain ⟨i, rfl⟩ : ∃ i, n = i + 2 := ⟨n - 2, by omega⟩
            refine so_lam c3 gf c2 (fun h => o.guards (hrp h)) eG (gl_ok o hg) hcl c4 t1 t2 t3 t4 (LamX.lamS_by (by rw [o.sc]; exact hs)) rfl (fun _ _ _ _ _ => rfl) fun A outer s2 H2 E2 f cn L hA hr => ?_
            have tk : Takes (LamX.lamCx X A outer s2 H2 E2 scope f cn) (fun cls d _ H => E2 cls d H) := takes_of (X := LamX.lamCx X A outer s2 H2 E2 scope f cn) rfl rfl rfl rfl
            exact run (TT2 := ⟨TT.tb, none, some L⟩) (X2 := LamX.lamCx X A outer s2 H2 E2 scope f cn) (E2 := fun _ => E2) (i := i) (cx2 := { cx with call := (cxt T i).call }) {
              gf := fun j hj lm => o.gf j (by omega) lm
              un := by
                have := hr.un
                show (A.deeper (LamX.lamEnv X scope s2.heap.objs.size f cn)).units + 200 < cLine
                omega
              guards := fun h => hA.trans (o.guards h)
              nd := o.nd
              eN := o.eN
              sc := rfl
              fn := fun _ => rfl
              calm := fun _ => ⟨rfl, hr, rfl, fun σ => passAt tk σ⟩
              call := rfl
              callL := fun h => by cases h
              act := fun a h => by cases h
              mkl := fun h => by cases h
              isE := o.isE
              ef := o.ef
              er := fun y h => by cases h }
          · refine pe_imp pe_never fun σ H Q ⟨β, m, ρ, rep, rf, hp⟩ => ?_
            have en : (cxt T n).callL = fun _ _ _ => .no := by
              match n, h2 with
              | 0, _ => rfl
              | 1, _ => rfl
              | n + 2, h2 => omega
            simp only [evE] at hp
            split at hp
            · rw [show cx.callL x = fun _ _ => R.no by rw [hcl, en]] at hp
              exact hp.elim
            · exact hp.elim
        · cases h
      · cases h
    · cases h
  · cases h
end

/-! ### expressions, tests -/
section
variable {T : Tbl} {C : CA} {n : Nat} {TT : TB} {cx : Cxt}
theorem compE_star {cc : CC} {f : Nat} {nl : Bool} {e : Expr} {c : CE} (h : compE cc f nl e = some c) : noStar e = true := by
  cases f with
  | zero => simp [compE] at h
  | succ f => cases e <;> first | rfl | (simp [compE] at h)
theorem key_pe {X : Cx} {k : Option Expr} {y : Ky} (h : key? k = some y) : ∃ e, k = some e ∧ PE X e (tC (kV y)) := by
  unfold key? at h
  split at h
  · cases h
    exact ⟨_, rfl, pe_str⟩
  · cases h
    exact ⟨_, rfl, pe_int⟩
  · cases h
theorem comp_ok : ∀ (f : Nat), (∀ (n : Nat) (TT : TB) (cx : Cxt) (cc : CC) (X : Cx) (E : L2.St → XK) (nl : Bool) (e : Expr) (c : CE), OkE T C n TT cc X E cx → compE cc f nl e = some c → PE X e (tE TT X.K C E cx c)) ∧
    (∀ (n : Nat) (TT : TB) (cx : Cxt) (cc : CC) (X : Cx) (E : L2.St → XK) (e : Expr) (c : CE), OkE T C n TT cc X E cx → compT cc f e = some c → PT X e (tT TT X.K C E cx c))
  | 0 => ⟨fun n TT cx cc X E nl e c o h => by simp [compE] at h, fun n TT cx cc X E e c o h => by simp [compT] at h⟩
  | f + 1 => by
    obtain ⟨ihE, ihT⟩ := comp_ok f
    have P : ∀ {n : Nat} {TT : TB} {cx : Cxt} {cc : CC} {X : Cx} {E : L2.St → XK}, OkE T C n TT cc X E cx → Part TT C X E cx (compE cc f false) := fun o => ⟨fun e c h => ihE _ _ _ _ _ _ _ _ _ o h, fun e c h => compE_star h⟩
    refine ⟨fun n TT cx cc X E nl e c o h => ?_, fun n TT cx cc X E e c o h => ?_⟩
    · have Po := P o
      cases e with
      | Constant k j p =>
        simp only [compE] at h
        split at h
        · rename_i d ed
          cases h
          exact so_cst ed
        · cases h
      | Name x p =>
        simp only [compE, nameE] at h
        split at h
        · rename_i hn
          obtain ⟨d1, d2⟩ := name_ok hn
          split at h
          · rename_i hv
            split at h
            · rename_i i ei
              cases h
              exact so_var (nl_ok o ei) (vis_ok o hv) d1 d2
            · cases h
          · split at h
            · rename_i hg
              split at h
              · rename_i d eG
                cases h
                obtain ⟨u, v, h1, h2, h3⟩ := (o.gf n (Nat.le_refl n) none).con x d eG
                exact so_con (gl_ok o hg) h1 h2 d1 h3
              · cases h
            · cases h
        · cases h
      | Tuple es k p =>
        simp only [compE] at h
        split at h
        · rename_i cs hcs
          cases h
          exact so_tup (pa_all Po (mapO_ok hcs)).1
        · cases h
      | List es p =>
        simp only [compE] at h
        split at h
        · rename_i cs hcs
          cases h
          cases nl with
          | true => exact so_nlst (pa_all Po (mapO_ok hcs)).1
          | false => exact so_lst (pa_all Po (mapO_ok hcs)).1
        · cases h
      | Dict keys es p =>
        simp only [compE] at h
        split at h
        · rename_i hh
          split at h
          · rename_i ks cs hk hcs
            cases h
            have alk := mapO_ok hk
            have alc := mapO_ok hcs
            cases keys with
            | nil =>
              cases es with
              | nil =>
                cases alk
                cases alc
                exact so_ndic0
              | cons _ _ => simp at hh
            | cons k0 keys =>
              have all : ∀ {keys : List (Option Expr)} {es : List Expr} {ks : List Ky} {cs : List CE}, All2 (fun x y => key? x = some y) keys ks → All2 (fun x y => compE cc f (dnl cc x) x = some y) es cs → keys.length = es.length →
                  PPs X p keys es ((ks.map fun k => tC (kV k)).zip (cs.map (tE TT X.K C E cx))) ∧ keys.all (·.isSome) = true := by
                intro keys es ks cs al
                induction al generalizing es cs with
                | nil =>
                  intro al2 hl
                  cases al2 with
                  | nil => exact ⟨pps_nil, rfl⟩
                  | cons _ _ => simp at hl
                | cons h1 hs ih =>
                  intro al2 hl
                  cases al2 with
                  | nil => simp at hl
                  | cons h2 hs2 =>
                    obtain ⟨e1, rfl, h3⟩ := key_pe (X := X) h1
                    obtain ⟨g1, g2⟩ := ih hs2 (by simpa using hl)
                    exact ⟨pps_cons h3 (ihE _ _ _ _ _ _ _ _ _ o h2) g1, by rw [List.all_cons, g2]; rfl⟩
              obtain ⟨g1, g2⟩ := all alk alc hh.1
              exact so_ndic g1 g2 hh.1 (by simp) hh.2 alk.len.symm alc.len.symm
          · cases h
        · cases h
      | BinOp a op b p =>
        simp only [compE] at h
        split at h
        · rename_i oo c1 c2 e1 e2 e3
          cases h
          rw [← bin_ok e1]
          unfold mkOp
          split
          · exact so_nadd (Po.pe _ _ e2) (Po.pe _ _ e3)
          · exact so_op _ (Po.pe _ _ e2) (Po.pe _ _ e3)
        · cases h
      | UnaryOp op a p =>
        cases op with
        | USub =>
          simp only [compE] at h
          split at h
          · rename_i c1 e1
            cases h
            exact so_neg (Po.pe _ _ e1)
          · cases h
        | Not =>
          simp only [compE] at h
          split at h
          · rename_i c1 e1
            cases h
            exact so_not (Po.pe _ _ e1)
          · cases h
        | _ => simp [compE] at h
      | BoolOp op es p =>
        simp only [compE] at h
        split at h
        · rename_i cs hcs
          exact bool_ok ((mapO_ok hcs).imp fun x y hxy => Po.pe _ _ hxy) h
        · cases h
      | Compare a ops bs p =>
        simp only [compE] at h
        exact (cmpE_ok Po o h).1
      | IfExp c0 a b p =>
        simp only [compE] at h
        split at h
        · rename_i x y z e1 e2 e3
          cases h
          exact so_ite (ihT _ _ _ _ _ _ _ _ o e1) (ihE _ _ _ _ _ _ _ _ _ o e2) (ihE _ _ _ _ _ _ _ _ _ o e3)
        · cases h
      | Subscript a i p =>
        simp only [compE] at h
        exact subE_ok Po o h
      | Call func args kws p =>
        cases kws with
        | nil =>
          simp only [compE] at h
          split at h
          · rename_i x body scope el
            split at h
            · rename_i cb ecb
              cases h
              exact lam_ok o el fun o2 => ihE _ _ _ _ _ _ _ _ _ o2 ecb
            · cases h
          · exact callE_ok Po o h
        | cons _ _ => simp [compE] at h
      | Attribute v a p =>
        cases v with
        | Name x px =>
          simp only [compE] at h
          split at h
          · rename_i hh
            split at h
            · rename_i i ei
              cases h
              obtain ⟨Y, a2, oe, pn, c2, dd, rfl, hz, hf, her⟩ := o.er x hh.1
              obtain ⟨d1, d2⟩ := name_ok hh.2.2
              refine so_fld (X := Y) hz hf rfl rfl her (fun hef => ?_) (nl_ok o ei) (vis_ok o hh.2.1) d1 d2
              rw [o.ef] at hef
              exact (o.gf n (Nat.le_refl n) none).ef _ _ hef
            · cases h
          · cases h
        | _ => simp [compE] at h
      | ListComp elt gens scope p =>
        cases gens with
        | nil => simp [compE] at h
        | cons g0 gens =>
          cases gens with
          | cons _ _ => simp [compE] at h
          | nil =>
            obtain ⟨tg, it, ifs, z⟩ := g0
            by_cases hz : z = 0
            · subst hz
              simp only [compE] at h
              split at h
              · rename_i hh
                obtain ⟨hc, h1, hb, hs⟩ := hh
                split at h
                · rename_i k its t cifs ce e1 e2 e3 e4
                  split at h
                  · rename_i hix
                    cases h
                    have hok : BlkOk X.N X.env.scope scope (ownOf cc.N scope.names) := blkOk_by (by rw [o.eN, o.sc]; exact hb)
                    refine so_comp (o.calm hc).1 o.nd (iterE_ok Po o e1) hok (fun s H A cl fp => compG_ok (o.blk hc s H A cl fp) f e2) (fun s H A cl fp => ?_) (fun s H A cl fp => ihE _ _ _ _ _ _ _ _ _ (o.blk hc s H A cl fp) e4) (fun j hj => ?_) (noSet_fold hs)
                    · have al := mapO_ok e3
                      cases al with
                      | nil => exact sts_nil
                      | cons h2 hs2 =>
                        cases hs2 with
                        | nil => exact sts_one (ihT _ _ _ _ _ _ _ _ (o.blk hc s H A cl fp) h2)
                        | cons _ _ => simp at h1
                    · rw [List.all_eq_true] at hix
                      exact List.contains_iff_mem.mp (hix j hj)
                  · cases h
                · cases h
              · cases h
            · exfalso
              have : compE cc (f + 1) nl (.ListComp elt [⟨tg, it, ifs, z⟩] scope p) = none := by
                unfold compE
                split <;> first | rfl | (rename_i heq; cases heq; exact absurd rfl hz) | (rename_i heq; cases heq)
              rw [this] at h
              cases h
      | _ => simp [compE] at h
    · have Po := P o
      have tst : ∀ {c : CE}, (match compE cc f false e with
          | some c => some (.tst c)
          | none => none) = some c → (∀ whole, isTrue e X.env whole = (do let v ← whole; standAt e.pos; holding [v] (truthy v))) → PT X e (tT TT X.K C E cx c) := fun {c} h he => by
        split at h
        · rename_i c1 e1
          cases h
          exact st_tst (Po.pe _ _ e1) he
        · cases h
      cases e with
      | UnaryOp op a p =>
        cases op with
        | Not =>
          simp only [compT] at h
          split at h
          · rename_i c1 e1
            cases h
            exact st_not (ihT _ _ _ _ _ _ _ _ o e1)
          · cases h
        | _ => simp [compT] at h
      | BoolOp op es p =>
        simp only [compT] at h
        split at h
        · rename_i cs hcs
          exact (boolT_ok ((mapO_ok hcs).imp fun x y hxy => ihT _ _ _ _ _ _ _ _ o hxy) h).pt
        · cases h
      | Compare a ops bs p =>
        simp only [compT] at h
        exact (cmpE_ok Po o h).2
      | Name x p =>
        simp only [compT] at h
        exact tst h fun _ => rfl
      | Call a b c0 p =>
        simp only [compT] at h
        exact tst h fun _ => rfl
      | Subscript a b p =>
        simp only [compT] at h
        exact tst h fun _ => rfl
      | Constant a b p =>
        simp only [compT] at h
        exact tst h fun _ => rfl
      | _ => simp [compT] at h
end
end MN

set_option maxRecDepth 100000
set_option maxHeartbeats 4000000
/-! MnCompS: statements: from the program's text to the evaluator's words. -/
namespace MN
open PySem PySem.Spec PyProof.Rows L2
theorem sw_par {a b : Expr} {x y : Str} {px py pt pt2 : Pos} {kt k2 : Nat} {env : Env} (hk : env.scope.kind = .function) (hx : env.scope.names.lookup x = some .local) (hy : env.scope.names.lookup y = some .local) (hl : (py.line == px.line) = true) (hyx : (y == x) = false)
    (hs : noStar a = true ∧ noStar b = true) (hf : (foldedForSure 8 a && foldedForSure 8 b) = false) (hc : (constantsAlone 8 a && constantsAlone 8 b) = false) :
    swappedStores [.Tuple [.Name x px, .Name y py] kt pt] (.Tuple [a, b] k2 pt2) env = pure (some [x, y]) := by
  have kx : env.kindOf x = some .local := hx
  have ky : env.kindOf y = some .local := hy
  have hb : env.blockKind = .function := by unfold Env.blockKind; rw [hk]; rfl
  have e1 : [a, b].all (foldedForSure 8) = false := by simpa using hf
  have e2 : [a, b].all (constantsAlone 8) = false := by simpa using hc
  obtain ⟨h1, h2⟩ := hs
  have ed : [x, y].eraseDups = [x, y] := by
    simp [List.eraseDups, List.eraseDupsBy, List.eraseDupsBy.loop, hyx]
  unfold swappedStores
  dsimp only
  rw [if_neg (by simp [hb])]
  rw [if_neg (by cases a <;> cases b <;> first | exact Bool.false_ne_true | exact absurd h1 Bool.false_ne_true | exact absurd h2 Bool.false_ne_true)]
  rw [e1, e2]
  simp only [List.filterMap_cons, List.filterMap_nil, kx, ky, Expr.pos, List.head?, Option.map, Option.getD, hl, beq_self_eq_true, Bool.and_self, if_true, ed]
  rfl
theorem sw_par3 {a b c : Expr} {x y z : Str} {px py pz pt pt2 : Pos} {kt k2 : Nat} {env : Env} (hk : env.scope.kind = .function) (hx : env.scope.names.lookup x = some .local) (hy : env.scope.names.lookup y = some .local) (hz : env.scope.names.lookup z = some .local) (hl : (py.line == px.line) = true) (hl2 : (pz.line == px.line) = true) (hyx : (y == x) = false) (hzx : (z == x) = false) (hzy : (z == y) = false)
    (hs : noStar a = true ∧ noStar b = true ∧ noStar c = true) (hf : (foldedForSure 8 a && (foldedForSure 8 b && foldedForSure 8 c)) = false) (hc : (constantsAlone 8 a && (constantsAlone 8 b && constantsAlone 8 c)) = false) :
    swappedStores [.Tuple [.Name x px, .Name y py, .Name z pz] kt pt] (.Tuple [a, b, c] k2 pt2) env = pure (some [x, y, z]) := by
  have kx : env.kindOf x = some .local := hx
  have ky : env.kindOf y = some .local := hy
  have kz : env.kindOf z = some .local := hz
  have hb : env.blockKind = .function := by unfold Env.blockKind; rw [hk]; rfl
  have e1 : [a, b, c].all (foldedForSure 8) = false := by simpa using hf
  have e2 : [a, b, c].all (constantsAlone 8) = false := by simpa using hc
  obtain ⟨h1, h2, h3⟩ := hs
  have ed : [x, y, z].eraseDups = [x, y, z] := by
    simp [List.eraseDups, List.eraseDupsBy, List.eraseDupsBy.loop, hyx, hzx, hzy]
  unfold swappedStores
  dsimp only
  rw [if_neg (by simp [hb])]
  rw [if_neg (by
    intro h
    obtain ⟨e, he, hq⟩ := List.any_eq_true.mp h
    have hn : noStar e = true := by
      simp only [List.mem_cons, List.not_mem_nil, or_false] at he
      rcases he with rfl | rfl | rfl <;> assumption
    cases e <;> first | exact absurd hn Bool.false_ne_true | exact absurd hq Bool.false_ne_true)]
  rw [e1, e2]
  simp only [List.filterMap_cons, List.filterMap_nil, kx, ky, kz, Expr.pos, List.head?, Option.map, Option.getD, hl, hl2, beq_self_eq_true, Bool.and_self, if_true, ed]
  rfl
theorem sw_fold {ts vs : List Expr} {pt pt2 : Pos} {kt k2 : Nat} {env : Env} (hf : vs.all (foldedForSure 8) = true) : swappedStores [.Tuple ts kt pt] (.Tuple vs k2 pt2) env = pure none := by
  unfold swappedStores
  dsimp only
  rw [hf]
  split
  · rfl
  · split
    · rfl
    · split
      · rfl
      · rfl
theorem sw_other {ts : List Expr} {e : Expr} {pt : Pos} {kt : Nat} {env : Env} (h : (match e with | .Tuple .. => false | _ => true) = true) : swappedStores [.Tuple ts kt pt] e env = pure none := by
  cases e <;> first | rfl | cases h
theorem sw_name {e : Expr} {x : Str} {px : Pos} {env : Env} : swappedStores [.Name x px] e env = pure none := by
  cases e <;> rfl
theorem sw_sub {e a b : Expr} {px : Pos} {env : Env} : swappedStores [.Subscript a b px] e env = pure none := by
  cases e <;> rfl
def noComp (e : Expr) : Bool := match e with
  | .ListComp .. => false
  | .SetComp .. => false
  | .DictComp .. => false
  | _ => true
theorem sole_no {tg e : Expr} {l : Nat} {env : Env} (h : noComp e = true) : swapsWithSole [tg] e l env = pure false := by
  cases e <;> first | rfl | cases h
theorem drop_no {e : Expr} {l : Nat} {env : Env} (h : noComp e = true) : swapsWith e none l env = pure false := by
  cases e <;> first | rfl | cases h
theorem sole_tup {ts : List Expr} {k : Nat} {p : Pos} {e : Expr} {l : Nat} {env : Env} : swapsWithSole [.Tuple ts k p] e l env = pure false := by
  cases e <;> rfl
theorem sole_sub {a b : Expr} {p : Pos} {e : Expr} {l : Nat} {env : Env} : swapsWithSole [.Subscript a b p] e l env = pure false := by
  cases e <;> rfl
theorem sole_cell {x : Str} {px : Pos} {e : Expr} {l : Nat} {env : Env} (h : env.scope.names.lookup x ≠ some .local) : swapsWithSole [.Name x px] e l env = pure false := by
  have k : (env.kindOf x == some NameKind.local) = false := by
    rw [show env.kindOf x = env.scope.names.lookup x from rfl]
    simpa using h
  cases e <;> first
    | rfl
    | (unfold swapsWithSole swapsWith
       simp only [k, Bool.and_false, Bool.false_and])

theorem fm_lt {α β : Type} {f : α → Option β} : ∀ {l : List α}, (∃ x ∈ l, f x = none) → (l.filterMap f).length < l.length
  | [], ⟨_, h, _⟩ => absurd h (List.not_mem_nil)
  | a :: l, ⟨x, h, e⟩ => by
    rw [List.filterMap_cons, List.length_cons]
    cases ha : f a with
    | none =>
      have := List.length_filterMap_le f l
      dsimp only
      omega
    | some b =>
      dsimp only
      rcases List.mem_cons.mp h with rfl | h
      · rw [e] at ha
        cases ha
      · have := fm_lt ⟨x, h, e⟩
        rw [List.length_cons]
        omega
/-- a target that is no fast local -/
def cellT (ns : List (Str × NameKind)) : Expr → Bool
  | .Name x _ => !(ns.lookup x == some .local)
  | _ => true
theorem sw_cell {ts vs : List Expr} {pt pt2 : Pos} {kt k2 : Nat} {env : Env} (h : ts.any (cellT env.scope.names) = true) : swappedStores [.Tuple ts kt pt] (.Tuple vs k2 pt2) env = pure none := by
  obtain ⟨e, he, hc⟩ := List.any_eq_true.mp h
  unfold swappedStores
  dsimp only
  split
  · rfl
  · split
    · rfl
    · rw [if_pos]
      · rw [Bool.or_eq_true]
        refine .inl ?_
        rw [bne_iff_ne]
        refine Nat.ne_of_lt (fm_lt ⟨e, he, ?_⟩)
        unfold cellT at hc
        cases e with
        | Name x p =>
          dsimp only at hc ⊢
          have k : (env.kindOf x == some NameKind.local) = false := by
            rw [show env.kindOf x = env.scope.names.lookup x from rfl]
            simpa using hc
          rw [k]
          rfl
        | _ => rfl

/-! ### the compiler -/
def parE (cc : CC) (g : Expr → Option CE) (ts : List Expr) (vs : List Expr) : Option CS := match ts, vs with
  | [.Name x px, .Name y py], [a, b] => if cc.calm = true ∧ cc.sc.kind = .function ∧ cc.sc.names.lookup x = some .local ∧ cc.sc.names.lookup y = some .local ∧ (py.line == px.line) = true ∧ (y == x) = false ∧ (foldedForSure 8 a && foldedForSure 8 b) = false ∧ (constantsAlone 8 a && constantsAlone 8 b) = false then
      (match ixOf cc.N x, ixOf cc.N y, g a, g b with
      | some i, some j, some c, some d => if i ≠ j then some (.par i j c d) else none
      | _, _, _, _ => none) else none
  | [.Name x px, .Name y py, .Name z pz], [a, b, e] => if cc.calm = true ∧ cc.sc.kind = .function ∧ cc.sc.names.lookup x = some .local ∧ cc.sc.names.lookup y = some .local ∧ cc.sc.names.lookup z = some .local ∧ (py.line == px.line) = true ∧ (pz.line == px.line) = true ∧ (y == x) = false ∧ (z == x) = false ∧ (z == y) = false ∧ (foldedForSure 8 a && (foldedForSure 8 b && foldedForSure 8 e)) = false ∧ (constantsAlone 8 a && (constantsAlone 8 b && constantsAlone 8 e)) = false then
      (match ixOf cc.N x, ixOf cc.N y, ixOf cc.N z, g a, g b, g e with
      | some i, some j, some l, some c, some d, some k => if i ≠ j ∧ i ≠ l ∧ j ≠ l then some (.par3 i j l c d k) else none
      | _, _, _, _, _, _ => none) else none
  | _, _ => none
def nameS (cc : CC) (f : Nat) (x : Str) (px : Pos) (e : Expr) : Option CS := match compE cc f (cc.mu x) e, compG cc f (.Name x px) with
  | some c, some t => (match e with
    | .ListComp _ _ scope pos => if cc.sc.names.lookup x = some .local then (if cc.sc.kind = .function ∧ (px.line == pos.line) = true ∧ (scope.names.any fun (n, k) => n == x && (k == .local || k == .cell)) = false then some (.asg t c) else none) else some (.asg t c)
    | _ => if noComp e = true then some (.asg t c) else none)
  | _, _ => none
def asgS (cc : CC) (f : Nat) (tg e : Expr) : Option CS := match tg with
  | .Name x px => nameS cc f x px e
  | .Tuple ts _ _ => (match e with
    | .Tuple vs _ _ => if vs.all (foldedForSure 8) = true then (match compE cc f false e, compG cc f tg with
        | some c, some t => some (.asg t c)
        | _, _ => none) else if ts.any (cellT cc.sc.names) = true then (match compE cc f false e, compG cc f tg with
        | some c, some t => some (.asg t c)
        | _, _ => none) else parE cc (compE cc f false) ts vs
    | _ => (match compE cc f false e, compG cc f tg with
        | some c, some t => some (.asg t c)
        | _, _ => none))
  | .Subscript o i _ => if noSl i = true then (match compE cc f false o, compE cc f false i, compE cc f false e with
    | some co, some ci, some c => some (.set co ci c)
    | _, _, _ => none) else none
  | _ => none
def CC.suite (cc : CC) (n : Str) : CC := { cc with calm := false, er := some n, mkl := false, lam := none, act := none }
/-- a clause without a name -/
def CC.suite0 (cc : CC) : CC := { cc with calm := false, er := none, mkl := false, lam := none, act := none }
/-- what is not covered comes to nothing -/
def orS : Option CS → Option CS
  | some c => some c
  | none => some .stuck
theorem orS_ok {o : Option CS} {c : CS} (h : orS o = some c) : o = some c ∨ c = .stuck := by
  cases o with
  | none => cases h; exact .inr rfl
  | some d => exact .inl h
mutual
def compS (cc : CC) : Nat → Stmt → Option CS
  | 0, _ => none
  | f + 1, s => orS (match s with
    | .Pass _ => some .pass
    | .Break _ => some .brk
    | .Continue _ => some .cnt
    | .Return none _ => some .ret0
    | .Return (some e) _ => (match compE cc f (cc.mu "return") e with
      | some c => some (.ret c)
      | none => none)
    | .Expr e _ => if noComp e = true then (match compE cc f false e with
      | some c => some (.ex c)
      | none => none) else none
    | .Assign [tg] e _ => asgS cc f tg e
    | .If c a b _ => (match compT cc f c, compSs cc f a, compSs cc f b with
      | some x, some y, some z => some (.ifs x y z)
      | _, _, _ => none)
    | .For tg it body [] _ => if cc.calm = true ∧ noSet it = true then (match iterE cc (compE cc f false) tg it, compG cc f tg, compSs cc f body with
      | some (k, its), some t, some b => some (.for_ k its t b)
      | _, _, _ => none) else none
    | .While c body [] _ => if cc.calm = true then (match compT cc f c, compSs cc f body with
      | some x, some b => some (.whl x b)
      | _, _ => none) else none
    | .Raise (some (.Call (.Name x _) args [] _)) none _ => if cc.calm = true ∧ isGl cc x = true then (match cc.G x, mapO (compE cc f false) args with
      | some (.exc nf), some cs => if args.length = nf then some (.raise x cs) else none
      | _, _ => none) else none
    | .Try body (h :: hs) [] [] _ => if cc.calm = true then (match compSs cc.try_ f body, compHs cc f (h :: hs) with
      | some b, some l => some (.try_ b l)
      | _, _ => none) else none
    | _ => none)
def compSs (cc : CC) : Nat → List Stmt → Option (List CS)
  | 0, _ => none
  | f + 1, ss => match ss with
    | [] => some []
    | s :: ss => (match compS cc f s, compSs cc f ss with
      | some c, some cs => some (c :: cs)
      | _, _ => none)
def compHs (cc : CC) : Nat → List ExceptHandler → Option (List (Str × Option Nat × List CS))
  | 0, _ => none
  | f + 1, hs => match hs with
    | [] => some []
    | .ExceptHandler (some (.Name c _)) (some n) (s0 :: ss) _ :: hs => if isGl cc c = true ∧ nameOk c = true ∧ isCls cc c = true ∧ cc.sc.names.lookup n = some .local then (match ixOf cc.N n, compSs (cc.suite n) f (s0 :: ss), compHs cc f hs with
      | some i, some cs, some l => some ((c, some i, cs) :: l)
      | _, _, _ => none) else none
    | .ExceptHandler (some (.Name c _)) none (s0 :: ss) _ :: hs => if isGl cc c = true ∧ nameOk c = true ∧ isCls cc c = true then (match compSs cc.suite0 f (s0 :: ss), compHs cc f hs with
      | some cs, some l => some ((c, none, cs) :: l)
      | _, _ => none) else none
    | _ => none
end
/-! ### its soundness -/
structure OkS (T : Tbl) (C : CA) (n : Nat) (TT : TB) (cc : CC) (X : Cx) (W : WX) (cx : Cxt) : Prop where
  oe : OkE T C n TT cc X (WE W) cx
  tk : Takes X W
  lam : ∀ a, cc.lam = some a → ∀ (W' : WX) (pn : List (Addr × Obj)) (xe : Value → Shared → Prop) (p1 p2 : Pos), Takes (X.tr pn xe) W' → PE (X.tr pn xe) (.Call (.Name a p1) [] [] p2) (tE TT X.K C (WE W') cx (.act 0))
  st : cc.calm = true → X.stack = X.env :: X.outer ∧ X.env.frame = some X.env.locals ∧ PassesOwn (model X.prog X.w) X.A X.env X.xe
section
variable {T : Tbl} {C : CA} {n : Nat} {TT : TB} {cx : Cxt} {cc : CC} {X : Cx} {W : WX}
theorem OkS.tr (o : OkS T C n TT cc X W cx) (hc : cc.calm = true) {W' : WX} {pn : List (Addr × Obj)} {xe : Value → Shared → Prop} (tk : Takes (X.tr pn xe) W') (own : PassesOwn (model X.prog X.w) X.A X.env xe) : OkS T C n TT cc.try_ (X.tr pn xe) W' cx where
  oe := {
    gf := o.oe.gf
    un := o.oe.un
    guards := o.oe.guards
    nd := o.oe.nd
    eN := o.oe.eN
    sc := o.oe.sc
    fn := o.oe.fn
    calm := fun h => ⟨(o.oe.calm h).1, (o.oe.calm h).2.1, (o.oe.calm h).2.2.1, fun σ => passAt tk σ⟩
    call := o.oe.call
    callL := o.oe.callL
    act := fun a h p1 p2 => o.lam a h W' pn xe p1 p2 tk
    mkl := o.oe.mkl
    isE := o.oe.isE
    ef := o.oe.ef
    er := fun y hy => by
      obtain ⟨Y, a, oe, pn2, c, dd, h1, h2, h3, h4⟩ := o.oe.er y hy
      have := (o.oe.calm hc).2.2.1
      rw [this] at h4
      cases h4 }
  tk := tk
  lam := fun a h => by cases h
  st := fun h => ⟨(o.st h).1, (o.st h).2.1, own⟩
theorem OkS.suite (o : OkS T C n TT cc X W cx) {y : Str} {a : Addr} {oe : Obj} {c : Str} {dd : Addr} {pn : List (Addr × Obj)} (hz : Zc (.ref (C c)) (some dd) oe) (hf : ∃ vs, oe.data = .fields vs) :
    OkS T C n ⟨TT.tb, some (a, dd, c), TT.lam⟩ (cc.suite y) (X.suite a ((a, oe) :: pn)) (fun _ _ _ _ => False) cx where
  oe := {
    gf := o.oe.gf
    un := o.oe.un
    guards := o.oe.guards
    nd := o.oe.nd
    eN := o.oe.eN
    sc := o.oe.sc
    fn := o.oe.fn
    calm := fun h => by cases h
    call := o.oe.call
    callL := fun h => by cases h
    act := fun a h => by cases h
    mkl := fun h => by cases h
    isE := o.oe.isE
    ef := o.oe.ef
    er := fun _ _ => ⟨X, a, oe, pn, c, dd, rfl, hz, hf, rfl⟩ }
  tk := fun _ _ ⟨_, _, _, _, _, _, _, _, _, _, _, _, _, _, _, _, w⟩ => w.elim
  lam := fun a h => by cases h
  st := fun h => by cases h
theorem OkS.suite0 (o : OkS T C n TT cc X W cx) {a : Addr} {oe : Obj} {c : Str} {dd : Addr} {pn : List (Addr × Obj)} (hz : Zc (.ref (C c)) (some dd) oe) (hf : ∃ vs, oe.data = .fields vs) :
    OkS T C n ⟨TT.tb, some (a, dd, c), TT.lam⟩ cc.suite0 (X.suite a ((a, oe) :: pn)) (fun _ _ _ _ => False) cx where
  oe := {
    gf := o.oe.gf
    un := o.oe.un
    guards := o.oe.guards
    nd := o.oe.nd
    eN := o.oe.eN
    sc := o.oe.sc
    fn := o.oe.fn
    calm := fun h => by cases h
    call := o.oe.call
    callL := fun h => by cases h
    act := fun a h => by cases h
    mkl := fun h => by cases h
    isE := o.oe.isE
    ef := o.oe.ef
    er := fun _ h => by cases h }
  tk := fun _ _ ⟨_, _, _, _, _, _, _, _, _, _, _, _, _, _, _, _, w⟩ => w.elim
  lam := fun a h => by cases h
  st := fun h => by cases h
theorem ss_setLc {i : Nat} {y : Str} {py : Pos} {elt tg iter : Expr} {ifs : List Expr} {scope : Scope} {own : List (Str × Nat)} {pos spos : Pos} {nl : Bool} {k : ItK} {its : List CE} {t : CT} {cifs : List CE} {celt : CE} (hc : X.calm = true) (hN : X.N.Nodup) (hy : X.N[i]? = some y) (hyl : X.env.scope.names.lookup y = some .local)
    (hsw : swapsWith (.ListComp elt [⟨tg, iter, ifs, 0⟩] scope pos) (some (.Name y py)) spos.line X.env = pure true) (hi : PI X tg iter (tI TT X.K C (WE W) cx k its)) (ok : BlkOk X.N X.env.scope scope own)
    (hg : ∀ (s : Shared) (H : Hp) (A : Addr) (cl : List (Str × Addr)) (fp : List Addr), PG (X.blk s H scope (compEnvC scope cl A X.env) fp) tg (tG X.K t)) (ht : ∀ (s : Shared) (H : Hp) (A : Addr) (cl : List (Str × Addr)) (fp : List Addr), PTs (X.blk s H scope (compEnvC scope cl A X.env) fp) ifs (tTs TT X.K C E0 cx cifs))
    (he : ∀ (s : Shared) (H : Hp) (A : Addr) (cl : List (Str × Addr)) (fp : List Addr), PE (X.blk s H scope (compEnvC scope cl A X.env) fp) elt (tE TT X.K C E0 cx celt)) (hix : ∀ j ∈ t.ix, j ∈ own.map (·.2)) (hs : ∀ x, foldedSetIterable iter X.env x = pure x) :
    PS X (.Assign [.Name y py] (.ListComp elt [⟨tg, iter, ifs, 0⟩] scope pos) spos) (tS TT X.K C W cx (.asg (.v i) (.comp nl k its t (own.map (·.2)) cifs celt))) :=
  ps_imp (ps_setLc hc hN hy hyl hsw hi ok hg ht he hs) fun D σ H ⟨β, m, ρ, rep, rf, hp⟩ => by
    simp only [evS] at hp
    refine comp_read (E := WE W) (nl := nl) hix σ H _ (es1 rep rf hp fun δ x m1 v H1 g r f q p => ?_)
    unfold asg at p
    by_cases hi : i < ρ.length
    · rw [if_pos hi] at p
      exact p.nx0 r (f.set q) (by rw [List.length_set])
    · rw [if_neg hi] at p
      exact p.elim
/-- a comprehension's parts -/
theorem lc_parts {E : L2.St → XK} (o : OkE T C n TT cc X E cx) {f : Nat} {nl : Bool} {elt : Expr} {gens : List Comprehension} {scope : Scope} {p : Pos} {c : CE} (h : compE cc f nl (.ListComp elt gens scope p) = some c) :
    ∃ tg it ifs k its t cifs ce, gens = [⟨tg, it, ifs, 0⟩] ∧ c = .comp nl k its t ((ownOf cc.N scope.names).map (·.2)) cifs ce ∧ X.calm = true ∧ PI X tg it (tI TT X.K C E cx k its) ∧ BlkOk X.N X.env.scope scope (ownOf cc.N scope.names) ∧
      (∀ (s : Shared) (H : Hp) (A : Addr) (cl : List (Str × Addr)) (fp : List Addr), PG (X.blk s H scope (compEnvC scope cl A X.env) fp) tg (tG X.K t)) ∧ (∀ (s : Shared) (H : Hp) (A : Addr) (cl : List (Str × Addr)) (fp : List Addr), PTs (X.blk s H scope (compEnvC scope cl A X.env) fp) ifs (tTs TT X.K C E0 cx cifs)) ∧
      (∀ (s : Shared) (H : Hp) (A : Addr) (cl : List (Str × Addr)) (fp : List Addr), PE (X.blk s H scope (compEnvC scope cl A X.env) fp) elt (tE TT X.K C E0 cx ce)) ∧ (∀ j ∈ t.ix, j ∈ (ownOf cc.N scope.names).map (·.2)) ∧ (∀ x, foldedSetIterable it X.env x = pure x) := by
  cases f with
  | zero => simp [compE] at h
  | succ f =>
    obtain ⟨ihE, ihT⟩ := comp_ok (T := T) (C := C) f
    have P : ∀ {cc : CC} {X : Cx} {E : L2.St → XK}, OkE T C n TT cc X E cx → Part TT C X E cx (compE cc f false) := fun o => ⟨fun e c h => ihE _ _ _ _ _ _ _ _ _ o h, fun e c h => compE_star h⟩
    cases gens with
    | nil => simp [compE] at h
    | cons g0 gens =>
      cases gens with
      | cons _ _ => simp [compE] at h
      | nil =>
        obtain ⟨tg, it, ifs, z⟩ := g0
        by_cases hz : z = 0
        · subst hz
          simp only [compE] at h
          split at h
          · rename_i hh
            obtain ⟨hc, h1, hb, hs⟩ := hh
            split at h
            · rename_i k its t cifs ce e1 e2 e3 e4
              split at h
              · rename_i hix
                cases h
                refine ⟨tg, it, ifs, k, its, t, cifs, ce, rfl, rfl, (o.calm hc).1, iterE_ok (P o) o e1, blkOk_by (by rw [o.eN, o.sc]; exact hb), fun s H A cl fp => compG_ok (o.blk hc s H A cl fp) f e2, fun s H A cl fp => ?_, fun s H A cl fp => ihE _ _ _ _ _ _ _ _ _ (o.blk hc s H A cl fp) e4, fun j hj => ?_, noSet_fold hs⟩
                · have al := mapO_ok e3
                  cases al with
                  | nil => exact sts_nil
                  | cons h2 hs2 =>
                    cases hs2 with
                    | nil => exact sts_one (ihT _ _ _ _ _ _ _ _ (o.blk hc s H A cl fp) h2)
                    | cons _ _ => simp at h1
                · rw [List.all_eq_true] at hix
                  exact List.contains_iff_mem.mp (hix j hj)
              · cases h
            · cases h
          · cases h
        · exfalso
          have : compE cc (f + 1) nl (.ListComp elt [⟨tg, it, ifs, z⟩] scope p) = none := by
            unfold compE
            split <;> first | rfl | (rename_i heq; cases heq; exact absurd rfl hz) | (rename_i heq; cases heq)
          rw [this] at h
          cases h
theorem compG_name {f : Nat} {x : Str} {px : Pos} {t : CT} (h : compG cc f (.Name x px) = some t) : ∃ i, t = .v i ∧ ixOf cc.N x = some i := by
  cases f with
  | zero => cases h
  | succ f =>
    simp only [compG] at h
    split at h
    · split at h
      · rename_i i ei
        cases h
        exact ⟨i, rfl, ei⟩
      · cases h
    · cases h
theorem ps_stuck {s : Stmt} : PS X s (tS TT X.K C W cx .stuck) := ⟨fun pins sh σ H D I ⟨β, m, ρ, rep, rf, hp⟩ => by
  simp only [evS] at hp
  exact hp.elim⟩
theorem asgS_ok (o : OkS T C n TT cc X W cx) {f : Nat} {tg e : Expr} {c : CS} {pos : Pos} (h : asgS cc f tg e = some c) : PS X (.Assign [tg] e pos) (tS TT X.K C W cx c) := by
  have oe := o.oe
  obtain ⟨ihE, ihT⟩ := comp_ok (T := T) (C := C) f
  unfold asgS at h
  split at h
  · rename_i x px
    unfold nameS at h
    split at h
    · rename_i ce t e1 e2
      split at h
      · rename_i elt gens scope p
        split at h
        · rename_i hl
          split at h
          · rename_i hh
            cases h
            obtain ⟨tg, it, ifs, k, its, t2, cifs, ce2, rfl, rfl, h1, h2, h3, h4, h5, h6, h7, h8⟩ := lc_parts oe e1
            obtain ⟨i, rfl, ei⟩ := compG_name e2
            have hl2 : X.env.scope.names.lookup x = some .local := by rw [oe.sc]; exact hl
            exact ss_setLc h1 oe.nd (nl_ok oe ei) hl2 (sw_true (by rw [oe.sc]; exact hh.1) hl2 hh.2.1 hh.2.2) h2 h3 h4 h5 h6 h7 h8
          · cases h
        · rename_i hl
          cases h
          exact ss_asg (ihE _ _ _ _ _ _ _ _ _ oe e1) (compG_ok oe f e2) (sole_cell (by rw [oe.sc]; exact hl)) sw_name rfl
      · split at h
        · rename_i hn
          cases h
          exact ss_asg (ihE _ _ _ _ _ _ _ _ _ oe e1) (compG_ok oe f e2) (sole_no hn) sw_name rfl
        · cases h
    · cases h
  · rename_i ts kt pt
    split at h
    · rename_i vs k2 pt2
      split at h
      · rename_i hf
        split at h
        · rename_i ce t e1 e2
          cases h
          exact ss_asg (ihE _ _ _ _ _ _ _ _ _ oe e1) (compG_ok oe f e2) sole_tup (sw_fold hf) rfl
        · cases h
      · split at h
        · rename_i hf
          split at h
          · rename_i ce t e1 e2
            cases h
            exact ss_asg (ihE _ _ _ _ _ _ _ _ _ oe e1) (compG_ok oe f e2) sole_tup (sw_cell (by rw [oe.sc]; exact hf)) rfl
          · cases h
        unfold parE at h
        split at h
        · rename_i x px y py a b _ _
          split at h
          · rename_i hh
            obtain ⟨h1, h2, h3, h4, h5, h6, h7, h8⟩ := hh
            split at h
            · rename_i i j c1 c2 e1 e2 e3 e4
              split at h
              · rename_i hij
                cases h
                have hx : X.env.scope.names.lookup x = some .local := by rw [oe.sc]; exact h3
                have hy : X.env.scope.names.lookup y = some .local := by rw [oe.sc]; exact h4
                exact ss_par (oe.calm h1).1 oe.nd (nl_ok oe e1) (nl_ok oe e2) hij hx hy (so_cons (ihE _ _ _ _ _ _ _ _ _ oe e3) (so_cons (ihE _ _ _ _ _ _ _ _ _ oe e4) so_nil (star_cons (compE_star e4))) (star_cons (compE_star e3)))
                  (sw_par (by rw [oe.sc]; exact h2) hx hy h5 h6 ⟨compE_star e3, compE_star e4⟩ h7 h8) sole_tup
              · cases h
            · cases h
          · cases h
        · rename_i x px y py z pz a b e _ _
          split at h
          · rename_i hh
            obtain ⟨h1, h2, h3, h4, h5, h6, h7, h8, h9, h10, h11, h12⟩ := hh
            split at h
            · rename_i i j l c1 c2 c3 e1 e2 e3 e4 e5 e6
              split at h
              · rename_i hij
                cases h
                have hx : X.env.scope.names.lookup x = some .local := by rw [oe.sc]; exact h3
                have hy : X.env.scope.names.lookup y = some .local := by rw [oe.sc]; exact h4
                have hz : X.env.scope.names.lookup z = some .local := by rw [oe.sc]; exact h5
                exact ss_par3 (oe.calm h1).1 oe.nd (nl_ok oe e1) (nl_ok oe e2) (nl_ok oe e3) hij.1 hij.2.1 hij.2.2 hx hy hz (so_cons (ihE _ _ _ _ _ _ _ _ _ oe e4) (so_cons (ihE _ _ _ _ _ _ _ _ _ oe e5) (so_cons (ihE _ _ _ _ _ _ _ _ _ oe e6) so_nil (star_cons (compE_star e6))) (star_cons (compE_star e5))) (star_cons (compE_star e4)))
                  (sw_par3 (by rw [oe.sc]; exact h2) hx hy hz h6 h7 h8 h9 h10 ⟨compE_star e4, compE_star e5, compE_star e6⟩ h11 h12) sole_tup
              · cases h
            · cases h
          · cases h
        · cases h
    · rename_i hne
      split at h
      · rename_i ce t e1 e2
        cases h
        exact ss_asg (ihE _ _ _ _ _ _ _ _ _ oe e1) (compG_ok oe f e2) sole_tup (sw_other (by cases e <;> first | rfl | exact absurd rfl (hne _ _ _))) rfl
      · cases h
  · rename_i a i p
    split at h
    · rename_i hsl
      split at h
      · rename_i co ci ce e1 e2 e3
        cases h
        have hu := oe.un
        exact ss_set (by omega) (ihE _ _ _ _ _ _ _ _ _ oe e3) (ihE _ _ _ _ _ _ _ _ _ oe e1) (ihE _ _ _ _ _ _ _ _ _ oe e2) (fun _ => by cases i <;> first | rfl | cases hsl) sole_sub sw_sub rfl
      · cases h
    · cases h
  · cases h
theorem compS_ok : ∀ (f : Nat), (∀ (TT : TB) (cc : CC) (X : Cx) (W : WX) (s : Stmt) (c : CS), OkS T C n TT cc X W cx → compS cc f s = some c → PS X s (tS TT X.K C W cx c)) ∧
    (∀ (TT : TB) (cc : CC) (X : Cx) (W : WX) (s : List Stmt) (c : List CS), OkS T C n TT cc X W cx → compSs cc f s = some c → PSs X s (tSs TT X.K C W cx c)) ∧
    (∀ (TT : TB) (cc : CC) (X : Cx) (W : WX) (hs : List ExceptHandler) (l : List (Str × Option Nat × List CS)), OkS T C n TT cc X W cx → compHs cc f hs = some l → ClOk X hs (l.map (clOf TT X.K C cx)))
  | 0 => ⟨fun _ _ _ _ _ _ _ h => by simp [compS] at h, fun _ _ _ _ _ _ _ h => by simp [compSs] at h, fun _ _ _ _ _ _ _ h => by simp [compHs] at h⟩
  | f + 1 => by
    obtain ⟨ihS, ihSs, ihHs⟩ := compS_ok f
    refine ⟨fun TT cc X W s c o h => ?_, fun TT cc X W s c o h => ?_, fun TT cc X W hs l o h => ?_⟩
    · have oe := o.oe
      obtain ⟨ihE, ihT⟩ := comp_ok (T := T) (C := C) f
      have P : Part TT C X (WE W) cx (compE cc f false) := ⟨fun e c h => ihE _ _ _ _ _ _ _ _ _ oe h, fun e c h => compE_star h⟩
      unfold compS at h
      rcases orS_ok h with h | rfl
      rotate_left
      · exact ps_stuck
      split at h
      · cases h; exact ss_pass
      · cases h; exact ss_brk
      · cases h; exact ss_cnt
      · cases h; exact ss_ret0
      · split at h
        · rename_i c1 e1
          cases h
          exact ss_ret (ihE _ _ _ _ _ _ _ _ _ oe e1)
        · cases h
      · split at h
        · rename_i hn
          split at h
          · rename_i c1 e1
            cases h
            exact ss_ex (P.pe _ _ e1) (drop_no hn)
          · cases h
        · cases h
      · exact asgS_ok o h
      · split at h
        · rename_i x y z e1 e2 e3
          cases h
          exact ss_ifs (ihT _ _ _ _ _ _ _ _ oe e1) (ihSs _ _ _ _ _ _ o e2) (ihSs _ _ _ _ _ _ o e3)
        · cases h
      · split at h
        · rename_i hh
          split at h
          · rename_i k its t b e1 e2 e3
            cases h
            exact ss_for (o.st hh.1).2.2 (oe.calm hh.1).1 (iterE_ok P oe e1) (compG_ok oe f e2) (ihSs _ _ _ _ _ _ o e3) (noSet_fold hh.2)
          · cases h
        · cases h
      · split at h
        · rename_i hh
          split at h
          · rename_i x b e1 e2
            cases h
            exact ss_whl (o.st hh).2.2 (ihT _ _ _ _ _ _ _ _ oe e1) (ihSs _ _ _ _ _ _ o e2)
          · cases h
        · cases h
      · split at h
        · rename_i hh
          split at h
          · rename_i nf cs eG e1
            split at h
            · rename_i hl
              cases h
              have al := mapO_ok e1
              obtain ⟨hpa, hns⟩ := pa_all P al
              obtain ⟨c1, c2, c3, c4⟩ := oe.calm hh.1
              have gf := oe.gf n (Nat.le_refl n) TT.lam
              rw [tt_er c3] at gf
              have hll := al.len
              exact so_raise gf c2 c1 o.tk eG (gl_ok oe hh.2) oe.call (fun _ _ _ _ _ _ _ c => by
                obtain ⟨_, _, _, _, _, _, _, _, _, _, _, _, z⟩ := c
                exact z.elim) hpa (by omega) hll.symm hns
            · cases h
          · cases h
        · cases h
      · split at h
        · rename_i hh
          split at h
          · rename_i b l e1 e2
            cases h
            obtain ⟨c1, c2, c3, c4⟩ := oe.calm hh
            obtain ⟨s1, s2, s3⟩ := o.st hh
            exact ss_try s1 s2 oe.nd o.tk c3 (fun c c' b hb => by
              rw [oe.isE] at hb
              exact ((oe.gf n (Nat.le_refl n) none).isE c c' b hb).exm) (fun W' pn xe tk own => ihSs _ _ _ _ _ _ (o.tr hh tk own) e1) (ihHs _ _ _ _ _ _ o e2)
          · cases h
        · cases h
      · cases h
    · unfold compSs at h
      split at h
      · cases h; exact ss_nil
      · split at h
        · rename_i c1 cs e1 e2
          cases h
          exact ss_cons (ihS _ _ _ _ _ _ o e1) (ihSs _ _ _ _ _ _ o e2)
        · cases h
    · unfold compHs at h
      split at h
      · cases h; exact .nil
      · split at h
        · rename_i hh
          obtain ⟨h1, h2, h3, h4⟩ := hh
          split at h
          · rename_i i cs l2 e1 e2 e3
            cases h
            have oe := o.oe
            refine .some ⟨gl_ok oe h1, (name_ok h2).1, .inl ?_⟩ (nl_ok oe e1) (by show X.env.scope.names.lookup _ = _; rw [oe.sc]; exact h4) (suite_ok fun a oe2 c dd pn hz hf => ihSs _ _ _ _ _ _ (o.suite hz hf) e2) (ihHs _ _ _ _ _ _ o e3)
            refine (oe.gf n (Nat.le_refl n) none).cls _ ?_
            unfold isCls at h3
            split at h3
            · rename_i eG; exact .inl eG
            · rename_i nf eG; exact .inr ⟨nf, eG⟩
            · cases h3
          · cases h
        · cases h
      · split at h
        · rename_i hh
          obtain ⟨h1, h2, h3⟩ := hh
          split at h
          · rename_i cs l2 e2 e3
            cases h
            have oe := o.oe
            refine .none ⟨gl_ok oe h1, (name_ok h2).1, .inl ?_⟩ (suite_ok fun a oe2 c dd pn hz hf => ihSs _ _ _ _ _ _ (o.suite0 hz hf) e2) (ihHs _ _ _ _ _ _ o e3)
            refine (oe.gf n (Nat.le_refl n) none).cls _ ?_
            unfold isCls at h3
            split at h3
            · rename_i eG; exact .inl eG
            · rename_i nf eG; exact .inr ⟨nf, eG⟩
            · cases h3
          · cases h
        · cases h
      · cases h
end
end MN

set_option maxRecDepth 100000
set_option maxHeartbeats 4000000
/-! MnFn: a def keeps its promise. -/
namespace MN
open PySem PySem.Spec PyProof.Rows L2

section
variable {TT : TB} {K : PySem.W.Frag} {C : CA} {β : BB} {δ : List Addr} {H H1 : Hp} {m m1 : Store}
theorem cut_w : ∀ a, a ∈ β → (∃ u, H1 a = some u) → a ∈ β ++ δ := fun a h _ => BB.mem_app.mpr (.inl h)
theorem cut_pos {n : Nat} {a : Addr} (hn : n < β.pos.length) (e : (β ++ δ).pos[n]? = some a) : β.pos[n]? = some a := by
  have e : (β.pos ++ δ)[n]? = some a := e
  rw [List.getElem?_append_left hn] at e
  exact e
theorem RV.cut {x : Val} {v : V} (h : RV K (β ++ δ) H1 x v) (o : oldV β.pos.length x = true) : RV K β H1 x v := by
  cases x with
  | d x => exact DP.re cut_w h
  | loc n =>
    obtain ⟨a, e, h⟩ := h
    exact ⟨a, cut_pos (of_decide_eq_true o) e, h⟩
theorem RKs.cut : ∀ {xs : List (Ky × Val)} {vs : List (Key × V)}, RKs K (β ++ δ) H1 xs vs → (xs.all fun p => oldV β.pos.length p.2) = true → RKs K β H1 xs vs
  | _, _, .nil, _ => .nil
  | _, _, .cons h hs, o => by
    rw [List.all_cons, Bool.and_eq_true] at o
    exact .cons (h.cut o.1) (RKs.cut hs o.2)
theorem oldV_le {a b : Nat} (h : a ≤ b) {x : Val} (o : oldV a x = true) : oldV b x = true := by
  cases x with
  | d _ => rfl
  | loc n =>
    have := of_decide_eq_true (show decide (n < a) = true from o)
    exact decide_eq_true (show n < b by omega)
theorem RepS.cut (r : RepS TT K (β ++ δ) H1 m1) {k : Nat} (hk : β.pos.length = k) : RepS TT K β H1 (m1.take k) where
  nd := (List.nodup_append.mp (show (β.pos ++ δ).Nodup from r.nd)).1
  len := by
    have hl : (β.pos ++ δ).length = m1.length := r.len
    rw [List.length_append] at hl
    rw [List.length_take]
    omega
  outs := r.outs
  at_ := fun n a ob e h => by
    have hn : n < β.pos.length := (List.getElem?_eq_some_iff.mp e).1
    have e2 : (β ++ δ).pos[n]? = some a := by
      show (β.pos ++ δ)[n]? = some a
      rw [List.getElem?_append_left hn]
      exact e
    rw [List.getElem?_take_of_lt (by omega)] at h
    obtain ⟨u, e1, q, old⟩ := r.at_ n a ob e2 h
    refine ⟨u, e1, ?_, old⟩
    cases ob with
    | lst xs =>
      cases u with
      | lst vs => exact DPs.re cut_w (show DPs K (β ++ δ) H1 xs vs from q)
      | _ => exact False.elim q
    | dic kvs =>
      cases u with
      | dK kws =>
        refine RKs.cut (show RKs K (β ++ δ) H1 kvs kws from q) ?_
        have old : (kvs.all fun p => oldV n p.2) = true := old
        rw [List.all_eq_true] at old ⊢
        exact fun p hp => oldV_le (by omega) (old p hp)
      | _ => exact False.elim q
  tabs := r.tabs
  er := r.er
  ac := r.ac
theorem Grow.cut (g : Grow β H δ H1) : Grow β H [] H1 := ⟨(fun _ h => by cases h), g.tup, g.frz, g.keep, g.tbl⟩
/-- what a def hands out -/
theorem leave_ok {keep : Bool} {k : Nat} {x : Val} {Q : VK} {QE : XK} (rep : RepS TT K β H m) (hk : m.length = k) (hp : Post TT K C (RV K) β H (leave keep k x m1) Q QE) {v : V} (g : Grow β H δ H1) (r : RepS TT K (β ++ δ) H1 m1) (q : RV K (β ++ δ) H1 x v) : Q v H1 := by
  have hl : β.pos.length = k := rep.len.trans hk
  unfold leave at hp
  cases keep with
  | true => exact hp δ H1 v g r q
  | false =>
    simp only [Bool.false_eq_true, if_false] at hp
    cases x with
    | d y => exact hp [] H1 v g.cut (by rw [BB.app_nil]; exact r.cut hl) (by rw [BB.app_nil]; exact RV.cut (x := .d y) q rfl)
    | loc n =>
      dsimp only at hp
      by_cases hn : n < k
      · rw [if_pos hn] at hp
        exact hp [] H1 v g.cut (by rw [BB.app_nil]; exact r.cut hl) (by rw [BB.app_nil]; exact RV.cut (x := .loc n) q (decide_eq_true (by omega)))
      · rw [if_neg hn] at hp
        obtain ⟨a, ea, rfl⟩ := q
        split at hp
        · rename_i xs hm
          obtain ⟨vs, h1, h2⟩ := r.lst ea hm
          have ha : a ∈ δ := by
            have e2 : (β.pos ++ δ)[n]? = some a := ea
            rw [List.getElem?_append_right (by omega)] at e2
            exact List.mem_of_getElem? e2
          refine hp [] H1 _ g.cut (by rw [BB.app_nil]; exact r.cut hl) ?_
          rw [BB.app_nil]
          exact .lst (rep.notin (g.new a ha)) (.inl h1) (DPs.re cut_w h2)
        · exact hp.elim
theorem ExcAt.cut {e : Exc} {dx : Addr} (h : ExcAt K (β ++ δ) H1 e dx) : ExcAt K β H1 e dx := ExcAt.re cut_w h
theorem ret_ok {keep : Bool} {r : RS} {Q : VK} {QE : XK} {W : WX} {n : Nat} (rep : RepS TT K β H m) (hW : ∀ cls d σ H, QE cls d H → W cls d σ H) (hp : Post TT K C (RV K) β H (ret keep m.length r) Q QE) :
    PostS TT K C W n β H r { nx := fun _ H' => Q .non H', rt := Q } := by
  cases r with
  | rt x m1 => exact fun δ H1 v g r q => leave_ok rep rfl hp g r q
  | nx ρ m1 => exact fun δ H1 σ1 g r f l => leave_ok (x := .d .none) rep rfl hp g r (show DP K _ H1 _ _ from .non)
  | ex e ρ m1 =>
    intro δ H1 σ1 dx g r f l x
    refine hW _ _ _ _ (hp [] H1 dx g.cut (by rw [BB.app_nil]; exact r.cut rep.len) (by rw [BB.app_nil]; exact x.cut))
  | bk _ _ => exact hp.elim
  | ct _ _ => exact hp.elim
  | no => exact hp.elim
end

/-! ### a def -/
theorem rvs_get {K : PySem.W.Frag} {β : BB} {H : Hp} : ∀ {xs : List Val} {vs : List V} {i : Nat} {x : Val}, RVs K β H xs vs → xs[i]? = some x → ∃ v, vs[i]? = some v ∧ RV K β H x v
  | _, _, _, _, .nil, e => by simp at e
  | _, _, 0, _, .cons h _, e => by simp at e; subst e; exact ⟨_, rfl, h⟩
  | _, _, i + 1, x, .cons _ hs, e => by
    obtain ⟨v, h1, h2⟩ := rvs_get (i := i) (x := x) hs (by simpa using e)
    exact ⟨v, by simpa using h1, h2⟩
theorem rf_start {K : PySem.W.Frag} {β : BB} {H : Hp} {N : List Str} {xs : List Val} {vs : List V} {nl : Nat} (h : RVs K β H xs vs) (hn : nl = N.length) : RF K β H (xs.map (fun v => some (.v v)) ++ List.replicate (nl - xs.length) none) (L2.start N vs) := by
  have hl := h.length
  subst hn
  have key : ∀ {i : Nat} {o : SV}, (xs.map (fun v => some (SV.v v)) ++ List.replicate (N.length - xs.length) none)[i]? = some (some o) → ∃ x, xs[i]? = some x ∧ o = .v x := fun {i o} e => by
    by_cases hi : i < xs.length
    · rw [List.getElem?_append_left (by rw [List.length_map]; exact hi), List.getElem?_map] at e
      obtain ⟨x, h1, h2⟩ := Option.map_eq_some_iff.mp e
      cases h2
      exact ⟨x, h1, rfl⟩
    · rw [List.getElem?_append_right (by rw [List.length_map]; omega), List.getElem?_replicate] at e
      split at e <;> cases e
  refine ⟨?_, fun i x e => ?_, fun i ee e => ?_, fun i e => ?_⟩
  · unfold L2.start
    rw [List.length_append, List.length_append, List.length_map, List.length_map, List.length_replicate, List.length_replicate]
    omega
  · obtain ⟨y, h1, h2⟩ := key e
    cases h2
    obtain ⟨v, h3, h4⟩ := rvs_get h h1
    refine ⟨v, ?_, h4⟩
    have hi : i < vs.length := (List.getElem?_eq_some_iff.mp h3).1
    unfold L2.start
    rw [List.getElem?_append_left (by rw [List.length_map]; exact hi), List.getElem?_map, h3]
    rfl
  · obtain ⟨y, _, h2⟩ := key e
    cases h2
  · obtain ⟨y, _, h2⟩ := key e
    cases h2
/-- the name of the lambdas that a def makes -/
def lamQ (qual : Str) (scope : Scope) : Str := (envOfC qual scope 0 0 .none).qual ++ "<lambda>"
section
variable {T : Tbl} {G : Str → Option GK} {TT : TB} {C : CA} {n : Nat} {P : Program} {w : World} {K : PySem.W.Frag} {mg : Str → Option Value} {base : Heap}
theorem fn0 {x : Str} {rp : Bool} {np : Nat} {a : Addr} {fd : FuncData} {ps : List Str} (hl : ps.length = np) : FnG P w K mg base rp 2 a fd ps (spF T TT C K np 0 x) :=
  ⟨fun vs H Q E ⟨h, _⟩ => h.trans hl.symm, fun _ _ _ _ _ _ _ _ _ _ _ _ _ _ ⟨_, _, _, _, _, _, h⟩ => h.elim⟩
theorem fn_ok {x : Str} {nm qual : Str} {params : Arguments} {body : List Stmt} {scope : Scope} {dvs : List V} {kws : List (Str × V)} {f : Addr} {fd : FuncData} {N ps : List Str} {d : FD} {mu : Str → Bool} {rp mkl : Bool} {fuel : Nat}
    (F : FunD K nm qual params body scope dvs kws f fd) (S : FnScope N ps scope) (hT : T.fn x = some d) (hexc : d.exc = none) (hps : ps.length = d.np) (hN : d.nl = N.length) (h0 : TT.er = none) (gf : ∀ j, j ≤ n → ∀ lm, GF T G ⟨TT.tb, none, lm⟩ C j P w K mg base)
    (hmk : mkl = true → ∃ c P0, fd.code = .ref c ∧ LamX.TabB base mg c P0 ∧ (P0, lamQ qual scope) ∈ TT.tb ∧ ∀ p ∈ TT.tb, p.1 = P0 → p.2 = lamQ qual scope)
    (hb : compSs ⟨N, scope, fun _ => true, G, true, none, mu, rp, mkl, none, none⟩ fuel body = some d.body) : FnG P w K mg base rp (n + 1 + 2) f fd ps (spF T TT C K d.np (n + 1) x) :=
  fnG_of F S (fun vs H Q E ⟨h, _⟩ => h.trans hps.symm) fun cdv hcd A outer s H vs Q E hr hg ⟨hv, β, m, xs, rep, rv, hp⟩ => by
    have tk : Takes (cxOf (L2.CX P w) P w K mg base N qual scope f cdv A outer s H E) (fun cls d _ H => E cls d H) := takes_of (X := cxOf (L2.CX P w) P w K mg base N qual scope f cdv A outer s H E) rfl rfl rfl rfl
    have own : PassesOwn (model P w) (cxOf (L2.CX P w) P w K mg base N qual scope f cdv A outer s H E).A (cxOf (L2.CX P w) P w K mg base N qual scope f cdv A outer s H E).env (cxOf (L2.CX P w) P w K mg base N qual scope f cdv A outer s H E).xe := passes_of (X := cxOf (L2.CX P w) P w K mg base N qual scope f cdv A outer s H E) rfl
    have o : OkS T C n TT ⟨N, scope, fun _ => true, G, true, none, mu, rp, mkl, none, none⟩ (cxOf (L2.CX P w) P w K mg base N qual scope f cdv A outer s H E) (fun cls d _ H => E cls d H) (cxt T n) := {
      oe := {
        gf := gf
        un := by
          have := hr.un
          show (A.deeper (envOfC qual scope s.heap.objs.size f cdv)).units + 200 < cLine
          omega
        guards := hg
        nd := S.nd
        eN := rfl
        sc := rfl
        fn := fun _ => rfl
        calm := fun _ => ⟨rfl, hr, h0, fun σ => passAt tk σ⟩
        call := rfl
        callL := fun _ => rfl
        act := fun a h => by cases h
        mkl := fun h => by
          obtain ⟨c, P0, e1, e2, e3, e4⟩ := hmk h
          exact ⟨c, P0, e2, hcd.symm.trans e1, e3, e4⟩
        isE := by cases n <;> rfl
        ef := by cases n <;> rfl
        er := fun y hy => by cases hy }
      tk := tk
      lam := fun a h => by cases h
      st := fun _ => ⟨rfl, rfl, own⟩ }
    have hbody := (compS_ok (T := T) (C := C) (n := n) (cx := cxt T n) fuel).2.1 TT _ _ _ _ _ o hb
    refine ⟨_, hbody, β, m, _, rep, rf_start rv hN, ?_⟩
    have hx : xs.length = d.np := rv.length.trans hv
    have e : (cxt T (n + 1)).call x xs m = ret d.keep m.length (evSs (cxt T n) d.body (xs.map (fun v => some (.v v)) ++ List.replicate (d.nl - xs.length) none) m) := by
      show run T (cxt T n) x xs m = _
      unfold run
      rw [hT]
      dsimp only
      rw [hexc]
      dsimp only
      have e1 : fill d.np d.dfl xs = some xs := by
        unfold fill
        rw [if_pos ⟨by omega, by omega⟩, hx]
        have : d.dfl.drop (d.np + d.dfl.length - d.np) = [] := List.drop_eq_nil_of_le (by omega)
        rw [this, List.map_nil, List.append_nil]
      rw [e1]
    rw [e] at hp
    exact ret_ok rep (fun _ _ _ _ h => h) hp
/-! ### a def that gets a lambda -/
theorem lam_start {N : List Str} {p : Str} {β : BB} {H : Hp} {L : LamRec} {nl : Nat} (hn : nl = N.length) (hp : N[0]? = some p) (ha : β.act = some L) (la : LamAt K β H L) : RF K β H (some .lam :: List.replicate (nl - 1) none) (L2.start N [.ref L.f]) := by
  subst hn
  have rest : ∀ {i : Nat} {o : SV}, (List.replicate (N.length - 1) (none : Option SV))[i]? = some (some o) → False := fun {i o} e => by
    rw [List.getElem?_replicate] at e
    split at e <;> cases e
  have hl : 0 < N.length := (List.getElem?_eq_some_iff.mp hp).1
  refine ⟨?_, fun i x e => ?_, fun i ee e => ?_, fun i e => ?_⟩
  · unfold L2.start
    rw [List.length_append, List.length_map, List.length_cons, List.length_replicate, List.length_replicate, List.length_cons, List.length_nil]
    omega
  · match i, e with
    | 0, e => cases e
    | i + 1, e => exact (rest e).elim
  · match i, e with
    | 0, e => cases e
    | i + 1, e => exact (rest e).elim
  · match i, e with
    | 0, e => exact ⟨L, ha, rfl, la⟩
    | i + 1, e => exact (rest e).elim
theorem lam0 {x : Str} {rp : Bool} {g : Addr} {N : List Str} {scope : Scope} {p : Str} {cd : Value} : LamG T TT C P w K mg base rp 0 x g N scope p cd :=
  fun _ _ _ _ _ _ _ _ _ _ _ _ _ _ _ _ hp => hp.elim
theorem fnL_ok {x : Str} {params : Arguments} {body : List Stmt} {scope : Scope} {g : Addr} {fd : FuncData} {N : List Str} {p : Str} {d : FD} {mu : Str → Bool} {rp : Bool} {fuel : Nat}
    (F : FunD K x x params body scope [] [] g fd) (S : FnScope N [p] scope) (hT : T.fn x = some d) (hexc : d.exc = none) (hnp : d.np = 1) (hN : d.nl = N.length) (hp0 : N[0]? = some p) (hbd : Binds K fd [p] []) (gf : ∀ j, j ≤ n → ∀ lm, GF T G ⟨TT.tb, none, lm⟩ C j P w K mg base)
    (hb : compSs ⟨N, scope, fun _ => true, G, true, none, mu, rp, false, some p, none⟩ fuel body = some d.body) : LamG T TT C P w K mg base rp (n + 1) x g N scope p fd.code := by
  obtain ⟨oc, od, dV, kV, doc, pm, an, cdv, ct, osl, rfl, lk, hcd, _, _⟩ := F.ex
  intro A outer s H L th β m Q E hr hg e0 la rep act hp
  cases n with
  | zero => exact hp.elim
  | succ i =>
    have KX : K.In s.heap := e0.mod.kin.keeps fun b o e => (e0.bs b o e).1
    refine LamX.run_ofS (N := N) (ps := [p]) (us := [.ref L.f]) (vs := [.ref L.f]) (k := i + 1 + 2) lk hcd S hr e0 (hbd s [.ref L.f] KX rfl) (.cons rfl .nil) rfl fun hr2 => ?_
    have tk : Takes (cxOf (L2.CX P w) P w K mg base N x scope g cdv A outer s H E) (fun cls d _ H => E cls d H) := takes_of (X := cxOf (L2.CX P w) P w K mg base N x scope g cdv A outer s H E) rfl rfl rfl rfl
    have own : PassesOwn (model P w) (cxOf (L2.CX P w) P w K mg base N x scope g cdv A outer s H E).A (cxOf (L2.CX P w) P w K mg base N x scope g cdv A outer s H E).env (cxOf (L2.CX P w) P w K mg base N x scope g cdv A outer s H E).xe := passes_of (X := cxOf (L2.CX P w) P w K mg base N x scope g cdv A outer s H E) rfl
    have o : OkS T C (i + 1) ⟨TT.tb, none, some L⟩ ⟨N, scope, fun _ => true, G, true, none, mu, rp, false, some p, none⟩ (cxOf (L2.CX P w) P w K mg base N x scope g cdv A outer s H E) (fun cls d _ H => E cls d H) { cxt T (i + 1) with act := th (cxt T i).call } := {
      oe := {
        gf := gf
        un := by
          have := hr2.un
          show (A.deeper (envOfC x scope s.heap.objs.size g cdv)).units + 200 < cLine
          omega
        guards := hg
        nd := S.nd
        eN := rfl
        sc := rfl
        fn := fun _ => rfl
        calm := fun _ => ⟨rfl, hr2, rfl, fun σ => passAt tk σ⟩
        call := rfl
        callL := fun h => by cases h
        act := fun a h => by cases h
        mkl := fun h => by cases h
        isE := rfl
        ef := rfl
        er := fun y hy => by cases hy }
      tk := tk
      lam := fun a h W2 pn xe p1 p2 tk2 => by
        cases h
        refine pe_imp (act W2 pn xe p1 p2 tk2) fun σ H Q ⟨γ, m2, ρ, r1, r2, r3⟩ => ⟨γ, m2, ρ, r1, r2, ?_⟩
        simp only [evE] at r3
        exact r3
      st := fun _ => ⟨rfl, rfl, own⟩ }
    have hbody := (compS_ok (T := T) (C := C) (n := i + 1) (cx := { cxt T (i + 1) with act := th (cxt T i).call }) fuel).2.1 ⟨TT.tb, none, some L⟩ _ _ _ _ _ o hb
    refine ⟨_, hbody, β, m, _, rep, lam_start hN hp0 rep.ac la, ?_⟩
    have e : (cxt T (i + 1 + 1)).callL x th m = ret d.keep m.length (evSs { cxt T (i + 1) with act := th (cxt T i).call } d.body (some .lam :: List.replicate (d.nl - 1) none) m) := by
      show runL T (cxt T (i + 1)) x th m = _
      unfold runL
      rw [hT]
      dsimp only
      rw [hexc]
      dsimp only
      rw [if_pos hnp]
      rfl
    rw [e] at hp
    exact ret_ok rep (fun _ _ _ _ h => h) hp
end
end MN

set_option maxRecDepth 100000
set_option maxHeartbeats 4000000
/-! MnInit: the __init__ of an own exception of one field. -/
namespace MN
open PySem PySem.Spec PyProof.Rows L2

section
variable {X : Cx} {c : Str} {B : Addr} {e : Expr} {es : List Expr} {ta : TA} {p1 p2 pos : Pos}
theorem pe_binit {pl : Sem Bool} {mc : Value} (hg : Gl X c) (hm : X.mg c = some (.ref B)) (hdb : (c == ("__debug__" : Str)) = false) (rd : PySem.W.readsIn X.K B mc = true) (hga : PySem.W.specialIn X.K (.ref B) "__getattribute__" = some (some (.builtin "type.__getattribute__"))) (vV : PySem.W.findCls X.K (.ref B) mc "__init__" = some (.val (.builtin "ValueError.__init__"))) (ha : PA X (e :: es) ta)
    (hc : eval (.Call (.Attribute (.Name c p1) "__init__" p2) (e :: es) [] pos) X.env = (do
      let ov ← eval (.Name c p1) X.env
      standAt p2.atName
      let (f, first) ← holding [ov] (getMethod ov "__init__" pl)
      callWith pos f first (backTo pos (starEach (e :: es) X.env)) (backToKw pos (keywordEach [] X.env))) := by rfl)
    (he : starEach (e :: es) X.env = (false, eval e X.env) :: starEach es X.env := by rfl) (hpl : (backTo pos (starEach es X.env)).any (·.1) = false := by rfl) :
    PE X (.Call (.Attribute (.Name c p1) "__init__" p2) (e :: es) [] pos) (tVeI X.K ta) := by
  constructor
  intro pins s σ H Q I h
  apply PySem.W.methodCall_KW (ld_glob I hg hm ?_ hdb) hc
  apply PySem.W.method_cls I.kIn hga
  apply PySem.W.cls_value I.kIn rd vV (by decide +kernel)
  show wpAny _ _ (callWith pos (Value.builtin "ValueError.__init__") [] (backTo pos (starEach (e :: es) X.env)) []) _ _ _
  refine PyProof.Rows.callWith_method1 (thn (ha.run pos pins _ σ H _ (I.tok _) h) fun us s1 ⟨vs, H1, I1, r1, a, C, ws, ev, hl, T, ea, q⟩ => ?_) he hpl
  subst ev
  cases r1 with
  | @cons _ u0 _ ur ra rw2 =>
    obtain rfl : u0 = Value.ref a := ra
    have hlen : ur.length ≤ sizeLine := by
      rw [← Paired.length rw2, sizeLine_eq]
      omega
    exact oinit_ok T I1 ea hlen fun s2 J => ⟨.non, H1, J, rfl, q⟩
end

section
variable {P : Program} {w : World} {K : PySem.W.Frag} {mg : Str → Option Value} {base : Heap} {qual : Str} {params : Arguments} {body : List Stmt} {scope : Scope} {fI Cx0 B : Addr} {fd : FuncData} {f c msg slf : Str} {mc : Value} {j : Nat} {p1 p2 p3 p4 p5 p6 p7 p8 p9 p10 : Pos}
/-- c.__init__(self, 'a text'); self.f = f -/
theorem init_ok (F : FunD K "__init__" qual params body scope [] [] fI fd) (S : FnScope [slf, f] [slf, f] scope)
    (hb : body = [.Expr (.Call (.Attribute (.Name c p1) "__init__" p2) [.Name slf p3, .Constant (.str msg) j p4] [] p5) p6, .Assign [.Attribute (.Name slf p7) f p8] (.Name f p9) p10])
    (hs : scope.names.lookup slf = some .local) (hf : scope.names.lookup f = some .local) (hg : scope.names.lookup c = some .globalImplicit) (d1 : nameOk slf = true) (d2 : nameOk f = true) (d3 : nameOk c = true)
    (hm : mg c = some (.ref B)) (rd : PySem.W.readsIn K B mc = true) (hga : PySem.W.specialIn K (.ref B) "__getattribute__" = some (some (.builtin "type.__getattribute__"))) (vV : PySem.W.findCls K (.ref B) mc "__init__" = some (.val (.builtin "ValueError.__init__")))
    (T : OexC K Cx0) (hno : PySem.W.findIn K (.ref Cx0) f = some none)
    (hc : ∀ env : Env, ∃ pl : Sem Bool, eval (.Call (.Attribute (.Name c p1) "__init__" p2) [.Name slf p3, .Constant (.str msg) j p4] [] p5) env = (do
      let ov ← eval (.Name c p1) env
      standAt p2.atName
      let (f, first) ← holding [ov] (getMethod ov "__init__" pl)
      callWith p5 f first (backTo p5 (starEach [.Name slf p3, .Constant (.str msg) j p4] env)) (backToKw p5 (keywordEach [] env)))) :
    FnOk P w K mg base (L2.CX P w) 1 fI fd [slf, f] (fun vs H Q _ => ∃ (a : Addr) (ys : List V), vs = .ref a :: ys ∧ ys.length = [f].length ∧ H a = some (exo a Cx0 none) ∧ ∀ dx, H dx = none → dx ≠ a → Q .non (upd (upd H dx (exd dx ([f].zip ys).reverse)) a (exo a Cx0 (some dx)))) := by
  subst hb
  refine F.ok S (fun vs H Q E ⟨a, ys, h1, h2, _⟩ => by rw [h1, List.length_cons, h2]; rfl) fun cdv A outer s H vs Q E hr ⟨a, ys, h1, h2, h3, h4⟩ => ?_
  obtain ⟨s1, s2⟩ := name_ok d1
  obtain ⟨f1, f2⟩ := name_ok d2
  obtain ⟨c1, c2⟩ := name_ok d3
  have h0 : PE (cxOf (L2.CX P w) P w K mg base [slf, f] qual scope fI cdv A outer s H E) (.Name slf p3) (tVar 0) := pe_var rfl (.inl hs) s1 s2
  have h0' : PE (cxOf (L2.CX P w) P w K mg base [slf, f] qual scope fI cdv A outer s H E) (.Name slf p7) (tVar 0) := pe_var rfl (.inl hs) s1 s2
  have hv : PE (cxOf (L2.CX P w) P w K mg base [slf, f] qual scope fI cdv A outer s H E) (.Name f p9) (tVar 1) := pe_var rfl (.inl hf) f1 f2
  obtain ⟨pl, hcl⟩ := hc (cxOf (L2.CX P w) P w K mg base [slf, f] qual scope fI cdv A outer s H E).env
  refine ⟨_, pss_cons (ps_expr (pe_binit (X := cxOf (L2.CX P w) P w K mg base [slf, f] qual scope fI cdv A outer s H E) hg hm c1 rd hga vV (pa_cons h0 (pa_cons pe_str pa_nil)) hcl)) (pss_one (ps_ost h0' hv)), ?_⟩
  subst h1
  cases ys with
  | nil => cases h2
  | cons y ys =>
    cases ys with
    | cons _ _ => simp at h2
    | nil =>
      refine ⟨.ref a, rfl, a, Cx0, [.str msg], rfl, by simp, T, h3, ?_⟩
      exact ⟨y, rfl, .ref a, rfl, a, Cx0, rfl, T, hno, .inl ⟨h3, fun dx hdx hda => h4 dx hdx hda⟩⟩
end
end MN

set_option maxRecDepth 100000
set_option maxHeartbeats 4000000
/-! MnEnd: the law's call from outside. -/
namespace MN
open PySem PySem.Spec PyProof.Rows L2

abbrev tab0 : Obj := { cls := .none, data := .fields #[] }
/-- the abstract heap that holds the script and the empty tables of code objects -/
def onlyH (a : Addr) (o : Obj) (xs : List V) (ts : List Addr) : Hp := fun b => if b = a then some (.frz o (.lst xs)) else if b ∈ ts then some (.tbl #[]) else none
theorem onlyH_at {a : Addr} {o : Obj} {xs : List V} {ts : List Addr} : onlyH a o xs ts a = some (.frz o (.lst xs)) := if_pos rfl
theorem onlyH_tab {a b : Addr} {o : Obj} {xs : List V} {ts : List Addr} (h : b ≠ a) (hb : b ∈ ts) : onlyH a o xs ts b = some (.tbl #[]) := (if_neg h).trans (if_pos hb)
theorem onlyH_some {a b : Addr} {o : Obj} {xs : List V} {ts : List Addr} {u : HO} (h : onlyH a o xs ts b = some u) : (b = a ∧ u = .frz o (.lst xs)) ∨ (b ≠ a ∧ b ∈ ts ∧ u = .tbl #[]) := by
  unfold onlyH at h
  by_cases e : b = a
  · rw [if_pos e] at h
    cases h
    exact .inl ⟨e, rfl⟩
  · rw [if_neg e] at h
    by_cases e2 : b ∈ ts
    · rw [if_pos e2] at h
      cases h
      exact .inr ⟨e, e2, rfl⟩
    · rw [if_neg e2] at h
      cases h
theorem law_run {P : Program} {w : World} {K : PySem.W.Frag} {mg mb : Str → Option Value} {fa a : Addr} {cs : List (Addr × Addr)} {s1 : Shared} {vs : List Value} {ns : List Int} (KX : K.In s1.heap) (hns : s1.heap.Ns mainGlobals mg) (hb : s1.heap.Ns builtinsNs mb)
    (hbb : ∀ x : Str, x ≠ "__name__" → mb x = bootBuiltins x) (hlim : s1.heap.NoLimit) (hg : s1.gens = #[]) (ha : s1.heap.get? a = some { cls := .type "list", data := .seq vs.toArray }) (hi : IntsAre vs ns) (hl : ns.length ≤ sizeLine)
    (hno : ∀ b o, K.lookup b = some o → o.cls ≠ .type "list") (hT : ∀ p ∈ cs, s1.heap.get? p.2 = some tab0) (nT : ∀ p ∈ cs, K.lookup p.2 = none) (hC : ∀ p ∈ cs, PySem.W.CodeHd s1.heap p.1 p.2)
    (hbm : ∃ (bm : Addr) (ob : Obj), mg "__builtins__" = some (.ref bm) ∧ bm ≠ builtinsNs ∧ s1.heap.get? bm = some ob ∧ ob.cls = .type "module" ∧ ob.dict = some builtinsNs ∧ ob.data = .plain)
    (run : ∀ base : Heap, K.In base → base.Ns mainGlobals mg → (∀ p ∈ cs, LamX.TabB base mg p.1 p.2) → Env0 P w K mg base callerA [] s1 (onlyH a { cls := .type "list", data := .seq vs.toArray } (ns.map V.int) (cs.map (·.2))) →
      codeAny (model P w) callerA (.call (.ref fa) ⟨[.ref a], []⟩) (CR (L2.CX P w) [] P w (onlyH a { cls := .type "list", data := .seq vs.toArray } (ns.map V.int) (cs.map (·.2))) s1 (fun v _ => v = .bl true) (fun _ _ _ => False)) s1) :
    codeAny (model P w) callerA (.call (.ref fa) ⟨[.ref a], []⟩) (fun r s2 => r = .ok (.ret (.bool true)) ∧ OldK s1.heap s2.heap ∧ s2.os = s1.os ∧ AllBare s2.gens) s1 := by
  have rv := vals_ints hi
  have tabAt : ∀ {b : Addr}, b ∈ cs.map (·.2) → s1.heap.get? b = some tab0 := fun {b} hb => by
    obtain ⟨p, hp, rfl⟩ := List.mem_map.mp hb
    exact hT p hp
  have aT : a ∉ cs.map (·.2) := fun z => by
    have q := tabAt z
    rw [ha] at q
    have z2 : Data.seq vs.toArray _ = Data.fields #[] := congrArg Obj.data (Option.some.inj q)
    cases z2
  have hat : ∀ {b : Addr}, b ∈ cs.map (·.2) → onlyH a { cls := .type "list", data := .seq vs.toArray } (ns.map V.int) (cs.map (·.2)) b = some (.tbl #[]) := fun {b} hb => onlyH_tab (fun z => aT (z ▸ hb)) hb
  generalize hH : onlyH a { cls := .type "list", data := .seq vs.toArray } (ns.map V.int) (cs.map (·.2)) = H at run hat
  have hOnly : ∀ {b : Addr} {u : HO}, H b = some u → (b = a ∧ u = .frz { cls := .type "list", data := .seq vs.toArray } (.lst (ns.map V.int))) ∨ (b ≠ a ∧ b ∈ cs.map (·.2) ∧ u = .tbl #[]) := fun {b u} e => by
    rw [← hH] at e
    exact onlyH_some e
  have hok : HOk P w H s1.heap := fun b u e => by
    rcases hOnly e with ⟨rfl, rfl⟩ | ⟨_, h2, rfl⟩
    · exact ⟨ha, by rw [List.length_map]; exact hl, vs, _, rv, ha⟩
    · exact tabAt h2
  have keep : ∀ {b : Addr} {o : Obj}, s1.heap.get? b = some o → b ≠ a → o ≠ tab0 → (hidT s1.heap H).get? b = some o := fun {b o} e ne nt => hidT_get e (by
    cases q : H b with
    | none => rfl
    | some u =>
      rcases hOnly q with ⟨z, _⟩ | ⟨_, z, _⟩
      · exact absurd z ne
      · have e2 := tabAt z
        rw [e] at e2
        exact absurd (Option.some.inj e2) nt)
  have ns_keep : ∀ {b : Addr} {m : Str → Option Value}, s1.heap.Ns b m → (hidT s1.heap H).Ns b m := fun {b m} ⟨o, es, ep, e, d, r⟩ => ⟨o, es, ep, keep e (fun z => by
    subst z
    rw [ha] at e
    cases e
    have d2 : Data.seq vs.toArray _ = Data.dict es ep := d
    cases d2) (fun z => by
    subst z
    have d2 : Data.fields #[] = Data.dict es ep := d
    cases d2), d, r⟩
  have hK : K.In (hidT s1.heap H) := fun b o e => by
    have e1 := KX b o e
    by_cases hb1 : b ∈ cs.map (·.2)
    · obtain ⟨p, hp, rfl⟩ := List.mem_map.mp hb1
      rw [nT p hp] at e
      cases e
    · refine hidT_get e1 ?_
      cases q : H b with
      | none => rfl
      | some u =>
        rcases hOnly q with ⟨rfl, _⟩ | ⟨_, z, _⟩
        · rw [ha] at e1
          cases e1
          exact absurd rfl (hno _ _ e)
        · exact absurd z hb1
  have hM : Mod K mg (hidT s1.heap H) := ⟨hK, ns_keep hns, ⟨mb, ns_keep hb, hbb⟩, let ⟨mc, h1, h2⟩ := hlim; ⟨mc, ns_keep h1, h2⟩⟩
  have tabs : ∀ p ∈ cs, LamX.TabB (hidT s1.heap H) mg p.1 p.2 := fun p hp => by
    have hp2 : p.2 ∈ cs.map (·.2) := List.mem_map.mpr ⟨p, hp, rfl⟩
    constructor
    · obtain ⟨o, us, fl, tf, fg, tg, inF, tx, tt, e1, r1, r2, r3, rest⟩ := hC p hp
      refine ⟨o, us, fl, tf, fg, tg, inF, tx, tt, keep e1 (fun z => ?_) (fun z => ?_), r1, r2, r3, rest⟩
      · rw [z, ha] at e1
        cases e1
        have d2 : Data.seq vs.toArray _ = Data.fields us := r2
        cases d2
      · subst z
        have d2 : Data.fields #[] = Data.fields us := r2
        cases d2
        simp at r3
    · obtain ⟨bm, ob, b1, b2, b3, b4, b5, b6⟩ := hbm
      refine ⟨bm, ob, b1, b2, fun q => ?_, fun q => ?_, keep b3 (fun z => ?_) (fun z => ?_), b4, b5, b6⟩
      · obtain ⟨o, es, ep, e, hd, _⟩ := hns
        rw [q, e] at b3
        cases b3
        rw [hd] at b6
        cases b6
      · rw [q, hT p hp] at b3
        cases b3
        cases b6
      · rw [z, ha] at b3
        cases b3
        cases b6
      · subst z
        cases b6
    · intro z
      obtain ⟨o, es, ep, e, hd, _⟩ := hns
      rw [z, hT p hp] at e
      cases e
      cases hd
  have e0 : Env0 P w K mg (hidT s1.heap H) callerA [] s1 H := ⟨rfl, hM, fun b o e => of_hidT e, Nat.le_of_eq (hidT_size _ _), trivial, (fun b z => by cases z), hok, .of_eq hg⟩
  refine codeAny_mono (run _ hK (ns_keep hns) tabs e0) fun r s2 h => ?_
  match r, h with
  | .error e, h =>
    obtain ⟨_, _, _, _, _, _, _, _, _, _, _, _, z⟩ := h
    exact z.elim
  | .ok .next, h => exact h.elim
  | .ok .brk, h => exact h.elim
  | .ok .cont, h => exact h.elim
  | .ok (.ret u), h =>
    obtain ⟨v, H2, os, bare, un, hok2, rr, q⟩ := h
    cases (show v = .bl true from q)
    cases (show u = Value.bool true from rr)
    have grown : ∀ {b : Addr}, b ∈ cs.map (·.2) → ∃ more : Array Value, s2.heap.get? b = some { cls := .none, data := .fields more } := fun {b} hb => by
      obtain ⟨more, z⟩ := un.tbls b #[] (hat hb)
      exact ⟨_, hok2 b _ z⟩
    have same : ∀ b o, b ∉ cs.map (·.2) → s1.heap.get? b = some o → s2.heap.get? b = some o := fun b o nb e => by
      cases q : H b with
      | none => exact un.keep b o e q (fun z => by cases z) (fun z => by cases z)
      | some u =>
        rcases hOnly q with ⟨rfl, rfl⟩ | ⟨_, z, _⟩
        · have z2 := un.frzs _ _ _ q
          obtain ⟨e1, _⟩ := hok _ _ q
          obtain ⟨e2, _⟩ := hok2 _ _ z2
          rw [e] at e1
          cases e1
          exact e2
        · exact absurd z nb
    refine ⟨rfl, ⟨fun b o e => ?_, fun b o e => ?_⟩, os, bare⟩
    · by_cases hb1 : b ∈ cs.map (·.2)
      · obtain ⟨more, hm⟩ := grown hb1
        obtain ⟨p, hp, rfl⟩ := List.mem_map.mp hb1
        rw [hT p hp] at e
        cases e
        exact .inr (.inl ⟨((hC p hp).tab (hT p hp)).isCodeTable, rfl, #[], more, rfl, by rw [Array.empty_append]; exact hm⟩)
      · exact .inl (same b o hb1 e)
    · by_cases hb1 : b ∈ cs.map (·.2)
      · obtain ⟨more, hm⟩ := grown hb1
        exact ⟨_, hm⟩
      · exact ⟨o, same b o hb1 e⟩
/-- the law's end: F gives the written part, the tables, the function object, the promise -/
theorem walk_ofG {l : PySem.W.OpenLaw} {n k : Nat} {q : Program} {loose : List Str} {XP : (Str → Option Value) → Heap → Prop} {YP : World → Heap → Prop} {d : DefRec} {x : Str} (hn : l.most = some n) (hn2 : n ≤ sizeLine) (hdf : d.params.defaults = []) (hr : Room k callerA)
    (F : ∀ (w : World) (mg : Str → Option Value) (fa : Addr) (h : Heap), YP w h → h.Ns mainGlobals mg → mg d.name = some (.ref fa) →
      ∃ (K : PySem.W.Frag) (fd : FuncData) (sp : Sp) (rp : Bool) (cs : List (Addr × Addr)), K.In h ∧ (∀ b o, K.lookup b = some o → o.cls ≠ .type "list") ∧ (∀ p ∈ cs, h.get? p.2 = some tab0) ∧ (∀ p ∈ cs, K.lookup p.2 = none) ∧ (∀ p ∈ cs, PySem.W.CodeHd h p.1 p.2) ∧ (∀ (s : Shared) (u : Value), BindsTo s fd ⟨[u], []⟩ [(x, u)]) ∧
        (∀ (a : Addr) (o : Obj) (ns : List Int), ns.length ≤ n → a ∉ cs.map (·.2) → sp [.ref a] (onlyH a o (ns.map V.int) (cs.map (·.2))) (fun v _ => v = .bl true) fun _ _ _ => False) ∧
        ∀ base : Heap, K.In base → base.Ns mainGlobals mg → (∀ p ∈ cs, LamX.TabB base mg p.1 p.2) → FnG l.prog w K mg base rp k fa fd [x] sp) :
    PySem.W.WalkO q loose XP YP l.row.toRowW d [] (fun f vs => PySem.call f vs) := by
  refine Att.attach_call hn hdf fun w s₀ s1 mg mb fa o pm cd doc a vs ns G Y ho hd hcd hmg hobj hints hlen hg => ?_
  obtain ⟨K, fd, sp, rp, cs, KX, hno, hT, nT, hC, hb, hsp, hF⟩ := F w mg fa _ Y G.T.g hmg
  have aT : a ∉ cs.map (·.2) := fun z => by
    obtain ⟨p, hp, e⟩ := List.mem_map.mp z
    have q := hT p hp
    rw [e, hobj] at q
    have z2 : Data.seq vs.toArray _ = Data.fields #[] := congrArg Obj.data (Option.some.inj q)
    cases z2
  refine law_run KX G.T.g G.T.b G.T.builtins G.T.nolimit hg hobj hints (Nat.le_trans hlen hn2) hno hT nT hC G.T.bmain fun base hK hN tabs e0 => ?_
  exact (hF base hK hN tabs).run callerA [] s1 _ ⟨[.ref a], []⟩ [.ref a] [.ref a] _ _ hr (fun _ => rfl) e0 (hb s1 (.ref a)) (.cons rfl .nil) (hsp a _ ns hlen aT)
end MN

set_option maxRecDepth 100000
set_option maxHeartbeats 4000000
/-! MnHead: what is looked at behind the top. -/
namespace MN
open PySem PySem.Spec PyProof.Rows L2

/-! ### constant data -/
mutual
def datB (K : PySem.W.Frag) : PyData → Value → Bool
  | .none, u => (match u with
    | .none => true
    | _ => false)
  | .bool b, u => (match u with
    | .bool c => b == c
    | _ => false)
  | .int i, u => (match u with
    | .int j _ => decide (i = j)
    | _ => false)
  | .str x, u => (match u with
    | .str y _ => decide (x = y) && PyData.strOk x
    | _ => false)
  | .tuple xs, u => (match u with
    | .ref a => (match K.lookup a with
      | some ⟨.type c, _, .seq its _, _⟩ => decide (c = "tuple") && (decide (its.size ≤ sizeLine) && datAll K xs its.toList)
      | _ => false)
    | _ => false)
  | .list _, _ => false
  | .dict _, _ => false
termination_by structural d => d
def datAll (K : PySem.W.Frag) : List PyData → List Value → Bool
  | [], us => us.isEmpty
  | x :: xs, us => (match us with
    | u :: us => datB K x u && datAll K xs us
    | [] => false)
termination_by structural ds => ds
end
mutual
theorem datB_ok {K : PySem.W.Frag} : ∀ (d : PyData) {u : Value}, datB K d u = true → ∃ v, RelV v u ∧ ∀ β H, DP K β H d v
  | .none, u, h => by
    cases u <;> first | exact ⟨.non, rfl, fun _ _ => .non⟩ | cases h
  | .bool b, u, h => by
    cases u with
    | bool c =>
      have e : b = c := eq_of_beq h
      subst e
      exact ⟨.bl b, rfl, fun _ _ => .bl b⟩
    | _ => cases h
  | .int i, u, h => by
    cases u with
    | int j t =>
      have e : i = j := of_decide_eq_true h
      subst e
      exact ⟨.int i, ⟨t, rfl⟩, fun _ _ => .int i⟩
    | _ => cases h
  | .str x, u, h => by
    cases u with
    | str y t =>
      obtain ⟨h1, h2⟩ := Bool.and_eq_true_iff.mp (show (decide (x = y) && PyData.strOk x) = true from h)
      have e : x = y := of_decide_eq_true h1
      subst e
      exact ⟨.str x, ⟨t, rfl⟩, fun _ _ => .str x h2⟩
    | _ => cases h
  | .tuple xs, u, h => by
    cases u with
    | ref a =>
      have h : (match K.lookup a with
        | some ⟨.type c, _, .seq its _, _⟩ => decide (c = "tuple") && (decide (its.size ≤ sizeLine) && datAll K xs its.toList)
        | _ => false) = true := h
      split at h
      · rename_i c dd its nn sl q
        obtain ⟨h1, h2⟩ := Bool.and_eq_true_iff.mp h
        obtain ⟨h3, h4⟩ := Bool.and_eq_true_iff.mp h2
        obtain ⟨vs, r, dp⟩ := datAll_ok xs h4
        exact ⟨.ref a, rfl, fun β H => .tup (.inr ⟨_, its, nn, q, congrArg Value.type (of_decide_eq_true h1), rfl, of_decide_eq_true h3, r⟩) (dp β H)⟩
      · cases h
    | _ => cases h
  | .list _, _, h => by cases h
  | .dict _, _, h => by cases h
theorem datAll_ok {K : PySem.W.Frag} : ∀ (ds : List PyData) {us : List Value}, datAll K ds us = true → ∃ vs, Vals vs us ∧ ∀ β H, DPs K β H ds vs
  | [], us, h => by
    cases us with
    | nil => exact ⟨[], .nil, fun _ _ => .nil⟩
    | cons _ _ => cases h
  | x :: xs, us, h => by
    cases us with
    | nil => cases h
    | cons u us =>
      obtain ⟨h1, h2⟩ := Bool.and_eq_true_iff.mp (show (datB K x u && datAll K xs us) = true from h)
      obtain ⟨v, r1, d1⟩ := datB_ok x h1
      obtain ⟨vs, r2, d2⟩ := datAll_ok xs h2
      exact ⟨v :: vs, .cons r1 r2, fun β H => .cons (d1 β H) (d2 β H)⟩
end
/-- the module's name x is this constant -/
def conB (K : PySem.W.Frag) (x : Str) (d : PyData) : Bool := match PySem.W.nsIn K mainGlobals x with
  | some (some u) => datB K d u
  | _ => false
theorem conB_ok {K : PySem.W.Frag} {h : Heap} {mg : Str → Option Value} {x : Str} {d : PyData} (X : K.In h) (G : h.Ns mainGlobals mg) (c : conB K x d = true) : ∃ u v, mg x = some u ∧ RelV v u ∧ ∀ β H, DP K β H d v := by
  unfold conB at c
  split at c
  · rename_i u e
    obtain ⟨v, h1, h2⟩ := datB_ok d c
    exact ⟨u, v, PySem.W.mg_of X G e, h1, h2⟩
  · cases c
/-- a default that is a constant's tuple -/
theorem conB_ga {K : PySem.W.Frag} {x : Str} {xs : List PyData} (c : conB K x (.tuple xs) = true) (β : BB) (H : Hp) : DP K β H (.tuple xs) (.ref (He.ga K x)) := by
  unfold conB at c
  split at c
  · rename_i u e
    obtain ⟨v, h1, h2⟩ := datB_ok _ c
    cases u with
    | ref a =>
      have ea : He.ga K x = a := by
        unfold He.ga
        rw [e]
      have ev : v = .ref a := by
        cases v <;> first | (cases h1; rfl) | (obtain ⟨_, z⟩ := h1; cases z) | cases h1
      rw [ea, ← ev]
      exact h2 β H
    | _ => cases c
  · cases c
/-! ### tables -/
def tvB (K : PySem.W.Frag) (a : Addr) (ds : List PyData) : Bool := match K.lookup a with
  | some ⟨_, _, .dict es _, _⟩ => datAll K ds (es.toList.map (·.val))
  | _ => false
theorem tab_walk {K : PySem.W.Frag} {P : Params} {z : Str} : ∀ {l : List DictEntry} {ks : List Str} {ds : List PyData}, l.map He.keyOf = He.keysIn P ks → datAll K ds (l.map (·.val)) = true →
    (l.any fun e => e.refKey) = false ∧ (match lookK ((ks.map (Sum.inr : Str → Ky)).zip ds) (.inr z) with
      | none => l.find? (fun e => e.key.isStr z) = none
      | some x => ∃ e, l.find? (fun e => e.key.isStr z) = some e ∧ datB K x e.val = true)
  | [], [], [], _, _ => ⟨rfl, rfl⟩
  | [], [], _ :: _, _, h => by cases h
  | [], _ :: _, _, h, _ => by cases h
  | _ :: _, [], _, h, _ => by cases h
  | _ :: _, _ :: _, [], _, h => by cases h
  | e :: l, k :: ks, d :: ds, h, hd => by
    have h1 : He.keyOf e :: l.map He.keyOf = some (k, PyData.keyHash P k) :: He.keysIn P ks := h
    injection h1 with h2 h3
    obtain ⟨h4, h5⟩ := Bool.and_eq_true_iff.mp (show (datB K d e.val && datAll K ds (l.map (·.val))) = true from hd)
    obtain ⟨g1, g2⟩ := tab_walk (z := z) h3 h5
    have hk : ∃ t, e.key = .str k t := by
      unfold He.keyOf at h2
      split at h2
      · rename_i x t q
        have h6 := (Prod.mk.inj (Option.some.inj h2)).1
        exact ⟨t, by rw [q, h6]⟩
      · cases h2
    obtain ⟨t, hk⟩ := hk
    have ei : e.key.isStr z = decide (k = z) := by
      rw [hk]
      unfold Value.isStr
      by_cases q : k = z
      · subst q; simp
      · simp [q]
    refine ⟨by
      rw [List.any_cons, g1]
      unfold DictEntry.refKey
      rw [hk]
      rfl, ?_⟩
    by_cases q : k = z
    · subst q
      have el : lookK (((k :: ks).map (Sum.inr : Str → Ky)).zip (d :: ds)) (.inr k) = some d := by simp [lookK]
      rw [el]
      exact ⟨e, by rw [List.find?_cons, ei]; simp, h4⟩
    · have el : lookK (((k :: ks).map (Sum.inr : Str → Ky)).zip (d :: ds)) (.inr z) = lookK ((ks.map (Sum.inr : Str → Ky)).zip ds) (.inr z) := by simp [lookK, List.find?_cons, q]
      have ef : (e :: l).find? (fun e => e.key.isStr z) = l.find? (fun e => e.key.isStr z) := by rw [List.find?_cons, ei, decide_eq_false q]
      rw [el, ef]
      exact g2
theorem tabAt_ok {K : PySem.W.Frag} {w : World} {a : Addr} {ks : List Str} {ds : List PyData} (h : He.dicW K a = some (He.keysIn w.params ks)) (hd : tvB K a ds = true) : TblAt K w a ((ks.map (Sum.inr : Str → Ky)).zip ds) := by
  refine ⟨He.dicW_ok h, fun z => ?_⟩
  obtain ⟨es, n, D⟩ := He.dicW_ok h
  have hk : es.toList.map He.keyOf = He.keysIn w.params ks := by
    unfold He.dicW at h
    rw [D.at_] at h
    simp only [D.low] at h
    exact Option.some.inj h
  unfold tvB at hd
  rw [D.at_] at hd
  obtain ⟨g1, g2⟩ := tab_walk (z := z) hk hd
  unfold PySem.W.nsIn
  rw [D.at_]
  dsimp only
  cases el : lookK ((ks.map (Sum.inr : Str → Ky)).zip ds) (.inr z) with
  | none =>
    rw [el] at g2
    have g2 : es.toList.find? (fun e => e.key.isStr z) = none := g2
    rw [g2]
    dsimp only
    rw [g1]
    exact ⟨none, rfl, rfl⟩
  | some x =>
    rw [el] at g2
    obtain ⟨e, e1, e2⟩ := g2
    rw [e1]
    obtain ⟨v, r, dp⟩ := datB_ok x e2
    exact ⟨some e.val, rfl, e.val, v, rfl, r, dp⟩
/-! ### exception classes -/
def oexB (K : PySem.W.Frag) (C : Addr) : Bool := (match K.lookup C with
  | some ⟨.type c, _, .cls cd, sl⟩ => decide (c = "type") && (match cd.mro, sl.toList with
    | .ref C' :: bm, [_, _, _, _, some (.builtin n), _] => decide (C' = C) && (decide (n = "ValueError.__new__") && (!cd.hasDel && (cd.hasDict && PySem.HandSPX.refsVE bm)))
    | _, _ => false)
  | _ => false) && (He.eqO (PySem.W.findIn K (.ref C) "__setattr__") (some (some (.builtin "object.__setattr__"))) && (decide (PySem.W.subIn K (.ref C) (.type "BaseException") = some true) && (decide (PySem.W.typeIn K (.ref C) = some (.type "type")) && PySem.W.keepIn K (.ref C))))
theorem oexB_ok {K : PySem.W.Frag} {C : Addr} (h : oexB K C = true) : OexC K C := by
  unfold oexB at h
  obtain ⟨h1, h⟩ := Bool.and_eq_true_iff.mp h
  obtain ⟨h2, h⟩ := Bool.and_eq_true_iff.mp h
  obtain ⟨h3, h⟩ := Bool.and_eq_true_iff.mp h
  obtain ⟨h4, h5⟩ := Bool.and_eq_true_iff.mp h
  refine ⟨?_, He.eqO_ok h2, of_decide_eq_true h3, of_decide_eq_true h4, h5⟩
  split at h1
  · rename_i c dd cd sl hK
    obtain ⟨h6, h7⟩ := Bool.and_eq_true_iff.mp h1
    have ec : c = "type" := of_decide_eq_true h6
    subst ec
    clear h1 h6
    split at h7
    · rename_i C' bm k0 k1 k2 k3 n k5 hm hs
      obtain ⟨g1, h8⟩ := Bool.and_eq_true_iff.mp h7
      obtain ⟨g2, h9⟩ := Bool.and_eq_true_iff.mp h8
      obtain ⟨g3, h10⟩ := Bool.and_eq_true_iff.mp h9
      obtain ⟨g4, g5⟩ := Bool.and_eq_true_iff.mp h10
      have e1 : C' = C := of_decide_eq_true g1
      have e2 : n = "ValueError.__new__" := of_decide_eq_true g2
      subst e1 e2
      obtain ⟨nm, bs, mro, ns, qn, hd, sn, sub, ab, col, del⟩ := cd
      dsimp only at hm g3 g4
      have e3 : del = false := by simpa using g3
      subst hm e3 g4
      have hsl : sl = #[k0, k1, k2, k3, some (.builtin "ValueError.__new__"), k5] := by
        obtain ⟨l⟩ := sl
        simp only at hs
        rw [hs]
      subst hsl
      exact ⟨nm, qn, ns, bs, bm, sn, sub, ab, col, dd, k0, k1, k2, k3, k5, hK, g5⟩
    · cases h7
  · cases h1

/-! ### the module's names, at every depth of calls -/
structure FnS (T : Tbl) (G : Str → Option GK) (K : PySem.W.Frag) (mg : Str → Option Value) (base : Heap) (tb : List (Addr × Str)) (x : Str) (np nd : Nat) (rp : Bool) : Prop where
  ex : ∃ (d : FD) (a : Addr) (fd : FuncData) (ps N : List Str) (mu : Str → Bool) (mkl : Bool) (fuel : Nat) (nm qual : Str) (params : Arguments) (body : List Stmt) (scope : Scope) (dvs : List V) (kws : List (Str × V)),
    T.fn x = some d ∧ d.exc = none ∧ d.np = np ∧ d.dfl.length = nd ∧ mg x = some (.ref a) ∧ PySem.W.keepIn K (.ref a) = true ∧ ps.length = d.np ∧ d.nl = N.length ∧
    (∀ j, j ≤ d.np → d.np ≤ j + d.dfl.length → ∃ ds dvs, Binds K fd ps ds ∧ Vals dvs ds ∧ ∀ β H, DPs K β H (d.dfl.drop (j + d.dfl.length - d.np)) dvs) ∧
    FunD K nm qual params body scope dvs kws a fd ∧ FnScope N ps scope ∧
    (mkl = true → ∃ c P0, fd.code = .ref c ∧ LamX.TabB base mg c P0 ∧ (P0, lamQ qual scope) ∈ tb ∧ ∀ p ∈ tb, p.1 = P0 → p.2 = lamQ qual scope) ∧
    compSs ⟨N, scope, fun _ => true, G, true, none, mu, rp, mkl, none, none⟩ fuel body = some d.body
/-- a def of one parameter that gets a lambda -/
structure FnL (T : Tbl) (G : Str → Option GK) (K : PySem.W.Frag) (mg : Str → Option Value) (x : Str) (rp : Bool) : Prop where
  ex : ∃ (d : FD) (g : Addr) (fd : FuncData) (N : List Str) (p : Str) (mu : Str → Bool) (fuel : Nat) (params : Arguments) (body : List Stmt) (scope : Scope),
    T.fn x = some d ∧ d.exc = none ∧ d.np = 1 ∧ d.nl = N.length ∧ N[0]? = some p ∧ mg x = some (.ref g) ∧ PySem.W.keepIn K (.ref g) = true ∧ Vis scope p ∧ (p == ("__debug__" : Str)) = false ∧ (p == ("__classdict__" : Str)) = false ∧ Binds K fd [p] [] ∧
    FunD K x x params body scope [] [] g fd ∧ FnScope N [p] scope ∧ compSs ⟨N, scope, fun _ => true, G, true, none, mu, rp, false, some p, none⟩ fuel body = some d.body
structure GFS (T : Tbl) (G : Str → Option GK) (C : CA) (P : Program) (w : World) (K : PySem.W.Frag) (mg : Str → Option Value) (base : Heap) (tb : List (Addr × Str)) : Prop where
  nd : ∀ x g, G x = some g → (x == ("__debug__" : Str)) = false ∧ x ≠ "__name__"
  fn : ∀ x np nd rp, G x = some (.fn np nd rp) → FnS T G K mg base tb x np nd rp
  lam : ∀ x rp, G x = some (.lam rp) → FnL T G K mg x rp
  exc : ∀ x nf, G x = some (.exc nf) → ∃ (d : FD) (fs : List Str) (fI : Addr) (fd : FuncData) (ps : List Str), T.fn x = some d ∧ d.exc = some fs ∧ fs.length = nf ∧ mg x = some (.ref (C x)) ∧ OexC K (C x) ∧ PySem.W.findIn K (.ref (C x)) "__init__" = some (some (.ref fI)) ∧ PySem.W.typeIn K (.ref fI) = some (.type "function") ∧
    Binds K fd ps [] ∧ ps.length = fs.length + 1 ∧ fs ≠ [] ∧ fs.Nodup ∧ fs.length ≤ 1000 ∧
    FnOk P w K mg base (L2.CX P w) 1 fI fd ps (fun vs H Q _ => ∃ (a : Addr) (ys : List V), vs = .ref a :: ys ∧ ys.length = fs.length ∧ H a = some (exo a (C x) none) ∧ ∀ dx, H dx = none → dx ≠ a → Q .non (upd (upd H dx (exd dx (fs.zip ys).reverse)) a (exo a (C x) (some dx))))
  con : ∀ x d, G x = some (.con d) → ∃ u v, mg x = some u ∧ RelV v u ∧ ∀ β H, DP K β H d v
  tbl : ∀ x kvs, G x = some (.tbl kvs) → ∃ d, mg x = some (.ref d) ∧ TblAt K w d kvs
  blt : ∀ x, G x = some .blt → mg x = none
  cls : ∀ x, (G x = some .cls ∨ ∃ nf, G x = some (.exc nf)) → mg x = some (.ref (C x))
  ef : ∀ c f, T.ef c f = true → XfC K (C c) ∧ PySem.W.findIn K (.ref (C c)) f = some none
  isE : ∀ c c' b, T.isE c c' = some b → IsC K (C c) (C c') b
theorem gf_all {T : Tbl} {G : Str → Option GK} {tb : List (Addr × Str)} {C : CA} {P : Program} {w : World} {K : PySem.W.Frag} {mg : Str → Option Value} {base : Heap} (S : GFS T G C P w K mg base tb) : ∀ n j, j ≤ n → ∀ lm, GF T G ⟨tb, none, lm⟩ C j P w K mg base := by
  intro n
  induction n with
  | zero =>
    intro j hj lm
    have ej : j = 0 := Nat.le_zero.mp hj
    subst ej
    refine ⟨S.nd, fun x np nd rp h => ?_, fun x rp h => ?_, S.exc, S.con, S.tbl, S.blt, S.cls, S.ef, S.isE⟩
    · obtain ⟨d, a, fd, ps, N, mu, mkl, fuel, nm, qual, params, body, scope, dvs, kws, h1, h2, h3, h4, h5, h6, h7, h8, h9, h10, h11, h12, h13⟩ := (S.fn x np nd rp h).ex
      exact ⟨d, a, fd, ps, h1, h2, h3, h4, h5, h6, h7, h9, fn0 h7⟩
    · obtain ⟨d, g, fd, N, p, mu, fuel, params, body, scope, h1, h2, h3, h4, h5, h6, h7, h8, h9, h10, h11, h12, h13, h14⟩ := (S.lam x rp h).ex
      exact ⟨g, N, scope, p, fd.code, h6, h7, h5, h8, h9, h10, lam0⟩
  | succ n ih =>
    intro j hj lm
    by_cases hjn : j ≤ n
    · exact ih j hjn lm
    · have ej : j = n + 1 := by omega
      subst ej
      refine ⟨S.nd, fun x np nd rp h => ?_, fun x rp h => ?_, S.exc, S.con, S.tbl, S.blt, S.cls, S.ef, S.isE⟩
      · obtain ⟨d, a, fd, ps, N, mu, mkl, fuel, nm, qual, params, body, scope, dvs, kws, h1, h2, h3, h4, h5, h6, h7, h8, h9, h10, h11, h12, h13⟩ := (S.fn x np nd rp h).ex
        exact ⟨d, a, fd, ps, h1, h2, h3, h4, h5, h6, h7, h9, fn_ok (TT := ⟨tb, none, lm⟩) h10 h11 h1 h2 h7 h8 rfl ih h12 h13⟩
      · obtain ⟨d, g, fd, N, p, mu, fuel, params, body, scope, h1, h2, h3, h4, h5, h6, h7, h8, h9, h10, h11, h12, h13, h14⟩ := (S.lam x rp h).ex
        exact ⟨g, N, scope, p, fd.code, h6, h7, h5, h8, h9, h10, fnL_ok (TT := ⟨tb, none, lm⟩) h12 h13 h1 h2 h3 h4 h5 h11 ih h14⟩
/-! ### the Hook -/
abbrev AlM : Type := Bool × List He.FnW × List (Option (List (Option (Str × Int))))
def obsM (chk : PySem.W.Frag → Bool) (fn : List He.DefD) (ts : List He.Tab) (K : PySem.W.Frag) : AlM := (chk K && fn.all fun d => d.ok K, fn.map fun d => He.fnW K d.at_, ts.map fun t => He.dicW K (t.1 K))
def valM (fn : List He.DefD) (ts : List He.Tab) (w : World) : AlM := (true, fn.map He.DefD.val, ts.map fun t => some (He.keysIn w.params t.2))
def obsMG (n : Nat) (more : List Addr) (chk : PySem.W.Frag → Bool) (fn : List He.DefD) (ts : List He.Tab) (g : Addr → Option Obj) : AlM := obsM chk fn ts (He.frG g (He.asD g n ++ more))
def hookM (n : Nat) (more : List Addr) (chk : PySem.W.Frag → Bool) (fn : List He.DefD) (ts : List He.Tab) : PySem.W.Hook where
  α := AlM
  obs := fun s => obsMG n more chk fn ts s.heap.get?
  val := fun w => valM fn ts w
  says := fun w h => ∃ K : PySem.W.Frag, K.In h ∧ obsM chk fn ts K = valM fn ts w
  of := fun _ _ e => ⟨_, He.frG_in, e⟩
  keeps := fun _ _ _ ⟨K, hK, c⟩ k => ⟨K, PySem.W.Frag.In.keeps hK k, c⟩
theorem obsMG_eq {n : Nat} {more : List Addr} {chk : PySem.W.Frag → Bool} {fn : List He.DefD} {ts : List He.Tab} {g : Addr → Option Obj} {s : Shared} (h : ∀ a, g a = s.heap.get? a) : obsMG n more chk fn ts g = (hookM n more chk fn ts).obs s := by
  have e : g = s.heap.get? := funext h
  rw [e]
  rfl
theorem mem_look2 {α β : Type} [BEq α] [LawfulBEq α] {a : α} {b : β} : ∀ {l : List (α × β)}, l.lookup a = some b → (a, b) ∈ l
  | [], h => by simp at h
  | (k, v) :: r, h => by
    rw [List.lookup_cons] at h
    cases e : a == k with
    | true =>
      rw [e] at h
      cases h
      rw [eq_of_beq e]
      exact List.mem_cons_self
    | false =>
      rw [e] at h
      exact List.mem_cons_of_mem _ (mem_look2 h)
/-! ### tables of code objects -/
/-- a def's code object and its table -/
def cdT (K : PySem.W.Frag) (p : Str × Option Str) : Option (Addr × Addr) := match K.lookup (He.fAd K p) with
  | some ⟨_, _, .func fd, _⟩ => (match fd.code with
    | .ref c => (match K.lookup c with
      | some ⟨_, _, .fields vs, _⟩ => (match (vs[11]? : Option Value) with
        | some (.ref P) => some (c, P)
        | _ => none)
      | _ => none)
    | _ => none)
  | _ => none
def tabsOf (K : PySem.W.Frag) (mk : List He.DefD) : List (Addr × Addr) := mk.filterMap fun d => cdT K d.at_
def tbOf (K : PySem.W.Frag) (mk : List He.DefD) : List (Addr × Str) := mk.filterMap fun d => (cdT K d.at_).map fun cp => (cp.2, lamQ d.qual d.scope)
def tab0B : Option Obj → Bool
  | some ⟨.none, none, .fields vs, sl⟩ => decide (vs.size = 0) && decide (sl.size = 0)
  | _ => false
theorem tab0B_ok {o : Option Obj} (h : tab0B o = true) : o = some tab0 := by
  unfold tab0B at h
  split at h
  · rename_i vs sl
    rw [Bool.and_eq_true] at h
    have h1 : vs = #[] := Array.eq_empty_of_size_eq_zero (of_decide_eq_true h.1)
    have h2 : sl = #[] := Array.eq_empty_of_size_eq_zero (of_decide_eq_true h.2)
    subst h1 h2
    rfl
  · cases h
def isStrV : Value → Bool
  | .str _ _ => true
  | _ => false
def isIntV : Value → Bool
  | .int _ _ => true
  | _ => false
def isBoolV : Value → Bool
  | .bool _ => true
  | _ => false
def codeB (P : Addr) : Option Obj → Bool
  | some ⟨.type t, _, .fields vs, _⟩ => decide (t = "code") && (match (vs[11]? : Option Value) with
    | some (.ref Q) => decide (Q = P)
    | _ => false) && isStrV (vs.getD 18 .none) && isIntV (vs.getD 7 .none) && isBoolV (vs.getD 9 .none) && isIntV (vs.getD 10 .none)
  | _ => false
theorem codeB_ok {h : Heap} {c P : Addr} (hb : codeB P (h.get? c) = true) (hne : c ≠ P) : PySem.W.CodeHd h c P := by
  cases e : h.get? c with
  | none => rw [e] at hb; cases hb
  | some o =>
    rw [e] at hb
    obtain ⟨cl, dc, dt, sl⟩ := o
    cases cl with
    | type t =>
      cases dt with
      | fields vs =>
        have hb : (decide (t = "code") && (match (vs[11]? : Option Value) with
          | some (.ref Q) => decide (Q = P)
          | _ => false) && isStrV (vs.getD 18 .none) && isIntV (vs.getD 7 .none) && isBoolV (vs.getD 9 .none) && isIntV (vs.getD 10 .none)) = true := hb
        simp only [Bool.and_eq_true] at hb
        obtain ⟨⟨⟨⟨⟨h1, h2⟩, h3⟩, h4⟩, h5⟩, h6⟩ := hb
        have h1 := of_decide_eq_true h1
        subst h1
        cases e11 : vs[11]? with
        | none => rw [e11] at h2; cases h2
        | some v =>
          rw [e11] at h2
          cases v with
          | ref Q =>
            have h2 := of_decide_eq_true (show decide (Q = P) = true from h2)
            subst h2
            have g11 : vs.getD 11 .none = .ref Q := by rw [Array.getD_eq_getD_getElem?, e11]; rfl
            cases q3 : vs.getD 18 .none with
            | str file tf =>
              cases q4 : vs.getD 7 .none with
              | int flags tg =>
                cases q5 : vs.getD 9 .none with
                | bool inF =>
                  cases q6 : vs.getD 10 .none with
                  | int text tt => exact ⟨_, vs, file, tf, flags, tg, inF, text, tt, e, rfl, rfl, e11, g11, q3, q4, q5, q6, hne⟩
                  | _ => rw [q6] at h6; cases h6
                | _ => rw [q5] at h5; cases h5
              | _ => rw [q4] at h4; cases h4
            | _ => rw [q3] at h3; cases h3
          | _ => cases h2
      | _ => cases hb
    | _ => cases hb
/-- the written part without the tables -/
def noTab (K : PySem.W.Frag) (cs : List (Addr × Addr)) : PySem.W.Frag := K.filter fun p => !((cs.map (·.2)).contains p.1)
def tabsB (g : Addr → Option Obj) (K : PySem.W.Frag) (mk : List He.DefD) (cs : List (Addr × Addr)) : Bool := decide (tabsOf K mk = cs) && ((mk.all fun d => (cdT K d.at_).isSome) && ((cs.all fun p => tab0B (g p.2) && (codeB p.2 (g p.1) && decide (p.1 ≠ p.2))) && ((tbOf K mk).all fun p => (tbOf K mk).all fun q => decide (p.1 = q.1 → p.2 = q.2))))
def obsL (chk : PySem.W.Frag → Bool) (fn : List He.DefD) (ts : List He.Tab) (mk : List He.DefD) (g : Addr → Option Obj) (K0 : PySem.W.Frag) : AlM :=
  ((tabsB g (noTab K0 (tabsOf K0 mk)) mk (tabsOf K0 mk) && (obsM chk fn ts (noTab K0 (tabsOf K0 mk))).1), (obsM chk fn ts (noTab K0 (tabsOf K0 mk))).2)
def obsLG (n : Nat) (more : List Addr) (chk : PySem.W.Frag → Bool) (fn : List He.DefD) (ts : List He.Tab) (mk : List He.DefD) (g : Addr → Option Obj) : AlM := obsL chk fn ts mk g (He.frG g (He.asD g n ++ more))
structure SaysL (chk : PySem.W.Frag → Bool) (fn : List He.DefD) (ts : List He.Tab) (mk : List He.DefD) (w : World) (h : Heap) (K : PySem.W.Frag) : Prop where
  at_ : K.In h
  tab : ∀ p ∈ tabsOf K mk, h.get? p.2 = some tab0 ∧ K.lookup p.2 = none ∧ PySem.W.CodeHd h p.1 p.2
  all : ∀ d ∈ mk, (cdT K d.at_).isSome = true
  un : ∀ p ∈ tbOf K mk, ∀ q ∈ tbOf K mk, p.1 = q.1 → p.2 = q.2
  says : obsM chk fn ts K = valM fn ts w
theorem noTab_mem {K : PySem.W.Frag} {cs : List (Addr × Addr)} {b : Addr} {o : Obj} (h : (noTab K cs).lookup b = some o) : (b, o) ∈ K ∧ b ∉ cs.map (·.2) := by
  have hm := mem_look2 h
  unfold noTab at hm
  rw [List.mem_filter] at hm
  refine ⟨hm.1, fun z => ?_⟩
  have := hm.2
  simp only [List.contains_iff_mem.mpr z, Bool.not_true] at this
  cases this
theorem frG_mem {g : Addr → Option Obj} {as : List Addr} {b : Addr} {o : Obj} (h : (b, o) ∈ He.frG g as) : g b = some o := by
  unfold He.frG at h
  obtain ⟨a, _, e⟩ := List.mem_filterMap.mp h
  cases q : g a with
  | none => rw [q] at e; cases e
  | some u =>
    rw [q] at e
    cases e
    exact q
theorem saysL_of {n : Nat} {more : List Addr} {chk : PySem.W.Frag → Bool} {fn : List He.DefD} {ts : List He.Tab} {mk : List He.DefD} {w : World} {h : Heap} (e : obsLG n more chk fn ts mk h.get? = valM fn ts w) : ∃ K, SaysL chk fn ts mk w h K := by
  unfold obsLG obsL at e
  generalize hK0 : He.frG h.get? (He.asD h.get? n ++ more) = K0 at e
  generalize hcs : tabsOf K0 mk = cs at e
  have e1 : (tabsB h.get? (noTab K0 cs) mk cs && (obsM chk fn ts (noTab K0 cs)).1) = true := (Prod.ext_iff.mp e).1
  have e2 : (obsM chk fn ts (noTab K0 cs)).2 = (valM fn ts w).2 := (Prod.ext_iff.mp e).2
  rw [Bool.and_eq_true] at e1
  obtain ⟨t, e1⟩ := e1
  unfold tabsB at t
  rw [Bool.and_eq_true, Bool.and_eq_true, Bool.and_eq_true] at t
  obtain ⟨t1, t2, t3, t4⟩ := t
  have t1 := of_decide_eq_true t1
  refine ⟨noTab K0 cs, ⟨fun b o q => ?_, fun p hp => ?_, fun d hd => List.all_eq_true.mp t2 d hd, fun p hp q hq => of_decide_eq_true (List.all_eq_true.mp (List.all_eq_true.mp t4 p hp) q hq), Prod.ext e1 e2⟩⟩
  · have hm := (noTab_mem q).1
    rw [← hK0] at hm
    exact frG_mem hm
  · rw [t1] at hp
    have q := List.all_eq_true.mp t3 p hp
    rw [Bool.and_eq_true, Bool.and_eq_true] at q
    refine ⟨tab0B_ok q.1, ?_, codeB_ok q.2.1 (of_decide_eq_true q.2.2)⟩
    cases z : (noTab K0 cs).lookup p.2 with
    | none => rfl
    | some o => exact absurd (List.mem_map.mpr ⟨p, hp, rfl⟩) (noTab_mem z).2
def hookL (n : Nat) (more : List Addr) (chk : PySem.W.Frag → Bool) (fn : List He.DefD) (ts : List He.Tab) (mk : List He.DefD) : PySem.W.Hook where
  α := AlM
  obs := fun s => obsLG n more chk fn ts mk s.heap.get?
  val := fun w => valM fn ts w
  says := fun w h => ∃ K, SaysL chk fn ts mk w h K
  of := fun _ _ e => saysL_of e
  keeps := fun _ _ _ ⟨K, S⟩ k => ⟨K, ⟨PySem.W.Frag.In.keeps S.at_ k, fun p hp => ⟨k _ _ (S.tab p hp).1, (S.tab p hp).2.1, (S.tab p hp).2.2.keeps k⟩, S.all, S.un, S.says⟩⟩
theorem obsLG_eq {n : Nat} {more : List Addr} {chk : PySem.W.Frag → Bool} {fn : List He.DefD} {ts : List He.Tab} {mk : List He.DefD} {g : Addr → Option Obj} {s : Shared} (h : ∀ a, g a = s.heap.get? a) : obsLG n more chk fn ts mk g = (hookL n more chk fn ts mk).obs s := by
  have e : g = s.heap.get? := funext h
  rw [e]
  rfl
section
variable {chk : PySem.W.Frag → Bool} {fn : List He.DefD} {ts : List He.Tab} {K : PySem.W.Frag} {w : World}
theorem saysM_chk (c : obsM chk fn ts K = valM fn ts w) : chk K = true := (Bool.and_eq_true_iff.mp (show (chk K && fn.all fun d => d.ok K) = true from congrArg (fun z : AlM => z.1) c)).1
theorem saysM_def (c : obsM chk fn ts K = valM fn ts w) (i : Nat) {d : He.DefD} (h : fn[i]? = some d) : ∃ fd, FunD K d.name d.qual d.params d.body d.scope (d.dvs K) (d.kws K) (He.fAd K d.at_) fd := by
  have c2 := (Bool.and_eq_true_iff.mp (show (chk K && fn.all fun d => d.ok K) = true from congrArg (fun z : AlM => z.1) c)).2
  have e : fn.map (fun d => He.fnW K d.at_) = fn.map He.DefD.val := congrArg (fun z : AlM => z.2.1) c
  have e2 : (fn.map fun d => He.fnW K d.at_)[i]? = (fn.map He.DefD.val)[i]? := by rw [e]
  rw [List.getElem?_map, List.getElem?_map, h] at e2
  exact He.DefD.funD (Option.some.inj e2) (List.all_eq_true.mp c2 d (List.mem_of_getElem? h))
theorem saysM_tab (c : obsM chk fn ts K = valM fn ts w) (i : Nat) {t : He.Tab} (h : ts[i]? = some t) : He.dicW K (t.1 K) = some (He.keysIn w.params t.2) := by
  have e : ts.map (fun t => He.dicW K (t.1 K)) = ts.map fun t => some (He.keysIn w.params t.2) := congrArg (fun z : AlM => z.2.2) c
  have e2 : (ts.map fun t => He.dicW K (t.1 K))[i]? = (ts.map fun t => some (He.keysIn w.params t.2))[i]? := by rw [e]
  rw [List.getElem?_map, List.getElem?_map, h] at e2
  exact Option.some.inj e2
end
def noList (K : PySem.W.Frag) : Bool := K.all fun p => match p.2.cls with
  | .type n => !decide (n = "list")
  | _ => true
theorem noList_ok {K : PySem.W.Frag} (h : noList K = true) : ∀ b o, K.lookup b = some o → o.cls ≠ .type "list" := fun b o e z => by
  have hm : (b, o) ∈ K := mem_look2 e
  have := List.all_eq_true.mp h _ hm
  rw [z] at this
  simp at this
/-- the base class of the own exceptions -/
def baseB (K : PySem.W.Frag) (B : Addr) : Bool := PySem.W.readsIn K B (.type "type") && (He.eqO (PySem.W.specialIn K (.ref B) "__getattribute__") (some (some (.builtin "type.__getattribute__"))) && (match PySem.W.findCls K (.ref B) (.type "type") "__init__" with
  | some (.val (.builtin n)) => decide (n = "ValueError.__init__")
  | _ => false))
theorem baseB_ok {K : PySem.W.Frag} {B : Addr} (h : baseB K B = true) : PySem.W.readsIn K B (.type "type") = true ∧ PySem.W.specialIn K (.ref B) "__getattribute__" = some (some (.builtin "type.__getattribute__")) ∧ PySem.W.findCls K (.ref B) (.type "type") "__init__" = some (.val (.builtin "ValueError.__init__")) := by
  obtain ⟨h1, h⟩ := Bool.and_eq_true_iff.mp h
  obtain ⟨h2, h3⟩ := Bool.and_eq_true_iff.mp h
  refine ⟨h1, He.eqO_ok h2, ?_⟩
  split at h3
  · rename_i n e
    rw [e, of_decide_eq_true h3]
  · cases h3
/-- an own exception class of one field -/
def excB (K : PySem.W.Frag) (x f : Str) : Bool := oexB K (He.ga K x) && (xfB K (He.ga K x) && (He.eqO (PySem.W.findIn K (.ref (He.ga K x)) f) (some none) && (He.Fa.ok K (.meth x "__init__") && He.Fa.ok K (.glo x))))
theorem excB_ok {K : PySem.W.Frag} {x f : Str} (h : excB K x f = true) : OexC K (He.ga K x) ∧ XfC K (He.ga K x) ∧ PySem.W.findIn K (.ref (He.ga K x)) f = some none ∧ PySem.W.findIn K (.ref (He.ga K x)) "__init__" = some (some (.ref (He.ma K (He.ga K x) "__init__"))) ∧
    PySem.W.typeIn K (.ref (He.ma K (He.ga K x) "__init__")) = some (.type "function") ∧ He.Fa.ok K (.glo x) = true := by
  obtain ⟨h1, h⟩ := Bool.and_eq_true_iff.mp h
  obtain ⟨h2, h⟩ := Bool.and_eq_true_iff.mp h
  obtain ⟨h3, h⟩ := Bool.and_eq_true_iff.mp h
  obtain ⟨h4, h5⟩ := Bool.and_eq_true_iff.mp h
  have m := He.meth_ok h4
  obtain ⟨g1, h6⟩ := Bool.and_eq_true_iff.mp (show (He.eqO (PySem.W.findIn K (.ref (He.ga K x)) "__init__") (some (some (.ref (He.ma K (He.ga K x) "__init__")))) && (PySem.W.isFn K (.ref (He.ma K (He.ga K x) "__init__")) && PySem.W.keepIn K (.ref (He.ma K (He.ga K x) "__init__")))) = true from h4)
  obtain ⟨g2, _⟩ := Bool.and_eq_true_iff.mp h6
  exact ⟨oexB_ok h1, xfB_ok h2, He.eqO_ok h3, He.eqO_ok g1, eq_of_beq g2, h5⟩
theorem mem_look {α : Type} {x : Str} {a : α} {l : List (Str × α)} (h : l.lookup x = some a) : (x, a) ∈ l := PySem.mem_of_lookup h
/-- a def that makes lambdas: its code object and its table -/
theorem cdT_of {K : PySem.W.Frag} {p : Str × Option Str} {c P0 : Addr} (e : cdT K p = some (c, P0)) {oc : Value} {od : Option Addr} {fd : FuncData} {osl : Array (Option Value)} (lk : K.lookup (He.fAd K p) = some ⟨oc, od, .func fd, osl⟩) : fd.code = .ref c := by
  unfold cdT at e
  rw [lk] at e
  dsimp only at e
  split at e
  · rename_i c2 hc
    split at e
    · split at e
      · cases e
        exact hc
      · cases e
    · cases e
  · cases e
theorem mk_at {chk : PySem.W.Frag → Bool} {fn : List He.DefD} {ts : List He.Tab} {mk : List He.DefD} {w : World} {h base : Heap} {K : PySem.W.Frag} {mg : Str → Option Value} (S : SaysL chk fn ts mk w h K) {d : He.DefD} (hd : d ∈ mk) (tabs : ∀ p ∈ tabsOf K mk, LamX.TabB base mg p.1 p.2)
    {nm : Str} {params : Arguments} {body : List Stmt} {dvs : List V} {kws : List (Str × V)} {fd : FuncData} (F : FunD K nm d.qual params body d.scope dvs kws (He.fAd K d.at_) fd) :
    ∃ c P0, fd.code = .ref c ∧ LamX.TabB base mg c P0 ∧ (P0, lamQ d.qual d.scope) ∈ tbOf K mk ∧ ∀ p ∈ tbOf K mk, p.1 = P0 → p.2 = lamQ d.qual d.scope := by
  obtain ⟨cp, e⟩ := Option.isSome_iff_exists.mp (S.all d hd)
  obtain ⟨c, P0⟩ := cp
  obtain ⟨oc, od, dV, kV, doc, pm, an, cdv, ct, osl, rfl, lk, _⟩ := F.ex
  have m1 : (c, P0) ∈ tabsOf K mk := List.mem_filterMap.mpr ⟨d, hd, e⟩
  have m2 : (P0, lamQ d.qual d.scope) ∈ tbOf K mk := List.mem_filterMap.mpr ⟨d, hd, by rw [e]; rfl⟩
  exact ⟨c, P0, cdT_of e lk, tabs _ m1, m2, fun p hp z => S.un p hp _ m2 z⟩
theorem tabs_only {K : PySem.W.Frag} {mk : List He.DefD} {a : Addr} {o : Obj} {xs : List V} (aT : a ∉ (tabsOf K mk).map (·.2)) : LamX.Tabs (tbOf K mk) (onlyH a o xs ((tabsOf K mk).map (·.2))) := fun p hp => by
  obtain ⟨d, hd, e⟩ := List.mem_filterMap.mp hp
  cases q : cdT K d.at_ with
  | none => rw [q] at e; cases e
  | some cp =>
    rw [q] at e
    cases e
    have m : cp.2 ∈ (tabsOf K mk).map (·.2) := List.mem_map.mpr ⟨cp, List.mem_filterMap.mpr ⟨d, hd, q⟩, rfl⟩
    exact ⟨#[], onlyH_tab (fun z => aT (z ▸ m)) m, trivial, fun pos cv hc => by simp [codeAmong] at hc⟩
theorem rep_start {K : PySem.W.Frag} {mk : List He.DefD} {a : Addr} {o : Obj} {xs : List V} (aT : a ∉ (tabsOf K mk).map (·.2)) : RepS ⟨tbOf K mk, none, none⟩ K ⟨[], [], none, none⟩ (onlyH a o xs ((tabsOf K mk).map (·.2))) [] :=
  ⟨List.nodup_nil, rfl, (fun _ z => by cases z), (fun n a o z => by cases z), tabs_only aT, rfl, rfl⟩
end MN

set_option maxRecDepth 100000
set_option maxHeartbeats 4000000
/-! K12T: the program in the evaluator's words. -/
namespace MN.Q
open PySem PySem.Spec PyProof.Rows L2
def gl : List (Str × GK) := [(("is_from" : Str), GK.fn 3 0 false), (("is_name" : Str), GK.fn 1 0 false), (("are_names" : Str), GK.fn 2 0 false), (("need_given" : Str), GK.fn 1 0 false), (("is_branch" : Str), GK.fn 1 0 false), (("is_row_prefix" : Str), GK.fn 1 0 false), (("has_shape" : Str), GK.fn 3 0 false), (("inside" : Str), GK.fn 1 0 false), (("fits" : Str), GK.fn 2 0 false), (("checked" : Str), GK.fn 5 0 false), (("is_head" : Str), GK.fn 1 0 false), (("gone_through" : Str), GK.fn 3 1 false), (("need_program" : Str), GK.fn 1 0 false), (("free_in" : Str), GK.fn 1 0 false), (("listed_in" : Str), GK.fn 2 0 false), (("listed" : Str), GK.fn 1 0 false), (("piece_at" : Str), GK.fn 2 0 false), (("is_path" : Str), GK.fn 1 0 false), (("is_active" : Str), GK.fn 1 0 false), (("fresh_number" : Str), GK.fn 1 0 false), (("with_number" : Str), GK.fn 3 0 false), (("opened_part" : Str), GK.fn 4 0 false), (("settled_row" : Str), GK.fn 2 0 false), (("need_bounds" : Str), GK.fn 1 0 false), (("started" : Str), GK.fn 2 0 false), (("start" : Str), GK.fn 2 1 false), (("active_part" : Str), GK.fn 2 0 false), (("is_thread" : Str), GK.fn 3 0 false), (("is_natural" : Str), GK.fn 1 0 false), (("need_standing" : Str), GK.fn 2 0 false), (("is_joining" : Str), GK.fn 2 0 false), (("need_joining" : Str), GK.fn 2 0 false), (("all_joinings" : Str), GK.fn 1 0 false), (("joined" : Str), GK.fn 3 0 false), (("is_condition" : Str), GK.fn 2 0 false), (("holds_joined" : Str), GK.fn 2 0 false), (("_law_mixed" : Str), GK.fn 2 0 false), (("_law_begin" : Str), GK.fn 1 0 false), (("_law_draw" : Str), GK.fn 2 0 false), (("_law_of" : Str), GK.fn 2 0 false), (("_law_like" : Str), GK.fn 2 0 true), (("_law_all" : Str), GK.fn 1 0 false), (("_law_is_joining" : Str), GK.fn 2 0 false), (("_law_caught" : Str), GK.lam false), (("_law_needed_right" : Str), GK.fn 2 0 true), (("_law_condition" : Str), GK.fn 2 0 false), (("_law_holds" : Str), GK.fn 2 0 false), (("_law_bad_condition" : Str), GK.fn 2 0 false), (("_law_conditions_right" : Str), GK.fn 2 0 true), (("_law_refused" : Str), GK.fn 1 0 true), (("law" : Str), GK.fn 1 0 true), (("BadPiece" : Str), GK.exc 1), (("BadProgram" : Str), GK.exc 1), (("BadGiven" : Str), GK.exc 1), (("BadStanding" : Str), GK.exc 1), (("BadJoining" : Str), GK.exc 1), (("BadParameter" : Str), GK.exc 1), (("TooGreat" : Str), GK.exc 1), (("PassError" : Str), GK.cls), (("NAMES" : Str), GK.con (.int 10)), (("AS_IS" : Str), GK.con (.tuple [(.int 0), (.int 1), (.int 2), (.int 3), (.int 4), (.int 5), (.int 6), (.int 7), (.int 8), (.int 9)])), (("MOST_DEEP" : Str), GK.con (.int 12)), (("MOST_PARTS" : Str), GK.con (.int 80)), (("MOST_BESIDE" : Str), GK.con (.int 4)), (("MOST_BRANCHES" : Str), GK.con (.int 20)), (("MOST_DEFINITIONS" : Str), GK.con (.int 4)), (("MOST_PARAMS" : Str), GK.con (.int 4)), (("MOST_ROW" : Str), GK.con (.int 3)), (("PREFIXES" : Str), GK.con (.tuple [(.str ("send" : Str)), (.str ("take" : Str)), (.str ("wait" : Str)), (.str ("sends" : Str)), (.str ("takes" : Str))])), (("TESTS" : Str), GK.con (.tuple [(.str ("alike" : Str)), (.str ("unlike" : Str))])), (("FOURS" : Str), GK.con (.tuple [(.str ("send" : Str)), (.str ("take" : Str)), (.str ("alike" : Str)), (.str ("unlike" : Str)), (.str ("sends" : Str)), (.str ("takes" : Str))])), (("MOST_THREADS" : Str), GK.con (.int 8)), (("MOST_NAMES" : Str), GK.con (.int 12)), (("MOST_LISTED" : Str), GK.con (.int 5)), (("ValueError" : Str), GK.blt), (("dict" : Str), GK.blt), (("enumerate" : Str), GK.blt), (("tuple" : Str), GK.blt), (("sorted" : Str), GK.blt), (("range" : Str), GK.blt), (("isinstance" : Str), GK.blt), (("int" : Str), GK.blt), (("len" : Str), GK.blt), (("zip" : Str), GK.blt), (("set" : Str), GK.blt), (("list" : Str), GK.blt), (("repr" : Str), GK.blt), (("bool" : Str), GK.blt), (("str" : Str), GK.blt), (("min" : Str), GK.blt)]
def G (x : Str) : Option GK := gl.lookup x
abbrev rowP : Program := PySem.Challenge.pw_passednames_k12_joinings_and_conditions
def top (i : Nat) : Stmt := rowP.main.body.getD i (.Pass ⟨0, 0, 0, 0⟩)
def N_is_from : List Str := [("value" : Str), ("least" : Str), ("most" : Str)]
def mu_is_from (x : Str) : Bool := [].contains x
def b_is_from : List CS := [.ret (.and (.bi .isInt [(.var 0)]) (.and (.not (.bi .isBool [(.var 0)])) (.chain .le .le (.var 1) (.var 0) (.var 2))))]
def fd_is_from : FD := ⟨3, 3, [], b_is_from, false, none⟩
theorem ok_is_from : compSs ⟨N_is_from, defScope (top 12), fun _ => true, G, true, none, mu_is_from, false, false, none, none⟩ 60 (defBody (top 12)) = some b_is_from := by kernel_rfl
def N_is_name : List Str := [("value" : Str)]
def mu_is_name (x : Str) : Bool := [].contains x
def b_is_name : List CS := [.ret (.call ("is_from" : Str) [(.var 0), (.cst (.int 0)), (.op .sub (.cst (.int 10)) (.cst (.int 1)))])]
def fd_is_name : FD := ⟨1, 1, [], b_is_name, false, none⟩
theorem ok_is_name : compSs ⟨N_is_name, defScope (top 13), fun _ => true, G, true, none, mu_is_name, false, false, none, none⟩ 60 (defBody (top 13)) = some b_is_name := by kernel_rfl
def N_are_names : List Str := [("value" : Str), ("most" : Str), ("item" : Str)]
def mu_are_names (x : Str) : Bool := [].contains x
def b_are_names : List CS := [.ifs (.or (.not (.tst (.bi .isTup [(.var 0)]))) (.cmp .gt (.bi .len [(.var 0)]) (.var 1))) [.ret (.cst (.bool false))] [], .for_ .seq [(.var 0)] (.v 2) [.ifs (.not (.tst (.call ("is_name" : Str) [(.var 2)]))) [.ret (.cst (.bool false))] []], .ret (.cst (.bool true))]
def fd_are_names : FD := ⟨2, 3, [], b_are_names, false, none⟩
theorem ok_are_names : compSs ⟨N_are_names, defScope (top 14), fun _ => true, G, true, none, mu_are_names, false, false, none, none⟩ 60 (defBody (top 14)) = some b_are_names := by kernel_rfl
def N_need_given : List Str := [("value" : Str)]
def mu_need_given (x : Str) : Bool := [].contains x
def b_need_given : List CS := [.ifs (.or (.not (.tst (.call ("are_names" : Str) [(.var 0), (.cst (.int 10))]))) (.cmp .ne (.bi .len [(.var 0)]) (.cst (.int 10)))) [.raise ("BadGiven" : Str) [(.var 0)]] [], .ret (.var 0)]
def fd_need_given : FD := ⟨1, 1, [], b_need_given, false, none⟩
theorem ok_need_given : compSs ⟨N_need_given, defScope (top 15), fun _ => true, G, true, none, mu_need_given, false, false, none, none⟩ 60 (defBody (top 15)) = some b_need_given := by kernel_rfl
def N_is_branch : List Str := [("piece" : Str)]
def mu_is_branch (x : Str) : Bool := [].contains x
def b_is_branch : List CS := [.ret (.or (.cmp .inn (.idx (.var 0) (.cst (.int 0))) (.cst (.tuple [(.str ("send" : Str)), (.str ("take" : Str)), (.str ("wait" : Str)), (.str ("sends" : Str)), (.str ("takes" : Str))]))) (.cmp .inn (.idx (.var 0) (.cst (.int 0))) (.cst (.tuple [(.str ("alike" : Str)), (.str ("unlike" : Str))]))))]
def fd_is_branch : FD := ⟨1, 1, [], b_is_branch, false, none⟩
theorem ok_is_branch : compSs ⟨N_is_branch, defScope (top 27), fun _ => true, G, true, none, mu_is_branch, false, false, none, none⟩ 60 (defBody (top 27)) = some b_is_branch := by kernel_rfl
def N_is_row_prefix : List Str := [("value" : Str)]
def mu_is_row_prefix (x : Str) : Bool := [].contains x
def b_is_row_prefix : List CS := [.ifs (.or (.cmp .ne (.bi .len [(.var 0)]) (.cst (.int 4))) (.or (.not (.tst (.call ("is_name" : Str) [(.idx (.var 0) (.cst (.int 1)))]))) (.not (.tst (.call ("are_names" : Str) [(.idx (.var 0) (.cst (.int 2))), (.cst (.int 3))]))))) [.ret (.cst (.bool false))] [], .ret (.or (.cmp .eq (.idx (.var 0) (.cst (.int 0))) (.cst (.str ("sends" : Str)))) (.cmp .eq (.bi .setLen [(.bi .list [(.idx (.var 0) (.cst (.int 2)))])]) (.bi .len [(.idx (.var 0) (.cst (.int 2)))])))]
def fd_is_row_prefix : FD := ⟨1, 1, [], b_is_row_prefix, false, none⟩
theorem ok_is_row_prefix : compSs ⟨N_is_row_prefix, defScope (top 28), fun _ => true, G, true, none, mu_is_row_prefix, false, false, none, none⟩ 60 (defBody (top 28)) = some b_is_row_prefix := by kernel_rfl
def N_has_shape : List Str := [("value" : Str), ("widths" : Str), ("rows" : Str), ("word" : Str), ("most" : Str)]
def mu_has_shape (x : Str) : Bool := [].contains x
def b_has_shape : List CS := [.ifs (.or (.not (.tst (.bi .isTup [(.var 0)]))) (.or (.cmp .eq (.bi .len [(.var 0)]) (.cst (.int 0))) (.not (.tst (.bi .isStr [(.idx (.var 0) (.cst (.int 0)))]))))) [.ret (.cst (.bool false))] [], .asg (.v 3) (.idx (.var 0) (.cst (.int 0))), .ifs (.cmp .inn (.var 3) (.tup [(.cst (.str ("sends" : Str))), (.cst (.str ("takes" : Str)))])) [.ret (.and (.var 2) (.call ("is_row_prefix" : Str) [(.var 0)]))] [], .ifs (.cmp .inn (.var 3) (.tup [(.cst (.str ("send" : Str))), (.cst (.str ("take" : Str))), (.cst (.str ("alike" : Str))), (.cst (.str ("unlike" : Str)))])) [.ret (.and (.cmp .eq (.bi .len [(.var 0)]) (.cst (.int 4))) (.and (.call ("is_name" : Str) [(.idx (.var 0) (.cst (.int 1)))]) (.call ("is_name" : Str) [(.idx (.var 0) (.cst (.int 2)))])))] [], .ifs (.cmp .eq (.var 3) (.cst (.str ("wait" : Str)))) [.ret (.cmp .eq (.bi .len [(.var 0)]) (.cst (.int 2)))] [], .ifs (.cmp .inn (.var 3) (.tup [(.cst (.str ("one" : Str))), (.cst (.str ("beside" : Str)))])) [.asg (.v 4) (.ite (.cmp .eq (.var 3) (.cst (.str ("one" : Str)))) (.cst (.int 20)) (.cst (.int 4))), .ret (.and (.cmp .eq (.bi .len [(.var 0)]) (.cst (.int 2))) (.and (.bi .isTup [(.idx (.var 0) (.cst (.int 1)))]) (.cmp .le (.bi .len [(.idx (.var 0) (.cst (.int 1)))]) (.var 4))))] [], .ifs (.cmp .eq (.var 3) (.cst (.str ("new" : Str)))) [.ret (.and (.cmp .eq (.bi .len [(.var 0)]) (.cst (.int 3))) (.call ("is_name" : Str) [(.idx (.var 0) (.cst (.int 1)))]))] [], .ifs (.or (.cmp .ne (.var 3) (.cst (.str ("call" : Str)))) (.or (.cmp .ne (.bi .len [(.var 0)]) (.cst (.int 3))) (.not (.tst (.call ("is_from" : Str) [(.idx (.var 0) (.cst (.int 1))), (.cst (.int 0)), (.op .sub (.bi .len [(.var 1)]) (.cst (.int 1)))]))))) [.ret (.cst (.bool false))] [], .ret (.and (.call ("are_names" : Str) [(.idx (.var 0) (.cst (.int 2))), (.cst (.int 4))]) (.cmp .eq (.bi .len [(.idx (.var 0) (.cst (.int 2)))]) (.idx (.var 1) (.idx (.var 0) (.cst (.int 1))))))]
def fd_has_shape : FD := ⟨3, 5, [], b_has_shape, false, none⟩
theorem ok_has_shape : compSs ⟨N_has_shape, defScope (top 29), fun _ => true, G, true, none, mu_has_shape, false, false, none, none⟩ 60 (defBody (top 29)) = some b_has_shape := by kernel_rfl
def N_inside : List Str := [("piece" : Str), ("word" : Str), ("index" : Str), ("part" : Str)]
def mu_inside (x : Str) : Bool := [].contains x
def b_inside : List CS := [.asg (.v 1) (.idx (.var 0) (.cst (.int 0))), .ifs (.cmp .inn (.var 1) (.tup [(.cst (.str ("one" : Str))), (.cst (.str ("beside" : Str)))])) [.ret (.comp false .enum [(.idx (.var 0) (.cst (.int 1)))] (.t [(.v 2), (.v 3)]) [2, 3] [] (.tup [(.tup [(.cst (.int 1)), (.var 2)]), (.var 3)]))] [], .ifs (.cmp .eq (.var 1) (.cst (.str ("wait" : Str)))) [.ret (.lst [(.tup [(.tup [(.cst (.int 1))]), (.idx (.var 0) (.cst (.int 1)))])])] [], .ifs (.cmp .eq (.var 1) (.cst (.str ("new" : Str)))) [.ret (.lst [(.tup [(.tup [(.cst (.int 2))]), (.idx (.var 0) (.cst (.int 2)))])])] [], .ret (.ite (.cmp .inn (.var 1) (.cst (.tuple [(.str ("send" : Str)), (.str ("take" : Str)), (.str ("alike" : Str)), (.str ("unlike" : Str)), (.str ("sends" : Str)), (.str ("takes" : Str))]))) (.lst [(.tup [(.tup [(.cst (.int 3))]), (.idx (.var 0) (.cst (.int 3)))])]) (.lst []))]
def fd_inside : FD := ⟨1, 4, [], b_inside, false, none⟩
theorem ok_inside : compSs ⟨N_inside, defScope (top 30), fun _ => true, G, true, none, mu_inside, false, false, none, none⟩ 60 (defBody (top 30)) = some b_inside := by kernel_rfl
def N_fits : List Str := [("value" : Str), ("rules" : Str)]
def mu_fits (x : Str) : Bool := [].contains x
def b_fits : List CS := [.ifs (.cmp .eq (.var 0) (.tup [(.cst (.str ("hole" : Str)))])) [.ret (.and (.idx (.var 1) (.cst (.str ("hole" : Str)))) (.not (.idx (.var 1) (.cst (.str ("branch" : Str))))))] [], .ifs (.not (.tst (.call ("has_shape" : Str) [(.var 0), (.idx (.var 1) (.cst (.str ("widths" : Str)))), (.idx (.var 1) (.cst (.str ("rows" : Str))))]))) [.ret (.cst (.bool false))] [], .ifs (.and (.tst (.idx (.var 1) (.cst (.str ("branch" : Str))))) (.not (.tst (.call ("is_branch" : Str) [(.var 0)])))) [.ret (.cst (.bool false))] [], .ifs (.and (.tst (.idx (.var 1) (.cst (.str ("body" : Str))))) (.or (.cmp .eq (.idx (.var 0) (.cst (.int 0))) (.cst (.str ("beside" : Str)))) (.and (.cmp .eq (.idx (.var 0) (.cst (.int 0))) (.cst (.str ("call" : Str)))) (.not (.tst (.idx (.var 1) (.cst (.str ("behind" : Str))))))))) [.ret (.cst (.bool false))] [], .ret (.cst (.bool true))]
def fd_fits : FD := ⟨2, 2, [], b_fits, false, none⟩
theorem ok_fits : compSs ⟨N_fits, defScope (top 31), fun _ => true, G, true, none, mu_fits, false, false, none, none⟩ 60 (defBody (top 31)) = some b_fits := by kernel_rfl
def N_checked : List Str := [("value" : Str), ("path" : Str), ("deep" : Str), ("met" : Str), ("rules" : Str), ("within" : Str), ("number" : Str), ("rest" : Str), ("part" : Str)]
def mu_checked (x : Str) : Bool := [("within" : Str)].contains x
def b_checked : List CS := [.ifs (.cmp .gt (.var 2) (.cst (.int 12))) [.raise ("TooGreat" : Str) [(.cst (.int 12))]] [], .ifs (.cmp .eq (.var 3) (.cst (.int 80))) [.raise ("TooGreat" : Str) [(.cst (.int 80))]] [], .ifs (.not (.tst (.call ("fits" : Str) [(.var 0), (.var 4)]))) [.raise ("BadPiece" : Str) [(.var 1)]] [], .asg (.v 5) (.bloc .dict [(.var 4)]), .set (.var 5) (.cst (.str ("branch" : Str))) (.or (.cmp .inn (.idx (.var 0) (.cst (.int 0))) (.cst (.tuple [(.str ("alike" : Str)), (.str ("unlike" : Str))]))) (.cmp .eq (.idx (.var 0) (.cst (.int 0))) (.cst (.str ("one" : Str))))), .set (.var 5) (.cst (.str ("behind" : Str))) (.or (.idx (.var 4) (.cst (.str ("behind" : Str)))) (.cmp .inn (.idx (.var 0) (.cst (.int 0))) (.cst (.tuple [(.str ("send" : Str)), (.str ("take" : Str)), (.str ("wait" : Str)), (.str ("sends" : Str)), (.str ("takes" : Str))])))), .asg (.v 6) (.op .add (.var 3) (.cst (.int 1))), .for_ .seq [(.call ("inside" : Str) [(.var 0)])] (.t [(.v 7), (.v 8)]) [.asg (.v 6) (.call ("checked" : Str) [(.var 8), (.op .add (.var 1) (.var 7)), (.op .add (.var 2) (.cst (.int 1))), (.var 6), (.var 5)])], .ret (.var 6)]
def fd_checked : FD := ⟨5, 9, [], b_checked, false, none⟩
theorem ok_checked : compSs ⟨N_checked, defScope (top 32), fun _ => true, G, true, none, mu_checked, false, false, none, none⟩ 60 (defBody (top 32)) = some b_checked := by kernel_rfl
def N_is_head : List Str := [("value" : Str)]
def mu_is_head (x : Str) : Bool := [].contains x
def b_is_head : List CS := [.ifs (.or (.not (.tst (.bi .isTup [(.var 0)]))) (.or (.cmp .ne (.bi .len [(.var 0)]) (.cst (.int 2))) (.not (.tst (.call ("are_names" : Str) [(.idx (.var 0) (.cst (.int 0))), (.cst (.int 4))]))))) [.ret (.cst (.bool false))] [], .ret (.cmp .eq (.bi .setLen [(.bi .list [(.idx (.var 0) (.cst (.int 0)))])]) (.bi .len [(.idx (.var 0) (.cst (.int 0)))]))]
def fd_is_head : FD := ⟨1, 1, [], b_is_head, false, none⟩
theorem ok_is_head : compSs ⟨N_is_head, defScope (top 33), fun _ => true, G, true, none, mu_is_head, false, false, none, none⟩ 60 (defBody (top 33)) = some b_is_head := by kernel_rfl
def N_gone_through : List Str := [("value" : Str), ("hole" : Str), ("rows" : Str), ("widths" : Str), ("rules" : Str), ("met" : Str), ("number" : Str), ("definition" : Str), ("name" : Str), ("params" : Str), ("body" : Str)]
def mu_gone_through (x : Str) : Bool := [("rules" : Str)].contains x
def b_gone_through : List CS := [.ifs (.or (.not (.tst (.bi .isTup [(.var 0)]))) (.cmp .ne (.bi .len [(.var 0)]) (.cst (.int 2)))) [.raise ("BadProgram" : Str) [(.tup [])]] [], .ifs (.or (.not (.tst (.bi .isTup [(.idx (.var 0) (.cst (.int 0)))]))) (.cmp .gt (.bi .len [(.idx (.var 0) (.cst (.int 0)))]) (.cst (.int 4)))) [.raise ("BadProgram" : Str) [(.tup [(.cst (.int 0))])]] [], .for_ .enum [(.idx (.var 0) (.cst (.int 0)))] (.t [(.v 6), (.v 7)]) [.ifs (.not (.tst (.call ("is_head" : Str) [(.var 7)]))) [.raise ("BadProgram" : Str) [(.tup [(.cst (.int 0)), (.var 6)])]] []], .asg (.v 3) (.bi .tuple [(.comp false .seq [(.idx (.var 0) (.cst (.int 0)))] (.t [(.v 9), (.v 10)]) [9, 10] [] (.bi .len [(.var 9)]))]), .asg (.v 4) (.ndic [.inr ("widths" : Str), .inr ("branch" : Str), .inr ("body" : Str), .inr ("behind" : Str), .inr ("hole" : Str), .inr ("rows" : Str)] [(.var 3), (.cst (.bool false)), (.cst (.bool true)), (.cst (.bool false)), (.cst (.bool false)), (.var 2)]), .asg (.v 5) (.cst (.int 0)), .for_ .enum [(.idx (.var 0) (.cst (.int 0)))] (.t [(.v 6), (.v 7)]) [.asg (.v 5) (.call ("checked" : Str) [(.idx (.var 7) (.cst (.int 1))), (.tup [(.cst (.int 0)), (.var 6), (.cst (.int 1))]), (.cst (.int 1)), (.var 5), (.var 4)])], .set (.var 4) (.cst (.str ("body" : Str))) (.cst (.bool false)), .set (.var 4) (.cst (.str ("hole" : Str))) (.var 1), .asg (.v 5) (.call ("checked" : Str) [(.idx (.var 0) (.cst (.int 1))), (.tup [(.cst (.int 1))]), (.cst (.int 1)), (.var 5), (.var 4)]), .for_ .enum [(.idx (.var 0) (.cst (.int 0)))] (.t [(.v 6), (.v 7)]) [.for_ .seq [(.call ("free_in" : Str) [(.idx (.var 7) (.cst (.int 1)))])] (.v 8) [.ifs (.cmp .notin (.var 8) (.idx (.var 7) (.cst (.int 0)))) [.raise ("BadProgram" : Str) [(.tup [(.cst (.int 0)), (.var 6)])]] []]], .ret (.var 5)]
def fd_gone_through : FD := ⟨3, 11, [(.bool false)], b_gone_through, false, none⟩
theorem ok_gone_through : compSs ⟨N_gone_through, defScope (top 34), fun _ => true, G, true, none, mu_gone_through, false, false, none, none⟩ 60 (defBody (top 34)) = some b_gone_through := by kernel_rfl
def N_need_program : List Str := [("value" : Str)]
def mu_need_program (x : Str) : Bool := [].contains x
def b_need_program : List CS := [.ex (.call ("gone_through" : Str) [(.var 0), (.cst (.bool false))]), .ret (.var 0)]
def fd_need_program : FD := ⟨1, 1, [], b_need_program, false, none⟩
theorem ok_need_program : compSs ⟨N_need_program, defScope (top 35), fun _ => true, G, true, none, mu_need_program, false, false, none, none⟩ 60 (defBody (top 35)) = some b_need_program := by kernel_rfl
def N_free_in : List Str := [("piece" : Str), ("word" : Str), ("found" : Str), ("rest" : Str), ("part" : Str), ("bound" : Str), ("name" : Str)]
def mu_free_in (x : Str) : Bool := [].contains x
def b_free_in : List CS := [.asg (.v 1) (.idx (.var 0) (.cst (.int 0))), .ifs (.cmp .eq (.var 1) (.cst (.str ("call" : Str)))) [.ret (.bi .tuple [(.bi .sset [(.bi .list [(.idx (.var 0) (.cst (.int 2)))])])])] [], .asg (.v 2) (.lst []), .for_ .seq [(.call ("inside" : Str) [(.var 0)])] (.t [(.v 3), (.v 4)]) [.asg (.v 2) (.op .add (.var 2) (.bi .list [(.call ("free_in" : Str) [(.var 4)])]))], .ifs (.cmp .eq (.var 1) (.cst (.str ("new" : Str)))) [.asg (.v 2) (.comp false .seq [(.var 2)] (.v 6) [6] [(.cmp .ne (.var 6) (.idx (.var 0) (.cst (.int 1))))] (.var 6))] [.ifs (.cmp .inn (.var 1) (.tup [(.cst (.str ("take" : Str))), (.cst (.str ("takes" : Str)))])) [.asg (.v 5) (.ite (.cmp .eq (.var 1) (.cst (.str ("take" : Str)))) (.tup [(.idx (.var 0) (.cst (.int 2)))]) (.idx (.var 0) (.cst (.int 2)))), .asg (.v 2) (.op .add (.lst [(.idx (.var 0) (.cst (.int 1)))]) (.comp false .seq [(.var 2)] (.v 6) [6] [(.cmp .notin (.var 6) (.var 5))] (.var 6)))] [.ifs (.cmp .eq (.var 1) (.cst (.str ("sends" : Str)))) [.asg (.v 2) (.op .add (.op .add (.lst [(.idx (.var 0) (.cst (.int 1)))]) (.bi .list [(.idx (.var 0) (.cst (.int 2)))])) (.var 2))] [.ifs (.cmp .inn (.var 1) (.tup [(.cst (.str ("send" : Str))), (.cst (.str ("alike" : Str))), (.cst (.str ("unlike" : Str)))])) [.asg (.v 2) (.op .add (.lst [(.idx (.var 0) (.cst (.int 1))), (.idx (.var 0) (.cst (.int 2)))]) (.var 2))] []]]], .ret (.bi .tuple [(.bi .sset [(.var 2)])])]
def fd_free_in : FD := ⟨1, 7, [], b_free_in, false, none⟩
theorem ok_free_in : compSs ⟨N_free_in, defScope (top 36), fun _ => true, G, true, none, mu_free_in, false, false, none, none⟩ 60 (defBody (top 36)) = some b_free_in := by kernel_rfl
def N_listed_in : List Str := [("piece" : Str), ("path" : Str), ("found" : Str), ("rest" : Str), ("part" : Str)]
def mu_listed_in (x : Str) : Bool := [].contains x
def b_listed_in : List CS := [.asg (.v 2) (.lst [(.tup [(.var 1), (.var 0)])]), .for_ .seq [(.call ("inside" : Str) [(.var 0)])] (.t [(.v 3), (.v 4)]) [.asg (.v 2) (.op .add (.var 2) (.call ("listed_in" : Str) [(.var 4), (.op .add (.var 1) (.var 3))]))], .ret (.var 2)]
def fd_listed_in : FD := ⟨2, 5, [], b_listed_in, false, none⟩
theorem ok_listed_in : compSs ⟨N_listed_in, defScope (top 37), fun _ => true, G, true, none, mu_listed_in, false, false, none, none⟩ 60 (defBody (top 37)) = some b_listed_in := by kernel_rfl
def N_listed : List Str := [("program" : Str), ("found" : Str), ("number" : Str), ("definition" : Str)]
def mu_listed (x : Str) : Bool := [].contains x
def b_listed : List CS := [.asg (.v 1) (.lst []), .for_ .enum [(.idx (.var 0) (.cst (.int 0)))] (.t [(.v 2), (.v 3)]) [.asg (.v 1) (.op .add (.var 1) (.call ("listed_in" : Str) [(.idx (.var 3) (.cst (.int 1))), (.tup [(.cst (.int 0)), (.var 2), (.cst (.int 1))])]))], .ret (.op .add (.var 1) (.call ("listed_in" : Str) [(.idx (.var 0) (.cst (.int 1))), (.tup [(.cst (.int 1))])]))]
def fd_listed : FD := ⟨1, 4, [], b_listed, false, none⟩
theorem ok_listed : compSs ⟨N_listed, defScope (top 38), fun _ => true, G, true, none, mu_listed, false, false, none, none⟩ 60 (defBody (top 38)) = some b_listed := by kernel_rfl
def N_piece_at : List Str := [("program" : Str), ("path" : Str), ("found" : Str), ("index" : Str)]
def mu_piece_at (x : Str) : Bool := [].contains x
def b_piece_at : List CS := [.asg (.v 2) (.var 0), .for_ .seq [(.var 1)] (.v 3) [.asg (.v 2) (.idx (.var 2) (.var 3))], .ret (.var 2)]
def fd_piece_at : FD := ⟨2, 4, [], b_piece_at, false, none⟩
theorem ok_piece_at : compSs ⟨N_piece_at, defScope (top 39), fun _ => true, G, true, none, mu_piece_at, false, false, none, none⟩ 60 (defBody (top 39)) = some b_piece_at := by kernel_rfl
def N_is_path : List Str := [("value" : Str), ("item" : Str)]
def mu_is_path (x : Str) : Bool := [].contains x
def b_is_path : List CS := [.ifs (.not (.tst (.bi .isTup [(.var 0)]))) [.ret (.cst (.bool false))] [], .for_ .seq [(.var 0)] (.v 1) [.ifs (.not (.tst (.call ("is_from" : Str) [(.var 1), (.cst (.int 0)), (.cst (.int 80))]))) [.ret (.cst (.bool false))] []], .ret (.cst (.bool true))]
def fd_is_path : FD := ⟨1, 2, [], b_is_path, false, none⟩
theorem ok_is_path : compSs ⟨N_is_path, defScope (top 40), fun _ => true, G, true, none, mu_is_path, false, false, none, none⟩ 60 (defBody (top 40)) = some b_is_path := by kernel_rfl
def N_is_active : List Str := [("piece" : Str)]
def mu_is_active (x : Str) : Bool := [].contains x
def b_is_active : List CS := [.ifs (.cmp .eq (.idx (.var 0) (.cst (.int 0))) (.cst (.str ("one" : Str)))) [.ret (.cmp .ne (.idx (.var 0) (.cst (.int 1))) (.tup []))] [], .ret (.cmp .notin (.idx (.var 0) (.cst (.int 0))) (.tup [(.cst (.str ("beside" : Str))), (.cst (.str ("new" : Str))), (.cst (.str ("call" : Str)))]))]
def fd_is_active : FD := ⟨1, 1, [], b_is_active, false, none⟩
theorem ok_is_active : compSs ⟨N_is_active, defScope (top 44), fun _ => true, G, true, none, mu_is_active, false, false, none, none⟩ 60 (defBody (top 44)) = some b_is_active := by kernel_rfl
def N_fresh_number : List Str := [("used" : Str), ("number" : Str)]
def mu_fresh_number (x : Str) : Bool := [("used" : Str)].contains x
def b_fresh_number : List CS := [.asg (.v 1) (.cst (.int 0)), .whl (.cmp .inn (.var 1) (.var 0)) [.asg (.v 1) (.op .add (.var 1) (.cst (.int 1)))], .ex (.mt .append (.var 0) [(.var 1)]), .ret (.var 1)]
def fd_fresh_number : FD := ⟨1, 2, [], b_fresh_number, false, none⟩
theorem ok_fresh_number : compSs ⟨N_fresh_number, defScope (top 45), fun _ => true, G, true, none, mu_fresh_number, false, false, none, none⟩ 60 (defBody (top 45)) = some b_fresh_number := by kernel_rfl
def N_with_number : List Str := [("numbers" : Str), ("name" : Str), ("number" : Str), ("found" : Str)]
def mu_with_number (x : Str) : Bool := [("found" : Str)].contains x
def b_with_number : List CS := [.asg (.v 3) (.bloc .dict [(.var 0)]), .set (.var 3) (.var 1) (.var 2), .ret (.var 3)]
def fd_with_number : FD := ⟨3, 4, [], b_with_number, false, none⟩
theorem ok_with_number : compSs ⟨N_with_number, defScope (top 46), fun _ => true, G, true, none, mu_with_number, false, false, none, none⟩ 60 (defBody (top 46)) = some b_with_number := by kernel_rfl
def N_opened_part : List Str := [("program" : Str), ("path" : Str), ("numbers" : Str), ("used" : Str), ("piece" : Str), ("word" : Str), ("found" : Str), ("index" : Str), ("inner" : Str), ("param" : Str), ("name" : Str)]
def mu_opened_part (x : Str) : Bool := [("inner" : Str)].contains x
def b_opened_part : List CS := [.asg (.v 4) (.call ("piece_at" : Str) [(.var 0), (.var 1)]), .asg (.v 5) (.idx (.var 4) (.cst (.int 0))), .ifs (.cmp .eq (.var 5) (.cst (.str ("beside" : Str)))) [.asg (.v 6) (.lst []), .for_ .range1 [(.bi .len [(.idx (.var 4) (.cst (.int 1)))])] (.v 7) [.asg (.v 6) (.op .add (.var 6) (.call ("opened_part" : Str) [(.var 0), (.op .add (.var 1) (.tup [(.cst (.int 1)), (.var 7)])), (.var 2), (.var 3)]))], .ret (.var 6)] [], .ifs (.cmp .eq (.var 5) (.cst (.str ("new" : Str)))) [.ret (.call ("opened_part" : Str) [(.var 0), (.op .add (.var 1) (.tup [(.cst (.int 2))])), (.call ("with_number" : Str) [(.var 2), (.idx (.var 4) (.cst (.int 1))), (.call ("fresh_number" : Str) [(.var 3)])]), (.var 3)])] [], .ifs (.cmp .eq (.var 5) (.cst (.str ("call" : Str)))) [.asg (.v 8) (.ndic [] []), .stuck, .ret (.call ("opened_part" : Str) [(.var 0), (.tup [(.cst (.int 0)), (.idx (.var 4) (.cst (.int 1))), (.cst (.int 1))]), (.var 8), (.var 3)])] [], .ifs (.not (.tst (.call ("is_active" : Str) [(.var 4)]))) [.ret (.lst [])] [], .ret (.lst [(.tup [(.var 1), (.bi .tuple [(.comp false .seq [(.call ("free_in" : Str) [(.var 4)])] (.v 10) [10] [] (.idx (.var 2) (.var 10)))])])])]
def fd_opened_part : FD := ⟨4, 11, [], b_opened_part, false, none⟩
theorem ok_opened_part : compSs ⟨N_opened_part, defScope (top 47), fun _ => true, G, true, none, mu_opened_part, false, false, none, none⟩ 60 (defBody (top 47)) = some b_opened_part := by kernel_rfl
def N_settled_row : List Str := [("threads" : Str), ("known" : Str), ("outside" : Str), ("inner" : Str), ("places" : Str), ("number" : Str), ("rows" : Str), ("path" : Str), ("numbers" : Str)]
def mu_settled_row (x : Str) : Bool := [("places" : Str), ("outside" : Str), ("inner" : Str)].contains x
def b_settled_row : List CS := [.asg (.v 2) (.nlst []), .asg (.v 3) (.nlst []), .for_ .seq [(.var 0)] (.t [(.v 7), (.v 8)]) [.for_ .seq [(.var 8)] (.v 5) [.ifs (.and (.cmp .inn (.var 5) (.var 1)) (.cmp .notin (.var 5) (.var 2))) [.ex (.mt .append (.var 2) [(.var 5)])] [], .ifs (.and (.cmp .notin (.var 5) (.var 1)) (.cmp .notin (.var 5) (.var 3))) [.ex (.mt .append (.var 3) [(.var 5)])] []]], .asg (.v 4) (.ndic [] []), .for_ .seq [(.op .add (.var 2) (.var 3))] (.v 5) [.set (.var 4) (.var 5) (.bi .len [(.var 4)])], .asg (.v 6) (.comp false .seq [(.var 0)] (.t [(.v 7), (.v 8)]) [7, 8] [] (.tup [(.var 7), (.bi .tuple [(.comp false .seq [(.var 8)] (.v 5) [5] [] (.idx (.var 4) (.var 5)))])])), .ret (.tup [(.tup [(.bi .len [(.var 2)]), (.bi .len [(.var 3)]), (.bi .tuple [(.var 6)])]), (.bi .tuple [(.var 2)])])]
def fd_settled_row : FD := ⟨2, 9, [], b_settled_row, false, none⟩
theorem ok_settled_row : compSs ⟨N_settled_row, defScope (top 48), fun _ => true, G, true, none, mu_settled_row, false, false, none, none⟩ 60 (defBody (top 48)) = some b_settled_row := by kernel_rfl
def N_need_bounds : List Str := [("standings" : Str), ("known" : Str), ("inner" : Str), ("threads" : Str)]
def mu_need_bounds (x : Str) : Bool := [].contains x
def b_need_bounds : List CS := [.for_ .seq [(.var 0)] (.t [(.v 1), (.v 2), (.v 3)]) [.ifs (.cmp .gt (.bi .len [(.var 3)]) (.cst (.int 8))) [.raise ("TooGreat" : Str) [(.cst (.int 8))]] []], .for_ .seq [(.var 0)] (.t [(.v 1), (.v 2), (.v 3)]) [.ifs (.cmp .gt (.op .add (.var 1) (.var 2)) (.cst (.int 12))) [.raise ("TooGreat" : Str) [(.cst (.int 12))]] []]]
def fd_need_bounds : FD := ⟨1, 4, [], b_need_bounds, false, none⟩
theorem ok_need_bounds : compSs ⟨N_need_bounds, defScope (top 49), fun _ => true, G, true, none, mu_need_bounds, false, false, none, none⟩ 60 (defBody (top 49)) = some b_need_bounds := by kernel_rfl
def N_started : List Str := [("program" : Str), ("given" : Str), ("numbers" : Str), ("name" : Str), ("used" : Str), ("standing" : Str), ("keys" : Str)]
def mu_started (x : Str) : Bool := [("numbers" : Str)].contains x
def b_started : List CS := [.asg (.v 2) (.ndic [] []), .for_ .seq [(.call ("free_in" : Str) [(.idx (.var 0) (.cst (.int 1)))])] (.v 3) [.set (.var 2) (.var 3) (.idx (.var 1) (.var 3))], .asg (.v 4) (.bi .sset [(.bi .dvals [(.var 2)])]), .asg (.t [(.v 5), (.v 6)]) (.call ("settled_row" : Str) [(.call ("opened_part" : Str) [(.var 0), (.tup [(.cst (.int 1))]), (.var 2), (.bi .list [(.var 4)])]), (.var 4)]), .ex (.call ("need_bounds" : Str) [(.lst [(.var 5)])]), .ret (.tup [(.var 5), (.var 6)])]
def fd_started : FD := ⟨2, 7, [], b_started, false, none⟩
theorem ok_started : compSs ⟨N_started, defScope (top 50), fun _ => true, G, true, none, mu_started, false, false, none, none⟩ 60 (defBody (top 50)) = some b_started := by kernel_rfl
def N_start : List Str := [("program" : Str), ("given" : Str)]
def mu_start (x : Str) : Bool := [].contains x
def b_start : List CS := [.ex (.call ("need_program" : Str) [(.var 0)]), .ex (.call ("need_given" : Str) [(.var 1)]), .ret (.call ("started" : Str) [(.var 0), (.var 1)])]
def fd_start : FD := ⟨2, 2, [(.tuple [(.int 0), (.int 1), (.int 2), (.int 3), (.int 4), (.int 5), (.int 6), (.int 7), (.int 8), (.int 9)])], b_start, false, none⟩
theorem ok_start : compSs ⟨N_start, defScope (top 51), fun _ => true, G, true, none, mu_start, false, false, none, none⟩ 60 (defBody (top 51)) = some b_start := by kernel_rfl
def N_active_part : List Str := [("program" : Str), ("path" : Str), ("place" : Str), ("piece" : Str)]
def mu_active_part (x : Str) : Bool := [].contains x
def b_active_part : List CS := [.ifs (.not (.tst (.call ("is_path" : Str) [(.var 1)]))) [.ret (.cst .none)] [], .for_ .seq [(.call ("listed" : Str) [(.var 0)])] (.t [(.v 2), (.v 3)]) [.ifs (.cmp .eq (.var 2) (.var 1)) [.ret (.ite (.tst (.call ("is_active" : Str) [(.var 3)])) (.var 3) (.cst .none))] []], .ret (.cst .none)]
def fd_active_part : FD := ⟨2, 4, [], b_active_part, false, none⟩
theorem ok_active_part : compSs ⟨N_active_part, defScope (top 52), fun _ => true, G, true, none, mu_active_part, false, false, none, none⟩ 60 (defBody (top 52)) = some b_active_part := by kernel_rfl
def N_is_thread : List Str := [("program" : Str), ("value" : Str), ("most" : Str), ("piece" : Str), ("number" : Str)]
def mu_is_thread (x : Str) : Bool := [].contains x
def b_is_thread : List CS := [.ifs (.or (.not (.tst (.bi .isTup [(.var 1)]))) (.or (.cmp .ne (.bi .len [(.var 1)]) (.cst (.int 2))) (.not (.tst (.bi .isTup [(.idx (.var 1) (.cst (.int 1)))]))))) [.ret (.cst (.bool false))] [], .asg (.v 3) (.call ("active_part" : Str) [(.var 0), (.idx (.var 1) (.cst (.int 0)))]), .ifs (.or (.cmp .isN (.var 3) (.cst .none)) (.cmp .ne (.bi .len [(.idx (.var 1) (.cst (.int 1)))]) (.bi .len [(.call ("free_in" : Str) [(.var 3)])]))) [.ret (.cst (.bool false))] [], .for_ .seq [(.idx (.var 1) (.cst (.int 1)))] (.v 4) [.ifs (.or (.not (.tst (.call ("is_natural" : Str) [(.var 4)]))) (.and (.cmp .notN (.var 2) (.cst .none)) (.cmp .gt (.var 4) (.var 2)))) [.ret (.cst (.bool false))] []], .ret (.cst (.bool true))]
def fd_is_thread : FD := ⟨3, 5, [], b_is_thread, false, none⟩
theorem ok_is_thread : compSs ⟨N_is_thread, defScope (top 53), fun _ => true, G, true, none, mu_is_thread, false, false, none, none⟩ 60 (defBody (top 53)) = some b_is_thread := by kernel_rfl
def N_is_natural : List Str := [("value" : Str)]
def mu_is_natural (x : Str) : Bool := [].contains x
def b_is_natural : List CS := [.ret (.and (.bi .isInt [(.var 0)]) (.and (.not (.bi .isBool [(.var 0)])) (.cmp .ge (.var 0) (.cst (.int 0)))))]
def fd_is_natural : FD := ⟨1, 1, [], b_is_natural, false, none⟩
theorem ok_is_natural : compSs ⟨N_is_natural, defScope (top 54), fun _ => true, G, true, none, mu_is_natural, false, false, none, none⟩ 60 (defBody (top 54)) = some b_is_natural := by kernel_rfl
def N_need_standing : List Str := [("program" : Str), ("value" : Str), ("place" : Str), ("known" : Str), ("inner" : Str), ("threads" : Str), ("index" : Str), ("thread" : Str)]
def mu_need_standing (x : Str) : Bool := [].contains x
def b_need_standing : List CS := [.ex (.call ("need_program" : Str) [(.var 0)]), .ifs (.or (.not (.tst (.bi .isTup [(.var 1)]))) (.cmp .ne (.bi .len [(.var 1)]) (.cst (.int 3)))) [.raise ("BadStanding" : Str) [(.tup [])]] [], .for_ .seq [(.tup [(.cst (.int 0)), (.cst (.int 1))])] (.v 2) [.ifs (.not (.tst (.call ("is_natural" : Str) [(.idx (.var 1) (.var 2))]))) [.raise ("BadStanding" : Str) [(.tup [(.var 2)])]] []], .asg (.t [(.v 3), (.v 4), (.v 5)]) (.var 1), .ifs (.cmp .gt (.op .add (.var 3) (.var 4)) (.cst (.int 12))) [.raise ("TooGreat" : Str) [(.cst (.int 12))]] [], .ifs (.not (.tst (.bi .isTup [(.var 5)]))) [.raise ("BadStanding" : Str) [(.tup [(.cst (.int 2))])]] [], .ifs (.cmp .gt (.bi .len [(.var 5)]) (.cst (.int 8))) [.raise ("TooGreat" : Str) [(.cst (.int 8))]] [], .for_ .enum [(.var 5)] (.t [(.v 6), (.v 7)]) [.ifs (.not (.tst (.call ("is_thread" : Str) [(.var 0), (.var 7), (.op .sub (.op .add (.var 3) (.var 4)) (.cst (.int 1)))]))) [.raise ("BadStanding" : Str) [(.tup [(.cst (.int 2)), (.var 6)])]] []], .ifs (.cmp .ne (.idx (.call ("settled_row" : Str) [(.var 5), (.bi .lstRange [(.var 3)])]) (.cst (.int 0))) (.var 1)) [.raise ("BadStanding" : Str) [(.tup [])]] [], .ret (.var 1)]
def fd_need_standing : FD := ⟨2, 8, [], b_need_standing, false, none⟩
theorem ok_need_standing : compSs ⟨N_need_standing, defScope (top 55), fun _ => true, G, true, none, mu_need_standing, false, false, none, none⟩ 60 (defBody (top 55)) = some b_need_standing := by kernel_rfl
def N_is_joining : List Str := [("many" : Str), ("value" : Str), ("index" : Str), ("first" : Str)]
def mu_is_joining (x : Str) : Bool := [].contains x
def b_is_joining : List CS := [.ifs (.or (.not (.tst (.bi .isTup [(.var 1)]))) (.cmp .ne (.bi .len [(.var 1)]) (.var 0))) [.ret (.cst (.bool false))] [], .for_ .enum [(.var 1)] (.t [(.v 2), (.v 3)]) [.ifs (.or (.not (.tst (.call ("is_from" : Str) [(.var 3), (.cst (.int 0)), (.var 2)]))) (.cmp .ne (.idx (.var 1) (.var 3)) (.var 3))) [.ret (.cst (.bool false))] []], .ret (.cst (.bool true))]
def fd_is_joining : FD := ⟨2, 4, [], b_is_joining, false, none⟩
theorem ok_is_joining : compSs ⟨N_is_joining, defScope (top 58), fun _ => true, G, true, none, mu_is_joining, false, false, none, none⟩ 60 (defBody (top 58)) = some b_is_joining := by kernel_rfl
def N_need_joining : List Str := [("many" : Str), ("value" : Str)]
def mu_need_joining (x : Str) : Bool := [].contains x
def b_need_joining : List CS := [.ifs (.not (.tst (.call ("is_from" : Str) [(.var 0), (.cst (.int 0)), (.cst (.int 12))]))) [.raise ("BadParameter" : Str) [(.var 0)]] [], .ifs (.not (.tst (.call ("is_joining" : Str) [(.var 0), (.var 1)]))) [.raise ("BadJoining" : Str) [(.var 1)]] [], .ret (.var 1)]
def fd_need_joining : FD := ⟨2, 2, [], b_need_joining, false, none⟩
theorem ok_need_joining : compSs ⟨N_need_joining, defScope (top 59), fun _ => true, G, true, none, mu_need_joining, false, false, none, none⟩ 60 (defBody (top 59)) = some b_need_joining := by kernel_rfl
def N_all_joinings : List Str := [("many" : Str), ("found" : Str), ("index" : Str), ("longer" : Str), ("row" : Str), ("first" : Str)]
def mu_all_joinings (x : Str) : Bool := [("longer" : Str)].contains x
def b_all_joinings : List CS := [.ifs (.not (.tst (.call ("is_natural" : Str) [(.var 0)]))) [.raise ("BadParameter" : Str) [(.var 0)]] [], .ifs (.cmp .gt (.var 0) (.cst (.int 5))) [.raise ("TooGreat" : Str) [(.cst (.int 5))]] [], .asg (.v 1) (.lst [(.tup [])]), .for_ .range1 [(.var 0)] (.v 2) [.asg (.v 3) (.nlst []), .for_ .seq [(.var 1)] (.v 4) [.for_ .range1 [(.var 2)] (.v 5) [.ifs (.cmp .eq (.idx (.var 4) (.var 5)) (.var 5)) [.ex (.mt .append (.var 3) [(.op .add (.var 4) (.tup [(.var 5)]))])] []], .ex (.mt .append (.var 3) [(.op .add (.var 4) (.tup [(.var 2)]))])], .asg (.v 1) (.bi .list [(.var 3)])], .ret (.bi .tuple [(.bi .sortD [(.var 1)])])]
def fd_all_joinings : FD := ⟨1, 6, [], b_all_joinings, false, none⟩
theorem ok_all_joinings : compSs ⟨N_all_joinings, defScope (top 60), fun _ => true, G, true, none, mu_all_joinings, false, false, none, none⟩ 60 (defBody (top 60)) = some b_all_joinings := by kernel_rfl
def N_joined : List Str := [("program" : Str), ("standing" : Str), ("joining" : Str), ("numbers" : Str), ("rows" : Str), ("known" : Str), ("inner" : Str), ("threads" : Str), ("told" : Str), ("keys" : Str), ("path" : Str), ("given" : Str), ("number" : Str)]
def mu_joined (x : Str) : Bool := [].contains x
def b_joined : List CS := [.ex (.call ("need_standing" : Str) [(.var 0), (.var 1)]), .asg (.t [(.v 5), (.v 6), (.v 7)]) (.var 1), .ifs (.not (.tst (.call ("is_joining" : Str) [(.var 5), (.var 2)]))) [.raise ("BadJoining" : Str) [(.var 2)]] [], .asg (.v 3) (.op .add (.bi .list [(.var 2)]) (.bi .lstRange [(.var 5), (.op .add (.var 5) (.var 6))])), .asg (.v 4) (.comp false .seq [(.var 7)] (.t [(.v 10), (.v 11)]) [10, 11] [] (.tup [(.var 10), (.bi .tuple [(.comp false .seq [(.var 11)] (.v 12) [12] [] (.idx (.var 3) (.var 12)))])])), .asg (.t [(.v 8), (.v 9)]) (.call ("settled_row" : Str) [(.var 4), (.bi .lstRange [(.var 5)])]), .ex (.call ("need_bounds" : Str) [(.lst [(.var 8)])]), .ret (.tup [(.var 8), (.var 9)])]
def fd_joined : FD := ⟨3, 13, [], b_joined, false, none⟩
theorem ok_joined : compSs ⟨N_joined, defScope (top 61), fun _ => true, G, true, none, mu_joined, false, false, none, none⟩ 60 (defBody (top 61)) = some b_joined := by kernel_rfl
def N_is_condition : List Str := [("many" : Str), ("value" : Str), ("last" : Str), ("test" : Str)]
def mu_is_condition (x : Str) : Bool := [].contains x
def b_is_condition : List CS := [.ifs (.not (.tst (.bi .isTup [(.var 1)]))) [.ret (.cst (.bool false))] [], .asg (.v 2) (.cst .none), .for_ .seq [(.var 1)] (.v 3) [.ifs (.or (.not (.tst (.bi .isTup [(.var 3)]))) (.or (.cmp .ne (.bi .len [(.var 3)]) (.cst (.int 3))) (.cmp .notin (.idx (.var 3) (.cst (.int 0))) (.tup [(.cst (.str ("alike" : Str))), (.cst (.str ("unlike" : Str)))])))) [.ret (.cst (.bool false))] [], .ifs (.or (.not (.tst (.call ("is_from" : Str) [(.idx (.var 3) (.cst (.int 2))), (.cst (.int 0)), (.op .sub (.var 0) (.cst (.int 1)))]))) (.not (.tst (.call ("is_from" : Str) [(.idx (.var 3) (.cst (.int 1))), (.cst (.int 0)), (.op .sub (.idx (.var 3) (.cst (.int 2))) (.cst (.int 1)))])))) [.ret (.cst (.bool false))] [], .ifs (.and (.cmp .notN (.var 2) (.cst .none)) (.not (.cmp .lt (.var 2) (.var 3)))) [.ret (.cst (.bool false))] [], .asg (.v 2) (.var 3)], .ret (.cst (.bool true))]
def fd_is_condition : FD := ⟨2, 4, [], b_is_condition, false, none⟩
theorem ok_is_condition : compSs ⟨N_is_condition, defScope (top 62), fun _ => true, G, true, none, mu_is_condition, false, false, none, none⟩ 60 (defBody (top 62)) = some b_is_condition := by kernel_rfl
def N_holds_joined : List Str := [("condition" : Str), ("joining" : Str), ("word" : Str), ("one" : Str), ("other" : Str)]
def mu_holds_joined (x : Str) : Bool := [].contains x
def b_holds_joined : List CS := [.ifs (.or (.not (.tst (.bi .isTup [(.var 1)]))) (.not (.tst (.call ("is_joining" : Str) [(.bi .len [(.var 1)]), (.var 1)])))) [.raise ("BadJoining" : Str) [(.var 1)]] [], .ifs (.not (.tst (.call ("is_condition" : Str) [(.bi .len [(.var 1)]), (.var 0)]))) [.raise ("BadParameter" : Str) [(.var 0)]] [], .for_ .seq [(.var 0)] (.t [(.v 2), (.v 3), (.v 4)]) [.ifs (.cmp .ne (.cmp .eq (.idx (.var 1) (.var 3)) (.idx (.var 1) (.var 4))) (.cmp .eq (.var 2) (.cst (.str ("alike" : Str))))) [.ret (.cst (.bool false))] []], .ret (.cst (.bool true))]
def fd_holds_joined : FD := ⟨2, 5, [], b_holds_joined, false, none⟩
theorem ok_holds_joined : compSs ⟨N_holds_joined, defScope (top 63), fun _ => true, G, true, none, mu_holds_joined, false, false, none, none⟩ 60 (defBody (top 63)) = some b_holds_joined := by kernel_rfl
def N__law_mixed : List Str := [("_law_cell" : Str), ("_law_k" : Str)]
def mu__law_mixed (x : Str) : Bool := [].contains x
def b__law_mixed : List CS := [.asg (.v 0) (.op .mod (.bi .int [(.var 0)]) (.cst (.int 2147483647))), .ret (.op .mod (.op .mul (.op .mod (.op .add (.op .add (.op .mul (.var 0) (.op .add (.cst (.int 48271)) (.op .mul (.op .mul (.cst (.int 2)) (.var 1)) (.var 1)))) (.op .mul (.cst (.int 69621)) (.var 1))) (.cst (.int 11))) (.cst (.int 2147483647))) (.cst (.int 69621))) (.cst (.int 2147483629)))]
def fd__law_mixed : FD := ⟨2, 2, [], b__law_mixed, false, none⟩
theorem ok__law_mixed : compSs ⟨N__law_mixed, defScope (top 65), fun _ => true, G, true, none, mu__law_mixed, false, false, none, none⟩ 60 (defBody (top 65)) = some b__law_mixed := by kernel_rfl
def N__law_begin : List Str := [("_law_script" : Str), ("_law_cells_so" : Str), ("_law_cell" : Str)]
def mu__law_begin (x : Str) : Bool := [("{}" : Str)].contains x
def b__law_begin : List CS := [.asg (.v 1) (.ite (.cmp .ne (.var 0) (.lst [])) (.bi .list [(.var 0)]) (.lst [(.cst (.int 0))])), .ret (.ndic [.inr ("cells" : Str), .inr ("lefts" : Str), .inr ("at" : Str)] [(.var 1), (.comp true .seq [(.var 1)] (.v 2) [2] [] (.ite (.cmp .ge (.var 2) (.op .pow (.cst (.int 10)) (.cst (.int 18)))) (.var 2) (.cst (.int 0)))), (.cst (.int 0))])]
def fd__law_begin : FD := ⟨1, 3, [], b__law_begin, true, none⟩
theorem ok__law_begin : compSs ⟨N__law_begin, defScope (top 66), fun _ => true, G, true, none, mu__law_begin, false, false, none, none⟩ 60 (defBody (top 66)) = some b__law_begin := by kernel_rfl
def N__law_draw : List Str := [("_law_state" : Str), ("_law_limit" : Str), ("_law_at" : Str), ("_law_place" : Str), ("_law_left" : Str), ("_law_number" : Str)]
def mu__law_draw (x : Str) : Bool := [("_law_state" : Str)].contains x
def b__law_draw : List CS := [.asg (.v 2) (.idx (.var 0) (.cst (.str ("at" : Str)))), .set (.var 0) (.cst (.str ("at" : Str))) (.op .add (.var 2) (.cst (.int 1))), .asg (.v 3) (.op .mod (.bi .int [(.var 2)]) (.bi .len [(.idx (.var 0) (.cst (.str ("cells" : Str))))])), .asg (.v 4) (.idx (.idx (.var 0) (.cst (.str ("lefts" : Str)))) (.var 3)), .ifs (.cmp .gt (.var 4) (.cst (.int 0))) [.set (.idx (.var 0) (.cst (.str ("lefts" : Str)))) (.var 3) (.op .fdiv (.var 4) (.var 1)), .ret (.op .mod (.bi .int [(.var 4)]) (.var 1))] [], .asg (.v 5) (.call ("_law_mixed" : Str) [(.call ("_law_mixed" : Str) [(.idx (.idx (.var 0) (.cst (.str ("cells" : Str)))) (.var 3)), (.var 2)]), (.op .add (.cst (.int 40)) (.var 2))]), .ret (.op .mod (.op .fdiv (.bi .int [(.op .add (.op .mul (.var 5) (.cst (.int 2147483647))) (.call ("_law_mixed" : Str) [(.var 5), (.op .add (.cst (.int 7)) (.var 2))]))]) (.cst (.int 64))) (.var 1))]
def fd__law_draw : FD := ⟨2, 6, [], b__law_draw, false, none⟩
theorem ok__law_draw : compSs ⟨N__law_draw, defScope (top 67), fun _ => true, G, true, none, mu__law_draw, false, false, none, none⟩ 60 (defBody (top 67)) = some b__law_draw := by kernel_rfl
def N__law_of : List Str := [("_law_state" : Str), ("_law_some" : Str)]
def mu__law_of (x : Str) : Bool := [].contains x
def b__law_of : List CS := [.ret (.idx (.var 1) (.call ("_law_draw" : Str) [(.var 0), (.bi .len [(.var 1)])]))]
def fd__law_of : FD := ⟨2, 2, [], b__law_of, false, none⟩
theorem ok__law_of : compSs ⟨N__law_of, defScope (top 68), fun _ => true, G, true, none, mu__law_of, false, false, none, none⟩ 60 (defBody (top 68)) = some b__law_of := by kernel_rfl
def N__law_like : List Str := [("_law_got" : Str), ("_law_due" : Str)]
def mu__law_like (x : Str) : Bool := [].contains x
def b__law_like : List CS := [.ret (.cmp .eq (.bi .repr [(.var 0)]) (.bi .repr [(.var 1)]))]
def fd__law_like : FD := ⟨2, 2, [], b__law_like, false, none⟩
theorem ok__law_like : compSs ⟨N__law_like, defScope (top 69), fun _ => true, G, true, none, mu__law_like, true, false, none, none⟩ 60 (defBody (top 69)) = some b__law_like := by kernel_rfl
def N__law_all : List Str := [("_law_wide" : Str), ("_law_found" : Str), ("_law_index" : Str), ("_law_more" : Str), ("_law_row" : Str), ("_law_first" : Str)]
def mu__law_all (x : Str) : Bool := [("_law_more" : Str)].contains x
def b__law_all : List CS := [.asg (.v 1) (.lst [(.tup [])]), .for_ .range1 [(.var 0)] (.v 2) [.asg (.v 3) (.nlst []), .for_ .seq [(.var 1)] (.v 4) [.for_ .range1 [(.op .add (.var 2) (.cst (.int 1)))] (.v 5) [.ifs (.or (.cmp .eq (.var 5) (.var 2)) (.cmp .eq (.idx (.var 4) (.var 5)) (.var 5))) [.ex (.mt .append (.var 3) [(.op .add (.var 4) (.tup [(.var 5)]))])] []]], .asg (.v 1) (.bi .list [(.var 3)])], .ret (.bi .sortD [(.var 1)])]
def fd__law_all : FD := ⟨1, 6, [], b__law_all, false, none⟩
theorem ok__law_all : compSs ⟨N__law_all, defScope (top 70), fun _ => true, G, true, none, mu__law_all, false, false, none, none⟩ 60 (defBody (top 70)) = some b__law_all := by kernel_rfl
def N__law_is_joining : List Str := [("_law_wide" : Str), ("_law_row" : Str), ("_law_index" : Str), ("_law_first" : Str)]
def mu__law_is_joining (x : Str) : Bool := [].contains x
def b__law_is_joining : List CS := [.ifs (.or (.not (.tst (.bi .isTup [(.var 1)]))) (.cmp .ne (.bi .len [(.var 1)]) (.var 0))) [.ret (.cst (.bool false))] [], .for_ .enum [(.var 1)] (.t [(.v 2), (.v 3)]) [.ifs (.or (.not (.tst (.bi .isInt [(.var 3)]))) (.or (.tst (.bi .isBool [(.var 3)])) (.not (.chain .le .le (.cst (.int 0)) (.var 3) (.var 2))))) [.ret (.cst (.bool false))] []], .ret (.cmp .eq (.comp false .seq [(.var 1)] (.v 3) [3] [(.cmp .ne (.idx (.var 1) (.var 3)) (.var 3))] (.cst (.int 1))) (.lst []))]
def fd__law_is_joining : FD := ⟨2, 4, [], b__law_is_joining, false, none⟩
theorem ok__law_is_joining : compSs ⟨N__law_is_joining, defScope (top 71), fun _ => true, G, true, none, mu__law_is_joining, false, false, none, none⟩ 60 (defBody (top 71)) = some b__law_is_joining := by kernel_rfl
def N__law_caught : List Str := [("_law_call" : Str), ("_law_found" : Str), ("error" : Str)]
def mu__law_caught (x : Str) : Bool := [].contains x
def b__law_caught : List CS := [.asg (.v 1) (.cst .none), .try_ [.asg (.v 1) (.lst [(.cst (.str ("told" : Str))), (.act 0)])] [(("BadJoining" : Str), (some 2), [.asg (.v 1) (.lst [(.cst (.str ("BadJoining" : Str))), (.fld 2 ("value" : Str)), (.isx 2 ("BadParameter" : Str))])]), (("BadParameter" : Str), (some 2), [.asg (.v 1) (.lst [(.cst (.str ("BadParameter" : Str))), (.fld 2 ("value" : Str)), (.isx 2 ("BadJoining" : Str))])]), (("BadStanding" : Str), (some 2), [.asg (.v 1) (.lst [(.cst (.str ("BadStanding" : Str))), (.fld 2 ("place" : Str)), (.isx 2 ("BadJoining" : Str))])]), (("TooGreat" : Str), (some 2), [.asg (.v 1) (.lst [(.cst (.str ("TooGreat" : Str))), (.fld 2 ("most" : Str)), (.isx 2 ("BadParameter" : Str))])]), (("PassError" : Str), none, [.asg (.v 1) (.lst [(.cst (.str ("another" : Str)))])])], .ret (.var 1)]
def fd__law_caught : FD := ⟨1, 3, [], b__law_caught, false, none⟩
theorem ok__law_caught : compSs ⟨N__law_caught, defScope (top 72), fun _ => true, G, true, none, mu__law_caught, false, false, some ("_law_call" : Str), none⟩ 60 (defBody (top 72)) = some b__law_caught := by kernel_rfl
def N__law_needed_right : List Str := [("_law_state" : Str), ("_law_wide" : Str), ("_law_row" : Str), ("_law_odd" : Str), ("_law_value" : Str), ("_law_due" : Str), ("_law_index" : Str), ("_law_number" : Str)]
def mu__law_needed_right (x : Str) : Bool := [("_law_odd" : Str)].contains x
def b__law_needed_right : List CS := [.asg (.v 2) (.bi .tuple [(.comp false .range1 [(.var 1)] (.v 6) [6] [] (.call ("_law_draw" : Str) [(.var 0), (.op .add (.var 6) (.cst (.int 2)))]))]), .asg (.v 3) (.nlst [(.var 2), (.op .add (.var 2) (.tup [(.cst (.int 0))])), (.bi .list [(.var 2)]), (.cst .none), (.bi .tuple [(.op .mul (.lst [(.cst (.bool true))]) (.var 1))]), (.op .add (.sl (.var 2) [] [(.neg (.cst (.int 1)))]) (.tup [(.neg (.cst (.int 1)))])), (.op .add (.sl (.var 2) [] [(.neg (.cst (.int 1)))]) (.tup [(.cst (.str ("0" : Str)))]))]), .ex (.mt .append (.var 3) [(.bi .tuple [(.comp false .enum [(.var 2)] (.t [(.v 6), (.v 7)]) [6, 7] [] (.bi .min2 [(.var 6), (.var 7)]))])]), .for_ .seq [(.var 3)] (.v 4) [.asg (.v 5) (.ite (.tst (.call ("_law_is_joining" : Str) [(.var 1), (.var 4)])) (.lst [(.cst (.str ("told" : Str))), (.var 4)]) (.lst [(.cst (.str ("BadJoining" : Str))), (.var 4), (.cst (.bool false))])), .ifs (.not (.tst (.call ("_law_like" : Str) [(.callL ("_law_caught" : Str) (.call ("need_joining" : Str) [(.var 1), (.var 4)])), (.var 5)]))) [.ret (.cst (.bool false))] []], .ret (.cst (.bool true))]
def fd__law_needed_right : FD := ⟨2, 8, [], b__law_needed_right, false, none⟩
theorem ok__law_needed_right : compSs ⟨N__law_needed_right, defScope (top 73), fun _ => true, G, true, none, mu__law_needed_right, true, true, none, none⟩ 60 (defBody (top 73)) = some b__law_needed_right := by kernel_rfl
def N__law_condition : List Str := [("_law_state" : Str), ("_law_wide" : Str), ("_law_found" : Str), ("_law_step" : Str), ("_law_high" : Str), ("_law_test" : Str)]
def mu__law_condition (x : Str) : Bool := [("_law_found" : Str)].contains x
def b__law_condition : List CS := [.asg (.v 2) (.nlst []), .for_ .range1 [(.call ("_law_draw" : Str) [(.var 0), (.cst (.int 4))])] (.v 3) [.asg (.v 4) (.op .add (.cst (.int 1)) (.call ("_law_draw" : Str) [(.var 0), (.op .sub (.var 1) (.cst (.int 1)))])), .asg (.v 5) (.tup [(.call ("_law_of" : Str) [(.var 0), (.lst [(.cst (.str ("alike" : Str))), (.cst (.str ("unlike" : Str)))])]), (.call ("_law_draw" : Str) [(.var 0), (.var 4)]), (.var 4)]), .ifs (.cmp .notin (.var 5) (.var 2)) [.ex (.mt .append (.var 2) [(.var 5)])] []], .ret (.bi .tuple [(.bi .sortD [(.var 2)])])]
def fd__law_condition : FD := ⟨2, 6, [], b__law_condition, false, none⟩
theorem ok__law_condition : compSs ⟨N__law_condition, defScope (top 74), fun _ => true, G, true, none, mu__law_condition, false, false, none, none⟩ 60 (defBody (top 74)) = some b__law_condition := by kernel_rfl
def N__law_holds : List Str := [("_law_condition_so" : Str), ("_law_row" : Str), ("_law_word" : Str), ("_law_low" : Str), ("_law_high" : Str)]
def mu__law_holds (x : Str) : Bool := [].contains x
def b__law_holds : List CS := [.for_ .seq [(.var 0)] (.t [(.v 2), (.v 3), (.v 4)]) [.ifs (.cmp .ne (.cmp .eq (.idx (.var 1) (.var 3)) (.idx (.var 1) (.var 4))) (.cmp .eq (.var 2) (.cst (.str ("alike" : Str))))) [.ret (.cst (.bool false))] []], .ret (.cst (.bool true))]
def fd__law_holds : FD := ⟨2, 5, [], b__law_holds, false, none⟩
theorem ok__law_holds : compSs ⟨N__law_holds, defScope (top 75), fun _ => true, G, true, none, mu__law_holds, false, false, none, none⟩ 60 (defBody (top 75)) = some b__law_holds := by kernel_rfl
def N__law_bad_condition : List Str := [("_law_state" : Str), ("_law_wide" : Str), ("_law_odd" : Str)]
def mu__law_bad_condition (x : Str) : Bool := [].contains x
def b__law_bad_condition : List CS := [.asg (.v 2) (.lst [(.cst .none), (.lst []), (.tup [(.tup [(.cst (.str ("alike" : Str))), (.cst (.int 0)), (.var 1)])]), (.tup [(.tup [(.cst (.str ("alike" : Str))), (.cst (.int 1)), (.cst (.int 0))])]), (.tup [(.tup [(.cst (.str ("alike" : Str))), (.cst (.int 0)), (.cst (.int 0))])]), (.tup [(.tup [(.cst (.str ("like" : Str))), (.cst (.int 0)), (.cst (.int 1))])])]), .asg (.v 2) (.op .add (.var 2) (.lst [(.tup [(.tup [(.cst (.str ("alike" : Str))), (.cst (.int 0)), (.cst (.bool true))])]), (.tup [(.tup [(.cst (.str ("unlike" : Str))), (.cst (.int 0)), (.cst (.int 1))]), (.tup [(.cst (.str ("alike" : Str))), (.cst (.int 0)), (.cst (.int 1))])]), (.tup [(.cst .none)])])), .asg (.v 2) (.op .add (.var 2) (.lst [(.tup [(.tup [(.cst (.str ("alike" : Str))), (.cst (.int 0)), (.cst (.int 1))]), (.tup [(.cst (.str ("alike" : Str))), (.cst (.int 0)), (.cst (.int 1))])]), (.tup [(.tup [(.cst (.str ("alike" : Str))), (.cst (.int 0)), (.cst (.int 1)), (.cst (.int 2))])])])), .ret (.call ("_law_of" : Str) [(.var 0), (.op .add (.var 2) (.lst [(.tup [(.tup [(.cst (.str ("alike" : Str))), (.neg (.cst (.int 1))), (.cst (.int 1))])])]))])]
def fd__law_bad_condition : FD := ⟨2, 3, [], b__law_bad_condition, false, none⟩
theorem ok__law_bad_condition : compSs ⟨N__law_bad_condition, defScope (top 76), fun _ => true, G, true, none, mu__law_bad_condition, false, false, none, none⟩ 60 (defBody (top 76)) = some b__law_bad_condition := by kernel_rfl
def N__law_conditions_right : List Str := [("_law_state" : Str), ("_law_wide" : Str), ("_law_row" : Str), ("_law_odd" : Str), ("_law_condition_so" : Str), ("_law_bad" : Str)]
def mu__law_conditions_right (x : Str) : Bool := [].contains x
def b__law_conditions_right : List CS := [.asg (.t [(.v 4), (.v 5)]) (.tup [(.call ("_law_condition" : Str) [(.var 0), (.var 1)]), (.call ("_law_bad_condition" : Str) [(.var 0), (.var 1)])]), .for_ .seq [(.call ("_law_all" : Str) [(.var 1)])] (.v 2) [.ifs (.not (.tst (.call ("_law_like" : Str) [(.call ("holds_joined" : Str) [(.var 4), (.var 2)]), (.call ("_law_holds" : Str) [(.var 4), (.var 2)])]))) [.ret (.cst (.bool false))] []], .asg (.v 2) (.bi .tupRange [(.var 1)]), .ifs (.not (.tst (.call ("_law_like" : Str) [(.callL ("_law_caught" : Str) (.call ("holds_joined" : Str) [(.var 5), (.var 2)])), (.lst [(.cst (.str ("BadParameter" : Str))), (.var 5), (.cst (.bool false))])]))) [.ret (.cst (.bool false))] [], .asg (.v 3) (.call ("_law_of" : Str) [(.var 0), (.lst [(.cst .none), (.bi .list [(.var 2)]), (.op .add (.sl (.var 2) [] [(.neg (.cst (.int 1)))]) (.tup [(.var 1)])), (.op .add (.tup [(.cst (.int 1))]) (.sl (.var 2) [(.cst (.int 1))] [])), (.op .add (.tup [(.cst (.bool false))]) (.sl (.var 2) [(.cst (.int 1))] []))])]), .ret (.call ("_law_like" : Str) [(.callL ("_law_caught" : Str) (.call ("holds_joined" : Str) [(.var 5), (.var 3)])), (.lst [(.cst (.str ("BadJoining" : Str))), (.var 3), (.cst (.bool false))])])]
def fd__law_conditions_right : FD := ⟨2, 6, [], b__law_conditions_right, false, none⟩
theorem ok__law_conditions_right : compSs ⟨N__law_conditions_right, defScope (top 77), fun _ => true, G, true, none, mu__law_conditions_right, true, true, none, none⟩ 60 (defBody (top 77)) = some b__law_conditions_right := by kernel_rfl
def N__law_refused : List Str := [("_law_state" : Str), ("_law_program_so" : Str), ("_law_here" : Str), ("_law_bad" : Str), ("_law_odd" : Str), ("_law_wide" : Str), ("_law_row" : Str)]
def mu__law_refused (x : Str) : Bool := [].contains x
def b__law_refused : List CS := [.asg (.v 1) (.tup [(.tup []), (.tup [(.cst (.str ("send" : Str))), (.cst (.int 0)), (.cst (.int 1)), (.tup [(.cst (.str ("one" : Str))), (.tup [])])])]), .asg (.v 2) (.idx (.call ("start" : Str) [(.var 1)]) (.cst (.int 0))), .asg (.v 3) (.call ("_law_of" : Str) [(.var 0), (.lst [(.cst .none), (.tup [(.cst (.int 0))]), (.tup [(.cst (.int 0)), (.cst (.int 2))]), (.tup [(.cst (.int 1)), (.cst (.int 1))]), (.lst [(.cst (.int 0)), (.cst (.int 1))]), (.tup [(.cst (.int 0)), (.cst (.bool true))])])]), .ifs (.not (.tst (.call ("_law_like" : Str) [(.callL ("_law_caught" : Str) (.call ("joined" : Str) [(.var 1), (.var 2), (.var 3)])), (.lst [(.cst (.str ("BadJoining" : Str))), (.var 3), (.cst (.bool false))])]))) [.ret (.cst (.bool false))] [], .ifs (.not (.tst (.call ("_law_like" : Str) [(.callL ("_law_caught" : Str) (.call ("joined" : Str) [(.var 1), (.cst .none), (.var 3)])), (.lst [(.cst (.str ("BadStanding" : Str))), (.tup []), (.cst (.bool false))])]))) [.ret (.cst (.bool false))] [], .for_ .seq [(.lst [(.neg (.cst (.int 1))), (.cst .none), (.cst (.bool true)), (.cst (.str ("2" : Str)))])] (.v 4) [.ifs (.not (.tst (.call ("_law_like" : Str) [(.callL ("_law_caught" : Str) (.call ("all_joinings" : Str) [(.var 4)])), (.lst [(.cst (.str ("BadParameter" : Str))), (.var 4), (.cst (.bool false))])]))) [.ret (.cst (.bool false))] [], .ifs (.not (.tst (.call ("_law_like" : Str) [(.callL ("_law_caught" : Str) (.call ("need_joining" : Str) [(.var 4), (.cst .none)])), (.lst [(.cst (.str ("BadParameter" : Str))), (.var 4), (.cst (.bool false))])]))) [.ret (.cst (.bool false))] []], .ifs (.not (.tst (.call ("_law_like" : Str) [(.callL ("_law_caught" : Str) (.call ("need_joining" : Str) [(.cst (.int 13)), (.cst .none)])), (.lst [(.cst (.str ("BadParameter" : Str))), (.cst (.int 13)), (.cst (.bool false))])]))) [.ret (.cst (.bool false))] [], .asg (.v 5) (.op .add (.cst (.int 6)) (.call ("_law_draw" : Str) [(.var 0), (.cst (.int 9))])), .ifs (.not (.tst (.call ("_law_like" : Str) [(.callL ("_law_caught" : Str) (.call ("all_joinings" : Str) [(.var 5)])), (.lst [(.cst (.str ("TooGreat" : Str))), (.cst (.int 5)), (.cst (.bool false))])]))) [.ret (.cst (.bool false))] [], .asg (.v 6) (.bi .tupRange [(.cst (.int 12))]), .ret (.call ("_law_like" : Str) [(.call ("need_joining" : Str) [(.cst (.int 12)), (.var 6)]), (.var 6)])]
def fd__law_refused : FD := ⟨1, 7, [], b__law_refused, false, none⟩
theorem ok__law_refused : compSs ⟨N__law_refused, defScope (top 78), fun _ => true, G, true, none, mu__law_refused, true, true, none, none⟩ 60 (defBody (top 78)) = some b__law_refused := by kernel_rfl
def N_law : List Str := [("_law_script" : Str), ("_law_state" : Str), ("_law_turn" : Str), ("_law_wide" : Str), ("_law_many_so" : Str), ("_law_told" : Str)]
def mu_law (x : Str) : Bool := [].contains x
def b_law : List CS := [.asg (.v 1) (.call ("_law_begin" : Str) [(.var 0)]), .ifs (.not (.tst (.call ("_law_refused" : Str) [(.var 1)]))) [.ret (.cst (.bool false))] [], .for_ .seq [(.lst [(.tup [(.cst (.int 0)), (.cst (.int 1))]), (.tup [(.cst (.int 1)), (.cst (.int 1))]), (.tup [(.cst (.int 2)), (.cst (.int 2))]), (.tup [(.cst (.int 3)), (.cst (.int 5))]), (.tup [(.cst (.int 4)), (.cst (.int 15))]), (.tup [(.cst (.int 5)), (.cst (.int 52))])])] (.t [(.v 3), (.v 4)]) [.asg (.v 5) (.call ("all_joinings" : Str) [(.var 3)]), .ifs (.or (.not (.tst (.call ("_law_like" : Str) [(.var 5), (.bi .tuple [(.call ("_law_all" : Str) [(.var 3)])])]))) (.cmp .ne (.bi .len [(.var 5)]) (.var 4))) [.ret (.cst (.bool false))] []], .for_ .range1 [(.cst (.int 4))] (.v 2) [.ifs (.not (.tst (.call ("_law_needed_right" : Str) [(.var 1), (.op .add (.cst (.int 1)) (.call ("_law_draw" : Str) [(.var 1), (.cst (.int 6))]))]))) [.ret (.cst (.bool false))] [], .ifs (.not (.tst (.call ("_law_conditions_right" : Str) [(.var 1), (.op .add (.cst (.int 2)) (.call ("_law_draw" : Str) [(.var 1), (.cst (.int 4))]))]))) [.ret (.cst (.bool false))] []], .ret (.cst (.bool true))]
def fd_law : FD := ⟨1, 6, [], b_law, false, none⟩
theorem ok_law : compSs ⟨N_law, defScope (top 79), fun _ => true, G, true, none, mu_law, true, false, none, none⟩ 60 (defBody (top 79)) = some b_law := by kernel_rfl
def fd_BadPiece : FD := ⟨1, 1, [], [], false, some [("path" : Str)]⟩
def fd_BadProgram : FD := ⟨1, 1, [], [], false, some [("place" : Str)]⟩
def fd_BadGiven : FD := ⟨1, 1, [], [], false, some [("value" : Str)]⟩
def fd_BadStanding : FD := ⟨1, 1, [], [], false, some [("place" : Str)]⟩
def fd_BadJoining : FD := ⟨1, 1, [], [], false, some [("value" : Str)]⟩
def fd_BadParameter : FD := ⟨1, 1, [], [], false, some [("value" : Str)]⟩
def fd_TooGreat : FD := ⟨1, 1, [], [], false, some [("most" : Str)]⟩
def fl : List (Str × FD) := [(("is_from" : Str), fd_is_from), (("is_name" : Str), fd_is_name), (("are_names" : Str), fd_are_names), (("need_given" : Str), fd_need_given), (("is_branch" : Str), fd_is_branch), (("is_row_prefix" : Str), fd_is_row_prefix), (("has_shape" : Str), fd_has_shape), (("inside" : Str), fd_inside), (("fits" : Str), fd_fits), (("checked" : Str), fd_checked), (("is_head" : Str), fd_is_head), (("gone_through" : Str), fd_gone_through), (("need_program" : Str), fd_need_program), (("free_in" : Str), fd_free_in), (("listed_in" : Str), fd_listed_in), (("listed" : Str), fd_listed), (("piece_at" : Str), fd_piece_at), (("is_path" : Str), fd_is_path), (("is_active" : Str), fd_is_active), (("fresh_number" : Str), fd_fresh_number), (("with_number" : Str), fd_with_number), (("opened_part" : Str), fd_opened_part), (("settled_row" : Str), fd_settled_row), (("need_bounds" : Str), fd_need_bounds), (("started" : Str), fd_started), (("start" : Str), fd_start), (("active_part" : Str), fd_active_part), (("is_thread" : Str), fd_is_thread), (("is_natural" : Str), fd_is_natural), (("need_standing" : Str), fd_need_standing), (("is_joining" : Str), fd_is_joining), (("need_joining" : Str), fd_need_joining), (("all_joinings" : Str), fd_all_joinings), (("joined" : Str), fd_joined), (("is_condition" : Str), fd_is_condition), (("holds_joined" : Str), fd_holds_joined), (("_law_mixed" : Str), fd__law_mixed), (("_law_begin" : Str), fd__law_begin), (("_law_draw" : Str), fd__law_draw), (("_law_of" : Str), fd__law_of), (("_law_like" : Str), fd__law_like), (("_law_all" : Str), fd__law_all), (("_law_is_joining" : Str), fd__law_is_joining), (("_law_caught" : Str), fd__law_caught), (("_law_needed_right" : Str), fd__law_needed_right), (("_law_condition" : Str), fd__law_condition), (("_law_holds" : Str), fd__law_holds), (("_law_bad_condition" : Str), fd__law_bad_condition), (("_law_conditions_right" : Str), fd__law_conditions_right), (("_law_refused" : Str), fd__law_refused), (("law" : Str), fd_law), (("BadPiece" : Str), fd_BadPiece), (("BadProgram" : Str), fd_BadProgram), (("BadGiven" : Str), fd_BadGiven), (("BadStanding" : Str), fd_BadStanding), (("BadJoining" : Str), fd_BadJoining), (("BadParameter" : Str), fd_BadParameter), (("TooGreat" : Str), fd_TooGreat)]
def il : List ((Str × Str) × Bool) := [((("BadPiece" : Str), ("BadPiece" : Str)), true), ((("BadPiece" : Str), ("BadProgram" : Str)), false), ((("BadPiece" : Str), ("BadGiven" : Str)), false), ((("BadPiece" : Str), ("BadStanding" : Str)), false), ((("BadPiece" : Str), ("BadJoining" : Str)), false), ((("BadPiece" : Str), ("BadParameter" : Str)), false), ((("BadPiece" : Str), ("TooGreat" : Str)), false), ((("BadPiece" : Str), ("PassError" : Str)), true), ((("BadProgram" : Str), ("BadPiece" : Str)), false), ((("BadProgram" : Str), ("BadProgram" : Str)), true), ((("BadProgram" : Str), ("BadGiven" : Str)), false), ((("BadProgram" : Str), ("BadStanding" : Str)), false), ((("BadProgram" : Str), ("BadJoining" : Str)), false), ((("BadProgram" : Str), ("BadParameter" : Str)), false), ((("BadProgram" : Str), ("TooGreat" : Str)), false), ((("BadProgram" : Str), ("PassError" : Str)), true), ((("BadGiven" : Str), ("BadPiece" : Str)), false), ((("BadGiven" : Str), ("BadProgram" : Str)), false), ((("BadGiven" : Str), ("BadGiven" : Str)), true), ((("BadGiven" : Str), ("BadStanding" : Str)), false), ((("BadGiven" : Str), ("BadJoining" : Str)), false), ((("BadGiven" : Str), ("BadParameter" : Str)), false), ((("BadGiven" : Str), ("TooGreat" : Str)), false), ((("BadGiven" : Str), ("PassError" : Str)), true), ((("BadStanding" : Str), ("BadPiece" : Str)), false), ((("BadStanding" : Str), ("BadProgram" : Str)), false), ((("BadStanding" : Str), ("BadGiven" : Str)), false), ((("BadStanding" : Str), ("BadStanding" : Str)), true), ((("BadStanding" : Str), ("BadJoining" : Str)), false), ((("BadStanding" : Str), ("BadParameter" : Str)), false), ((("BadStanding" : Str), ("TooGreat" : Str)), false), ((("BadStanding" : Str), ("PassError" : Str)), true), ((("BadJoining" : Str), ("BadPiece" : Str)), false), ((("BadJoining" : Str), ("BadProgram" : Str)), false), ((("BadJoining" : Str), ("BadGiven" : Str)), false), ((("BadJoining" : Str), ("BadStanding" : Str)), false), ((("BadJoining" : Str), ("BadJoining" : Str)), true), ((("BadJoining" : Str), ("BadParameter" : Str)), false), ((("BadJoining" : Str), ("TooGreat" : Str)), false), ((("BadJoining" : Str), ("PassError" : Str)), true), ((("BadParameter" : Str), ("BadPiece" : Str)), false), ((("BadParameter" : Str), ("BadProgram" : Str)), false), ((("BadParameter" : Str), ("BadGiven" : Str)), false), ((("BadParameter" : Str), ("BadStanding" : Str)), false), ((("BadParameter" : Str), ("BadJoining" : Str)), false), ((("BadParameter" : Str), ("BadParameter" : Str)), true), ((("BadParameter" : Str), ("TooGreat" : Str)), false), ((("BadParameter" : Str), ("PassError" : Str)), true), ((("TooGreat" : Str), ("BadPiece" : Str)), false), ((("TooGreat" : Str), ("BadProgram" : Str)), false), ((("TooGreat" : Str), ("BadGiven" : Str)), false), ((("TooGreat" : Str), ("BadStanding" : Str)), false), ((("TooGreat" : Str), ("BadJoining" : Str)), false), ((("TooGreat" : Str), ("BadParameter" : Str)), false), ((("TooGreat" : Str), ("TooGreat" : Str)), true), ((("TooGreat" : Str), ("PassError" : Str)), true)]
def el : List (Str × Str) := [(("BadPiece" : Str), ("path" : Str)), (("BadProgram" : Str), ("place" : Str)), (("BadGiven" : Str), ("value" : Str)), (("BadStanding" : Str), ("place" : Str)), (("BadJoining" : Str), ("value" : Str)), (("BadParameter" : Str), ("value" : Str)), (("TooGreat" : Str), ("most" : Str))]
def T : Tbl := ⟨fun x => fl.lookup x, fun c d => il.lookup (c, d), fun c f => el.contains (c, f)⟩
end MN.Q

set_option maxRecDepth 100000
set_option maxHeartbeats 0
/-! the head. -/
namespace MN.Q
open PySem PySem.Spec PyProof.Rows L2
def clsSt (i j : Nat) : Stmt := match top i with
  | .ClassDef _ _ _ body _ _ _ _ _ _ _ => body.getD j (.Pass ⟨0, 0, 0, 0⟩)
  | s => s
def dd_is_from : He.DefD := ⟨("is_from", none), "is_from", "is_from", defArgs (top 12), defBody (top 12), defScope (top 12), [], []⟩
def dd_is_name : He.DefD := ⟨("is_name", none), "is_name", "is_name", defArgs (top 13), defBody (top 13), defScope (top 13), [], []⟩
def dd_are_names : He.DefD := ⟨("are_names", none), "are_names", "are_names", defArgs (top 14), defBody (top 14), defScope (top 14), [], []⟩
def dd_need_given : He.DefD := ⟨("need_given", none), "need_given", "need_given", defArgs (top 15), defBody (top 15), defScope (top 15), [], []⟩
def dd_is_branch : He.DefD := ⟨("is_branch", none), "is_branch", "is_branch", defArgs (top 27), defBody (top 27), defScope (top 27), [], []⟩
def dd_is_row_prefix : He.DefD := ⟨("is_row_prefix", none), "is_row_prefix", "is_row_prefix", defArgs (top 28), defBody (top 28), defScope (top 28), [], []⟩
def dd_has_shape : He.DefD := ⟨("has_shape", none), "has_shape", "has_shape", defArgs (top 29), defBody (top 29), defScope (top 29), [], []⟩
def dd_inside : He.DefD := ⟨("inside", none), "inside", "inside", defArgs (top 30), defBody (top 30), defScope (top 30), [], []⟩
def dd_fits : He.DefD := ⟨("fits", none), "fits", "fits", defArgs (top 31), defBody (top 31), defScope (top 31), [], []⟩
def dd_checked : He.DefD := ⟨("checked", none), "checked", "checked", defArgs (top 32), defBody (top 32), defScope (top 32), [], []⟩
def dd_is_head : He.DefD := ⟨("is_head", none), "is_head", "is_head", defArgs (top 33), defBody (top 33), defScope (top 33), [], []⟩
def dd_gone_through : He.DefD := ⟨("gone_through", none), "gone_through", "gone_through", defArgs (top 34), defBody (top 34), defScope (top 34), [.bl false], []⟩
def dd_need_program : He.DefD := ⟨("need_program", none), "need_program", "need_program", defArgs (top 35), defBody (top 35), defScope (top 35), [], []⟩
def dd_free_in : He.DefD := ⟨("free_in", none), "free_in", "free_in", defArgs (top 36), defBody (top 36), defScope (top 36), [], []⟩
def dd_listed_in : He.DefD := ⟨("listed_in", none), "listed_in", "listed_in", defArgs (top 37), defBody (top 37), defScope (top 37), [], []⟩
def dd_listed : He.DefD := ⟨("listed", none), "listed", "listed", defArgs (top 38), defBody (top 38), defScope (top 38), [], []⟩
def dd_piece_at : He.DefD := ⟨("piece_at", none), "piece_at", "piece_at", defArgs (top 39), defBody (top 39), defScope (top 39), [], []⟩
def dd_is_path : He.DefD := ⟨("is_path", none), "is_path", "is_path", defArgs (top 40), defBody (top 40), defScope (top 40), [], []⟩
def dd_is_active : He.DefD := ⟨("is_active", none), "is_active", "is_active", defArgs (top 44), defBody (top 44), defScope (top 44), [], []⟩
def dd_fresh_number : He.DefD := ⟨("fresh_number", none), "fresh_number", "fresh_number", defArgs (top 45), defBody (top 45), defScope (top 45), [], []⟩
def dd_with_number : He.DefD := ⟨("with_number", none), "with_number", "with_number", defArgs (top 46), defBody (top 46), defScope (top 46), [], []⟩
def dd_opened_part : He.DefD := ⟨("opened_part", none), "opened_part", "opened_part", defArgs (top 47), defBody (top 47), defScope (top 47), [], []⟩
def dd_settled_row : He.DefD := ⟨("settled_row", none), "settled_row", "settled_row", defArgs (top 48), defBody (top 48), defScope (top 48), [], []⟩
def dd_need_bounds : He.DefD := ⟨("need_bounds", none), "need_bounds", "need_bounds", defArgs (top 49), defBody (top 49), defScope (top 49), [], []⟩
def dd_started : He.DefD := ⟨("started", none), "started", "started", defArgs (top 50), defBody (top 50), defScope (top 50), [], []⟩
def dd_start : He.DefD := ⟨("start", none), "start", "start", defArgs (top 51), defBody (top 51), defScope (top 51), [.glo "AS_IS"], []⟩
def dd_active_part : He.DefD := ⟨("active_part", none), "active_part", "active_part", defArgs (top 52), defBody (top 52), defScope (top 52), [], []⟩
def dd_is_thread : He.DefD := ⟨("is_thread", none), "is_thread", "is_thread", defArgs (top 53), defBody (top 53), defScope (top 53), [], []⟩
def dd_is_natural : He.DefD := ⟨("is_natural", none), "is_natural", "is_natural", defArgs (top 54), defBody (top 54), defScope (top 54), [], []⟩
def dd_need_standing : He.DefD := ⟨("need_standing", none), "need_standing", "need_standing", defArgs (top 55), defBody (top 55), defScope (top 55), [], []⟩
def dd_is_joining : He.DefD := ⟨("is_joining", none), "is_joining", "is_joining", defArgs (top 58), defBody (top 58), defScope (top 58), [], []⟩
def dd_need_joining : He.DefD := ⟨("need_joining", none), "need_joining", "need_joining", defArgs (top 59), defBody (top 59), defScope (top 59), [], []⟩
def dd_all_joinings : He.DefD := ⟨("all_joinings", none), "all_joinings", "all_joinings", defArgs (top 60), defBody (top 60), defScope (top 60), [], []⟩
def dd_joined : He.DefD := ⟨("joined", none), "joined", "joined", defArgs (top 61), defBody (top 61), defScope (top 61), [], []⟩
def dd_is_condition : He.DefD := ⟨("is_condition", none), "is_condition", "is_condition", defArgs (top 62), defBody (top 62), defScope (top 62), [], []⟩
def dd_holds_joined : He.DefD := ⟨("holds_joined", none), "holds_joined", "holds_joined", defArgs (top 63), defBody (top 63), defScope (top 63), [], []⟩
def dd__law_mixed : He.DefD := ⟨("_law_mixed", none), "_law_mixed", "_law_mixed", defArgs (top 65), defBody (top 65), defScope (top 65), [], []⟩
def dd__law_begin : He.DefD := ⟨("_law_begin", none), "_law_begin", "_law_begin", defArgs (top 66), defBody (top 66), defScope (top 66), [], []⟩
def dd__law_draw : He.DefD := ⟨("_law_draw", none), "_law_draw", "_law_draw", defArgs (top 67), defBody (top 67), defScope (top 67), [], []⟩
def dd__law_of : He.DefD := ⟨("_law_of", none), "_law_of", "_law_of", defArgs (top 68), defBody (top 68), defScope (top 68), [], []⟩
def dd__law_like : He.DefD := ⟨("_law_like", none), "_law_like", "_law_like", defArgs (top 69), defBody (top 69), defScope (top 69), [], []⟩
def dd__law_all : He.DefD := ⟨("_law_all", none), "_law_all", "_law_all", defArgs (top 70), defBody (top 70), defScope (top 70), [], []⟩
def dd__law_is_joining : He.DefD := ⟨("_law_is_joining", none), "_law_is_joining", "_law_is_joining", defArgs (top 71), defBody (top 71), defScope (top 71), [], []⟩
def dd__law_caught : He.DefD := ⟨("_law_caught", none), "_law_caught", "_law_caught", defArgs (top 72), defBody (top 72), defScope (top 72), [], []⟩
def dd__law_needed_right : He.DefD := ⟨("_law_needed_right", none), "_law_needed_right", "_law_needed_right", defArgs (top 73), defBody (top 73), defScope (top 73), [], []⟩
def dd__law_condition : He.DefD := ⟨("_law_condition", none), "_law_condition", "_law_condition", defArgs (top 74), defBody (top 74), defScope (top 74), [], []⟩
def dd__law_holds : He.DefD := ⟨("_law_holds", none), "_law_holds", "_law_holds", defArgs (top 75), defBody (top 75), defScope (top 75), [], []⟩
def dd__law_bad_condition : He.DefD := ⟨("_law_bad_condition", none), "_law_bad_condition", "_law_bad_condition", defArgs (top 76), defBody (top 76), defScope (top 76), [], []⟩
def dd__law_conditions_right : He.DefD := ⟨("_law_conditions_right", none), "_law_conditions_right", "_law_conditions_right", defArgs (top 77), defBody (top 77), defScope (top 77), [], []⟩
def dd__law_refused : He.DefD := ⟨("_law_refused", none), "_law_refused", "_law_refused", defArgs (top 78), defBody (top 78), defScope (top 78), [], []⟩
def dd_law : He.DefD := ⟨("law", none), "law", "law", defArgs (top 79), defBody (top 79), defScope (top 79), [], []⟩
def dd_BadPiece : He.DefD := ⟨("BadPiece", some "__init__"), "__init__", "BadPiece.__init__", defArgs (clsSt 2 0), defBody (clsSt 2 0), defScope (clsSt 2 0), [], []⟩
def dd_BadProgram : He.DefD := ⟨("BadProgram", some "__init__"), "__init__", "BadProgram.__init__", defArgs (clsSt 3 0), defBody (clsSt 3 0), defScope (clsSt 3 0), [], []⟩
def dd_BadGiven : He.DefD := ⟨("BadGiven", some "__init__"), "__init__", "BadGiven.__init__", defArgs (clsSt 4 0), defBody (clsSt 4 0), defScope (clsSt 4 0), [], []⟩
def dd_BadStanding : He.DefD := ⟨("BadStanding", some "__init__"), "__init__", "BadStanding.__init__", defArgs (clsSt 5 0), defBody (clsSt 5 0), defScope (clsSt 5 0), [], []⟩
def dd_BadJoining : He.DefD := ⟨("BadJoining", some "__init__"), "__init__", "BadJoining.__init__", defArgs (clsSt 6 0), defBody (clsSt 6 0), defScope (clsSt 6 0), [], []⟩
def dd_BadParameter : He.DefD := ⟨("BadParameter", some "__init__"), "__init__", "BadParameter.__init__", defArgs (clsSt 7 0), defBody (clsSt 7 0), defScope (clsSt 7 0), [], []⟩
def dd_TooGreat : He.DefD := ⟨("TooGreat", some "__init__"), "__init__", "TooGreat.__init__", defArgs (clsSt 8 0), defBody (clsSt 8 0), defScope (clsSt 8 0), [], []⟩
def dl : List He.DefD := [dd_is_from, dd_is_name, dd_are_names, dd_need_given, dd_is_branch, dd_is_row_prefix, dd_has_shape, dd_inside, dd_fits, dd_checked, dd_is_head, dd_gone_through, dd_need_program, dd_free_in, dd_listed_in, dd_listed, dd_piece_at, dd_is_path, dd_is_active, dd_fresh_number, dd_with_number, dd_opened_part, dd_settled_row, dd_need_bounds, dd_started, dd_start, dd_active_part, dd_is_thread, dd_is_natural, dd_need_standing, dd_is_joining, dd_need_joining, dd_all_joinings, dd_joined, dd_is_condition, dd_holds_joined, dd__law_mixed, dd__law_begin, dd__law_draw, dd__law_of, dd__law_like, dd__law_all, dd__law_is_joining, dd__law_caught, dd__law_needed_right, dd__law_condition, dd__law_holds, dd__law_bad_condition, dd__law_conditions_right, dd__law_refused, dd_law, dd_BadPiece, dd_BadProgram, dd_BadGiven, dd_BadStanding, dd_BadJoining, dd_BadParameter, dd_TooGreat]
def fa : List He.Fa := [.glo "is_from", .glo "is_name", .glo "are_names", .glo "need_given", .glo "is_branch", .glo "is_row_prefix", .glo "has_shape", .glo "inside", .glo "fits", .glo "checked", .glo "is_head", .glo "gone_through", .glo "need_program", .glo "free_in", .glo "listed_in", .glo "listed", .glo "piece_at", .glo "is_path", .glo "is_active", .glo "fresh_number", .glo "with_number", .glo "opened_part", .glo "settled_row", .glo "need_bounds", .glo "started", .glo "start", .glo "active_part", .glo "is_thread", .glo "is_natural", .glo "need_standing", .glo "is_joining", .glo "need_joining", .glo "all_joinings", .glo "joined", .glo "is_condition", .glo "holds_joined", .glo "_law_mixed", .glo "_law_begin", .glo "_law_draw", .glo "_law_of", .glo "_law_like", .glo "_law_all", .glo "_law_is_joining", .glo "_law_caught", .glo "_law_needed_right", .glo "_law_condition", .glo "_law_holds", .glo "_law_bad_condition", .glo "_law_conditions_right", .glo "_law_refused", .glo "law", .glo "PassError", .free "ValueError", .free "dict", .free "enumerate", .free "tuple", .free "sorted", .free "range", .free "isinstance", .free "int", .free "len", .free "zip", .free "set", .free "list", .free "repr", .free "bool", .free "str", .free "min"]
def cl : List (Str × PyData) := [(("NAMES" : Str), (.int 10)), (("AS_IS" : Str), (.tuple [(.int 0), (.int 1), (.int 2), (.int 3), (.int 4), (.int 5), (.int 6), (.int 7), (.int 8), (.int 9)])), (("MOST_DEEP" : Str), (.int 12)), (("MOST_PARTS" : Str), (.int 80)), (("MOST_BESIDE" : Str), (.int 4)), (("MOST_BRANCHES" : Str), (.int 20)), (("MOST_DEFINITIONS" : Str), (.int 4)), (("MOST_PARAMS" : Str), (.int 4)), (("MOST_ROW" : Str), (.int 3)), (("PREFIXES" : Str), (.tuple [(.str ("send" : Str)), (.str ("take" : Str)), (.str ("wait" : Str)), (.str ("sends" : Str)), (.str ("takes" : Str))])), (("TESTS" : Str), (.tuple [(.str ("alike" : Str)), (.str ("unlike" : Str))])), (("FOURS" : Str), (.tuple [(.str ("send" : Str)), (.str ("take" : Str)), (.str ("alike" : Str)), (.str ("unlike" : Str)), (.str ("sends" : Str)), (.str ("takes" : Str))])), (("MOST_THREADS" : Str), (.int 8)), (("MOST_NAMES" : Str), (.int 12)), (("MOST_LISTED" : Str), (.int 5))]
def tvl : List (Str × List PyData) := []
def ts : List He.Tab := []
def icl : List (Str × Str × Bool) := [(("BadPiece" : Str), ("BadPiece" : Str), true), (("BadPiece" : Str), ("BadProgram" : Str), false), (("BadPiece" : Str), ("BadGiven" : Str), false), (("BadPiece" : Str), ("BadStanding" : Str), false), (("BadPiece" : Str), ("BadJoining" : Str), false), (("BadPiece" : Str), ("BadParameter" : Str), false), (("BadPiece" : Str), ("TooGreat" : Str), false), (("BadPiece" : Str), ("PassError" : Str), true), (("BadProgram" : Str), ("BadPiece" : Str), false), (("BadProgram" : Str), ("BadProgram" : Str), true), (("BadProgram" : Str), ("BadGiven" : Str), false), (("BadProgram" : Str), ("BadStanding" : Str), false), (("BadProgram" : Str), ("BadJoining" : Str), false), (("BadProgram" : Str), ("BadParameter" : Str), false), (("BadProgram" : Str), ("TooGreat" : Str), false), (("BadProgram" : Str), ("PassError" : Str), true), (("BadGiven" : Str), ("BadPiece" : Str), false), (("BadGiven" : Str), ("BadProgram" : Str), false), (("BadGiven" : Str), ("BadGiven" : Str), true), (("BadGiven" : Str), ("BadStanding" : Str), false), (("BadGiven" : Str), ("BadJoining" : Str), false), (("BadGiven" : Str), ("BadParameter" : Str), false), (("BadGiven" : Str), ("TooGreat" : Str), false), (("BadGiven" : Str), ("PassError" : Str), true), (("BadStanding" : Str), ("BadPiece" : Str), false), (("BadStanding" : Str), ("BadProgram" : Str), false), (("BadStanding" : Str), ("BadGiven" : Str), false), (("BadStanding" : Str), ("BadStanding" : Str), true), (("BadStanding" : Str), ("BadJoining" : Str), false), (("BadStanding" : Str), ("BadParameter" : Str), false), (("BadStanding" : Str), ("TooGreat" : Str), false), (("BadStanding" : Str), ("PassError" : Str), true), (("BadJoining" : Str), ("BadPiece" : Str), false), (("BadJoining" : Str), ("BadProgram" : Str), false), (("BadJoining" : Str), ("BadGiven" : Str), false), (("BadJoining" : Str), ("BadStanding" : Str), false), (("BadJoining" : Str), ("BadJoining" : Str), true), (("BadJoining" : Str), ("BadParameter" : Str), false), (("BadJoining" : Str), ("TooGreat" : Str), false), (("BadJoining" : Str), ("PassError" : Str), true), (("BadParameter" : Str), ("BadPiece" : Str), false), (("BadParameter" : Str), ("BadProgram" : Str), false), (("BadParameter" : Str), ("BadGiven" : Str), false), (("BadParameter" : Str), ("BadStanding" : Str), false), (("BadParameter" : Str), ("BadJoining" : Str), false), (("BadParameter" : Str), ("BadParameter" : Str), true), (("BadParameter" : Str), ("TooGreat" : Str), false), (("BadParameter" : Str), ("PassError" : Str), true), (("TooGreat" : Str), ("BadPiece" : Str), false), (("TooGreat" : Str), ("BadProgram" : Str), false), (("TooGreat" : Str), ("BadGiven" : Str), false), (("TooGreat" : Str), ("BadStanding" : Str), false), (("TooGreat" : Str), ("BadJoining" : Str), false), (("TooGreat" : Str), ("BadParameter" : Str), false), (("TooGreat" : Str), ("TooGreat" : Str), true), (("TooGreat" : Str), ("PassError" : Str), true)]
def mkd : List He.DefD := [dd__law_needed_right, dd__law_conditions_right, dd__law_refused]
def xl : List (Str × Str) := [(("BadPiece" : Str), ("path" : Str)), (("BadProgram" : Str), ("place" : Str)), (("BadGiven" : Str), ("value" : Str)), (("BadStanding" : Str), ("place" : Str)), (("BadJoining" : Str), ("value" : Str)), (("BadParameter" : Str), ("value" : Str)), (("TooGreat" : Str), ("most" : Str))]
def chk (K : PySem.W.Frag) : Bool := (fa.all fun f => f.ok K) && ((cl.all fun p => conB K p.1 p.2) && ((tvl.all fun p => tvB K (He.ga K p.1) p.2) && ((xl.all fun p => excB K p.1 p.2) && (noList K && baseB K (He.ga K "PassError") && icl.all fun p => isCB K (He.ga K p.1) (He.ga K p.2.1) p.2.2))))
abbrev R : PySem.W.OpenRow := PySem.W.OpenLaw.row PySem.Challenge.rw_passednames_k12_joinings_and_conditions
abbrev hk : PySem.W.Hook := hookL 5 [cStatics] chk dl ts mkd
def ob (s : PySem.W.SharedT) : AlM := obsLG 5 [cStatics] chk dl ts mkd (HandSHeadRun.getT s)
theorem ob_eq (s : PySem.W.SharedT) : ob s = hk.obs s.abs := obsLG_eq (HandSHeadRun.getT_eq s)
def loose : List Str := [("is_from" : Str), ("is_name" : Str), ("are_names" : Str), ("need_given" : Str), ("is_branch" : Str), ("is_row_prefix" : Str), ("has_shape" : Str), ("inside" : Str), ("fits" : Str), ("checked" : Str), ("is_head" : Str), ("gone_through" : Str), ("need_program" : Str), ("free_in" : Str), ("listed_in" : Str), ("listed" : Str), ("piece_at" : Str), ("is_path" : Str), ("is_active" : Str), ("fresh_number" : Str), ("with_number" : Str), ("opened_part" : Str), ("settled_row" : Str), ("need_bounds" : Str), ("started" : Str), ("start" : Str), ("active_part" : Str), ("is_thread" : Str), ("is_natural" : Str), ("need_standing" : Str), ("is_joining" : Str), ("need_joining" : Str), ("all_joinings" : Str), ("joined" : Str), ("is_condition" : Str), ("holds_joined" : Str), ("_law_mixed" : Str), ("_law_begin" : Str), ("_law_draw" : Str), ("_law_of" : Str), ("_law_like" : Str), ("_law_all" : Str), ("_law_is_joining" : Str), ("_law_caught" : Str), ("_law_needed_right" : Str), ("_law_condition" : Str), ("_law_holds" : Str), ("_law_bad_condition" : Str), ("_law_conditions_right" : Str), ("_law_refused" : Str), ("BadPiece" : Str), ("BadProgram" : Str), ("BadGiven" : Str), ("BadStanding" : Str), ("BadJoining" : Str), ("BadParameter" : Str), ("TooGreat" : Str), ("PassError" : Str), ("NAMES" : Str), ("AS_IS" : Str), ("MOST_DEEP" : Str), ("MOST_PARTS" : Str), ("MOST_BESIDE" : Str), ("MOST_BRANCHES" : Str), ("MOST_DEFINITIONS" : Str), ("MOST_PARAMS" : Str), ("MOST_ROW" : Str), ("PREFIXES" : Str), ("TESTS" : Str), ("FOURS" : Str), ("MOST_THREADS" : Str), ("MOST_NAMES" : Str), ("MOST_LISTED" : Str)]
theorem run_f (w : World) : HandSHeadRun.RunEq R (PySem.W.view R.prog [79]) hk ob 4000 loose (w.withFollow "special-get-raises" false) := fun os => by kernel_rfl
theorem run_t (w : World) : HandSHeadRun.RunEq R (PySem.W.view R.prog [79]) hk ob 4000 loose (w.withFollow "special-get-raises" true) := fun os => by kernel_rfl
end MN.Q

set_option maxRecDepth 100000
set_option maxHeartbeats 0
/-! the head. -/
namespace MN.Q
open PySem PySem.Spec PyProof.Rows L2
theorem run (w : World) : HandSHeadRun.RunEq R (PySem.W.view R.prog [79]) hk ob 4000 loose w := PySem.W.byRow2 "special-get-raises" (P := fun w => HandSHeadRun.RunEq R (PySem.W.view R.prog [79]) hk ob 4000 loose w) run_f run_t w
end MN.Q

set_option maxRecDepth 100000
set_option maxHeartbeats 0
/-! the head. -/
namespace MN.Q
open PySem PySem.Spec PyProof.Rows L2
section
variable {w : World} {K : PySem.W.Frag}
theorem fact (c : chk K = true) (i : Nat) {f : He.Fa} (h : fa[i]? = some f) : f.ok K = true := List.all_eq_true.mp (Bool.and_eq_true_iff.mp c).1 f (List.mem_of_getElem? h)
theorem chk2 (c : chk K = true) : (∀ p ∈ cl, conB K p.1 p.2 = true) ∧ (∀ p ∈ tvl, tvB K (He.ga K p.1) p.2 = true) ∧ (∀ p ∈ xl, excB K p.1 p.2 = true) ∧ noList K = true ∧ baseB K (He.ga K "PassError") = true ∧ ∀ p ∈ icl, isCB K (He.ga K p.1) (He.ga K p.2.1) p.2.2 = true := by
  obtain ⟨_, h⟩ := Bool.and_eq_true_iff.mp c
  obtain ⟨h1, h⟩ := Bool.and_eq_true_iff.mp h
  obtain ⟨h2, h⟩ := Bool.and_eq_true_iff.mp h
  obtain ⟨h3, h⟩ := Bool.and_eq_true_iff.mp h
  obtain ⟨h4, h6⟩ := Bool.and_eq_true_iff.mp h
  obtain ⟨h4, h5⟩ := Bool.and_eq_true_iff.mp h4
  exact ⟨List.all_eq_true.mp h1, List.all_eq_true.mp h2, List.all_eq_true.mp h3, h4, h5, List.all_eq_true.mp h6⟩
variable {h h0 base : Heap} {mg : Str → Option Value}
theorem sc_is_from : FnScope N_is_from [("value" : Str), ("least" : Str), ("most" : Str)] (defScope (top 12)) := ⟨by kernel_rfl, by kernel_rfl, by kernel_rfl, by decide +kernel, by kernel_rfl, by decide +kernel, by decide +kernel⟩
theorem fs_is_from (X : K.In base) (G0 : base.Ns mainGlobals mg) (S : SaysL chk dl ts mkd w h0 K) (tabs : ∀ p ∈ tabsOf K mkd, LamX.TabB base mg p.1 p.2) : FnS T G K mg base (tbOf K mkd) "is_from" 3 0 false := by
  obtain ⟨fd, F⟩ := saysM_def S.says 0 (d := dd_is_from) rfl
  have b : Binds K fd [("value" : Str), ("least" : Str), ("most" : Str)] [] := F.bindsN fun _ _ _ _ _ _ us hl => match us, hl with | [_, _, _], _ => rfl
  exact ⟨fd_is_from, _, fd, [("value" : Str), ("least" : Str), ("most" : Str)], N_is_from, mu_is_from, false, 60, _, _, _, _, _, _, _, rfl, rfl, rfl, rfl, He.glo_ok X G0 (fact (saysM_chk S.says) 0 rfl), F.kp, rfl, rfl, fun j h1 h2 => ⟨[], [], b, .nil, fun β H => by
    rw [show (fd_is_from).dfl = [] from rfl, List.drop_nil]
    exact .nil⟩, F, sc_is_from, (fun z => by cases z), ok_is_from⟩
theorem sc_is_name : FnScope N_is_name [("value" : Str)] (defScope (top 13)) := ⟨by kernel_rfl, by kernel_rfl, by kernel_rfl, by decide +kernel, by kernel_rfl, by decide +kernel, by decide +kernel⟩
theorem fs_is_name (X : K.In base) (G0 : base.Ns mainGlobals mg) (S : SaysL chk dl ts mkd w h0 K) (tabs : ∀ p ∈ tabsOf K mkd, LamX.TabB base mg p.1 p.2) : FnS T G K mg base (tbOf K mkd) "is_name" 1 0 false := by
  obtain ⟨fd, F⟩ := saysM_def S.says 1 (d := dd_is_name) rfl
  have b : Binds K fd [("value" : Str)] [] := F.bindsN fun _ _ _ _ _ _ us hl => match us, hl with | [_], _ => rfl
  exact ⟨fd_is_name, _, fd, [("value" : Str)], N_is_name, mu_is_name, false, 60, _, _, _, _, _, _, _, rfl, rfl, rfl, rfl, He.glo_ok X G0 (fact (saysM_chk S.says) 1 rfl), F.kp, rfl, rfl, fun j h1 h2 => ⟨[], [], b, .nil, fun β H => by
    rw [show (fd_is_name).dfl = [] from rfl, List.drop_nil]
    exact .nil⟩, F, sc_is_name, (fun z => by cases z), ok_is_name⟩
theorem sc_are_names : FnScope N_are_names [("value" : Str), ("most" : Str)] (defScope (top 14)) := ⟨by kernel_rfl, by kernel_rfl, by kernel_rfl, by decide +kernel, by kernel_rfl, by decide +kernel, by decide +kernel⟩
theorem fs_are_names (X : K.In base) (G0 : base.Ns mainGlobals mg) (S : SaysL chk dl ts mkd w h0 K) (tabs : ∀ p ∈ tabsOf K mkd, LamX.TabB base mg p.1 p.2) : FnS T G K mg base (tbOf K mkd) "are_names" 2 0 false := by
  obtain ⟨fd, F⟩ := saysM_def S.says 2 (d := dd_are_names) rfl
  have b : Binds K fd [("value" : Str), ("most" : Str)] [] := F.bindsN fun _ _ _ _ _ _ us hl => match us, hl with | [_, _], _ => rfl
  exact ⟨fd_are_names, _, fd, [("value" : Str), ("most" : Str)], N_are_names, mu_are_names, false, 60, _, _, _, _, _, _, _, rfl, rfl, rfl, rfl, He.glo_ok X G0 (fact (saysM_chk S.says) 2 rfl), F.kp, rfl, rfl, fun j h1 h2 => ⟨[], [], b, .nil, fun β H => by
    rw [show (fd_are_names).dfl = [] from rfl, List.drop_nil]
    exact .nil⟩, F, sc_are_names, (fun z => by cases z), ok_are_names⟩
theorem sc_need_given : FnScope N_need_given [("value" : Str)] (defScope (top 15)) := ⟨by kernel_rfl, by kernel_rfl, by kernel_rfl, by decide +kernel, by kernel_rfl, by decide +kernel, by decide +kernel⟩
theorem fs_need_given (X : K.In base) (G0 : base.Ns mainGlobals mg) (S : SaysL chk dl ts mkd w h0 K) (tabs : ∀ p ∈ tabsOf K mkd, LamX.TabB base mg p.1 p.2) : FnS T G K mg base (tbOf K mkd) "need_given" 1 0 false := by
  obtain ⟨fd, F⟩ := saysM_def S.says 3 (d := dd_need_given) rfl
  have b : Binds K fd [("value" : Str)] [] := F.bindsN fun _ _ _ _ _ _ us hl => match us, hl with | [_], _ => rfl
  exact ⟨fd_need_given, _, fd, [("value" : Str)], N_need_given, mu_need_given, false, 60, _, _, _, _, _, _, _, rfl, rfl, rfl, rfl, He.glo_ok X G0 (fact (saysM_chk S.says) 3 rfl), F.kp, rfl, rfl, fun j h1 h2 => ⟨[], [], b, .nil, fun β H => by
    rw [show (fd_need_given).dfl = [] from rfl, List.drop_nil]
    exact .nil⟩, F, sc_need_given, (fun z => by cases z), ok_need_given⟩
theorem sc_is_branch : FnScope N_is_branch [("piece" : Str)] (defScope (top 27)) := ⟨by kernel_rfl, by kernel_rfl, by kernel_rfl, by decide +kernel, by kernel_rfl, by decide +kernel, by decide +kernel⟩
theorem fs_is_branch (X : K.In base) (G0 : base.Ns mainGlobals mg) (S : SaysL chk dl ts mkd w h0 K) (tabs : ∀ p ∈ tabsOf K mkd, LamX.TabB base mg p.1 p.2) : FnS T G K mg base (tbOf K mkd) "is_branch" 1 0 false := by
  obtain ⟨fd, F⟩ := saysM_def S.says 4 (d := dd_is_branch) rfl
  have b : Binds K fd [("piece" : Str)] [] := F.bindsN fun _ _ _ _ _ _ us hl => match us, hl with | [_], _ => rfl
  exact ⟨fd_is_branch, _, fd, [("piece" : Str)], N_is_branch, mu_is_branch, false, 60, _, _, _, _, _, _, _, rfl, rfl, rfl, rfl, He.glo_ok X G0 (fact (saysM_chk S.says) 4 rfl), F.kp, rfl, rfl, fun j h1 h2 => ⟨[], [], b, .nil, fun β H => by
    rw [show (fd_is_branch).dfl = [] from rfl, List.drop_nil]
    exact .nil⟩, F, sc_is_branch, (fun z => by cases z), ok_is_branch⟩
theorem sc_is_row_prefix : FnScope N_is_row_prefix [("value" : Str)] (defScope (top 28)) := ⟨by kernel_rfl, by kernel_rfl, by kernel_rfl, by decide +kernel, by kernel_rfl, by decide +kernel, by decide +kernel⟩
theorem fs_is_row_prefix (X : K.In base) (G0 : base.Ns mainGlobals mg) (S : SaysL chk dl ts mkd w h0 K) (tabs : ∀ p ∈ tabsOf K mkd, LamX.TabB base mg p.1 p.2) : FnS T G K mg base (tbOf K mkd) "is_row_prefix" 1 0 false := by
  obtain ⟨fd, F⟩ := saysM_def S.says 5 (d := dd_is_row_prefix) rfl
  have b : Binds K fd [("value" : Str)] [] := F.bindsN fun _ _ _ _ _ _ us hl => match us, hl with | [_], _ => rfl
  exact ⟨fd_is_row_prefix, _, fd, [("value" : Str)], N_is_row_prefix, mu_is_row_prefix, false, 60, _, _, _, _, _, _, _, rfl, rfl, rfl, rfl, He.glo_ok X G0 (fact (saysM_chk S.says) 5 rfl), F.kp, rfl, rfl, fun j h1 h2 => ⟨[], [], b, .nil, fun β H => by
    rw [show (fd_is_row_prefix).dfl = [] from rfl, List.drop_nil]
    exact .nil⟩, F, sc_is_row_prefix, (fun z => by cases z), ok_is_row_prefix⟩
theorem sc_has_shape : FnScope N_has_shape [("value" : Str), ("widths" : Str), ("rows" : Str)] (defScope (top 29)) := ⟨by kernel_rfl, by kernel_rfl, by kernel_rfl, by decide +kernel, by kernel_rfl, by decide +kernel, by decide +kernel⟩
theorem fs_has_shape (X : K.In base) (G0 : base.Ns mainGlobals mg) (S : SaysL chk dl ts mkd w h0 K) (tabs : ∀ p ∈ tabsOf K mkd, LamX.TabB base mg p.1 p.2) : FnS T G K mg base (tbOf K mkd) "has_shape" 3 0 false := by
  obtain ⟨fd, F⟩ := saysM_def S.says 6 (d := dd_has_shape) rfl
  have b : Binds K fd [("value" : Str), ("widths" : Str), ("rows" : Str)] [] := F.bindsN fun _ _ _ _ _ _ us hl => match us, hl with | [_, _, _], _ => rfl
  exact ⟨fd_has_shape, _, fd, [("value" : Str), ("widths" : Str), ("rows" : Str)], N_has_shape, mu_has_shape, false, 60, _, _, _, _, _, _, _, rfl, rfl, rfl, rfl, He.glo_ok X G0 (fact (saysM_chk S.says) 6 rfl), F.kp, rfl, rfl, fun j h1 h2 => ⟨[], [], b, .nil, fun β H => by
    rw [show (fd_has_shape).dfl = [] from rfl, List.drop_nil]
    exact .nil⟩, F, sc_has_shape, (fun z => by cases z), ok_has_shape⟩
theorem sc_inside : FnScope N_inside [("piece" : Str)] (defScope (top 30)) := ⟨by kernel_rfl, by kernel_rfl, by kernel_rfl, by decide +kernel, by kernel_rfl, by decide +kernel, by decide +kernel⟩
theorem fs_inside (X : K.In base) (G0 : base.Ns mainGlobals mg) (S : SaysL chk dl ts mkd w h0 K) (tabs : ∀ p ∈ tabsOf K mkd, LamX.TabB base mg p.1 p.2) : FnS T G K mg base (tbOf K mkd) "inside" 1 0 false := by
  obtain ⟨fd, F⟩ := saysM_def S.says 7 (d := dd_inside) rfl
  have b : Binds K fd [("piece" : Str)] [] := F.bindsN fun _ _ _ _ _ _ us hl => match us, hl with | [_], _ => rfl
  exact ⟨fd_inside, _, fd, [("piece" : Str)], N_inside, mu_inside, false, 60, _, _, _, _, _, _, _, rfl, rfl, rfl, rfl, He.glo_ok X G0 (fact (saysM_chk S.says) 7 rfl), F.kp, rfl, rfl, fun j h1 h2 => ⟨[], [], b, .nil, fun β H => by
    rw [show (fd_inside).dfl = [] from rfl, List.drop_nil]
    exact .nil⟩, F, sc_inside, (fun z => by cases z), ok_inside⟩
theorem sc_fits : FnScope N_fits [("value" : Str), ("rules" : Str)] (defScope (top 31)) := ⟨by kernel_rfl, by kernel_rfl, by kernel_rfl, by decide +kernel, by kernel_rfl, by decide +kernel, by decide +kernel⟩
theorem fs_fits (X : K.In base) (G0 : base.Ns mainGlobals mg) (S : SaysL chk dl ts mkd w h0 K) (tabs : ∀ p ∈ tabsOf K mkd, LamX.TabB base mg p.1 p.2) : FnS T G K mg base (tbOf K mkd) "fits" 2 0 false := by
  obtain ⟨fd, F⟩ := saysM_def S.says 8 (d := dd_fits) rfl
  have b : Binds K fd [("value" : Str), ("rules" : Str)] [] := F.bindsN fun _ _ _ _ _ _ us hl => match us, hl with | [_, _], _ => rfl
  exact ⟨fd_fits, _, fd, [("value" : Str), ("rules" : Str)], N_fits, mu_fits, false, 60, _, _, _, _, _, _, _, rfl, rfl, rfl, rfl, He.glo_ok X G0 (fact (saysM_chk S.says) 8 rfl), F.kp, rfl, rfl, fun j h1 h2 => ⟨[], [], b, .nil, fun β H => by
    rw [show (fd_fits).dfl = [] from rfl, List.drop_nil]
    exact .nil⟩, F, sc_fits, (fun z => by cases z), ok_fits⟩
theorem sc_checked : FnScope N_checked [("value" : Str), ("path" : Str), ("deep" : Str), ("met" : Str), ("rules" : Str)] (defScope (top 32)) := ⟨by kernel_rfl, by kernel_rfl, by kernel_rfl, by decide +kernel, by kernel_rfl, by decide +kernel, by decide +kernel⟩
theorem fs_checked (X : K.In base) (G0 : base.Ns mainGlobals mg) (S : SaysL chk dl ts mkd w h0 K) (tabs : ∀ p ∈ tabsOf K mkd, LamX.TabB base mg p.1 p.2) : FnS T G K mg base (tbOf K mkd) "checked" 5 0 false := by
  obtain ⟨fd, F⟩ := saysM_def S.says 9 (d := dd_checked) rfl
  have b : Binds K fd [("value" : Str), ("path" : Str), ("deep" : Str), ("met" : Str), ("rules" : Str)] [] := F.bindsN fun _ _ _ _ _ _ us hl => match us, hl with | [_, _, _, _, _], _ => rfl
  exact ⟨fd_checked, _, fd, [("value" : Str), ("path" : Str), ("deep" : Str), ("met" : Str), ("rules" : Str)], N_checked, mu_checked, false, 60, _, _, _, _, _, _, _, rfl, rfl, rfl, rfl, He.glo_ok X G0 (fact (saysM_chk S.says) 9 rfl), F.kp, rfl, rfl, fun j h1 h2 => ⟨[], [], b, .nil, fun β H => by
    rw [show (fd_checked).dfl = [] from rfl, List.drop_nil]
    exact .nil⟩, F, sc_checked, (fun z => by cases z), ok_checked⟩
theorem sc_is_head : FnScope N_is_head [("value" : Str)] (defScope (top 33)) := ⟨by kernel_rfl, by kernel_rfl, by kernel_rfl, by decide +kernel, by kernel_rfl, by decide +kernel, by decide +kernel⟩
theorem fs_is_head (X : K.In base) (G0 : base.Ns mainGlobals mg) (S : SaysL chk dl ts mkd w h0 K) (tabs : ∀ p ∈ tabsOf K mkd, LamX.TabB base mg p.1 p.2) : FnS T G K mg base (tbOf K mkd) "is_head" 1 0 false := by
  obtain ⟨fd, F⟩ := saysM_def S.says 10 (d := dd_is_head) rfl
  have b : Binds K fd [("value" : Str)] [] := F.bindsN fun _ _ _ _ _ _ us hl => match us, hl with | [_], _ => rfl
  exact ⟨fd_is_head, _, fd, [("value" : Str)], N_is_head, mu_is_head, false, 60, _, _, _, _, _, _, _, rfl, rfl, rfl, rfl, He.glo_ok X G0 (fact (saysM_chk S.says) 10 rfl), F.kp, rfl, rfl, fun j h1 h2 => ⟨[], [], b, .nil, fun β H => by
    rw [show (fd_is_head).dfl = [] from rfl, List.drop_nil]
    exact .nil⟩, F, sc_is_head, (fun z => by cases z), ok_is_head⟩
theorem sc_gone_through : FnScope N_gone_through [("value" : Str), ("hole" : Str), ("rows" : Str)] (defScope (top 34)) := ⟨by kernel_rfl, by kernel_rfl, by kernel_rfl, by decide +kernel, by kernel_rfl, by decide +kernel, by decide +kernel⟩
theorem fs_gone_through (X : K.In base) (G0 : base.Ns mainGlobals mg) (S : SaysL chk dl ts mkd w h0 K) (tabs : ∀ p ∈ tabsOf K mkd, LamX.TabB base mg p.1 p.2) : FnS T G K mg base (tbOf K mkd) "gone_through" 3 1 false := by
  obtain ⟨fd, F⟩ := saysM_def S.says 11 (d := dd_gone_through) rfl
  have B : ∀ j, j ≤ (fd_gone_through).np → (fd_gone_through).np ≤ j + (fd_gone_through).dfl.length → ∃ ds dvs, Binds K fd [("value" : Str), ("hole" : Str), ("rows" : Str)] ds ∧ Vals dvs ds ∧ ∀ β H, DPs K β H ((fd_gone_through).dfl.drop (j + (fd_gone_through).dfl.length - (fd_gone_through).np)) dvs := fun j h1 h2 => by
    have hj : j = 2 ∨ j = 3 := by
      have e1 : (fd_gone_through).np = 3 := rfl
      have e2 : (fd_gone_through).dfl.length = 1 := rfl
      omega
    rcases hj with rfl | rfl
    · obtain ⟨ds, v, b⟩ := F.binds1 (ps := [("value" : Str), ("hole" : Str), ("rows" : Str)]) 2 0 (by simp [He.DefD.dvs, dd_gone_through]) rfl fun T kV doc pm an cdv ct us its hu hi => match us, its, hu, hi with | [_, _], [_], _, _ => ⟨_, rfl, rfl⟩
      exact ⟨ds, _, b, v, fun β H => .cons (.bl _) (.nil)⟩
    · obtain ⟨ds, v, b⟩ := F.binds1 (ps := [("value" : Str), ("hole" : Str), ("rows" : Str)]) 3 1 (by simp [He.DefD.dvs, dd_gone_through]) rfl fun T kV doc pm an cdv ct us its hu hi => match us, its, hu, hi with | [_, _, _], [_], _, _ => ⟨_, rfl, rfl⟩
      exact ⟨ds, _, b, v, fun β H => .nil⟩
  exact ⟨fd_gone_through, _, fd, [("value" : Str), ("hole" : Str), ("rows" : Str)], N_gone_through, mu_gone_through, false, 60, _, _, _, _, _, _, _, rfl, rfl, rfl, rfl, He.glo_ok X G0 (fact (saysM_chk S.says) 11 rfl), F.kp, rfl, rfl, B, F, sc_gone_through, (fun z => by cases z), ok_gone_through⟩
theorem sc_need_program : FnScope N_need_program [("value" : Str)] (defScope (top 35)) := ⟨by kernel_rfl, by kernel_rfl, by kernel_rfl, by decide +kernel, by kernel_rfl, by decide +kernel, by decide +kernel⟩
theorem fs_need_program (X : K.In base) (G0 : base.Ns mainGlobals mg) (S : SaysL chk dl ts mkd w h0 K) (tabs : ∀ p ∈ tabsOf K mkd, LamX.TabB base mg p.1 p.2) : FnS T G K mg base (tbOf K mkd) "need_program" 1 0 false := by
  obtain ⟨fd, F⟩ := saysM_def S.says 12 (d := dd_need_program) rfl
  have b : Binds K fd [("value" : Str)] [] := F.bindsN fun _ _ _ _ _ _ us hl => match us, hl with | [_], _ => rfl
  exact ⟨fd_need_program, _, fd, [("value" : Str)], N_need_program, mu_need_program, false, 60, _, _, _, _, _, _, _, rfl, rfl, rfl, rfl, He.glo_ok X G0 (fact (saysM_chk S.says) 12 rfl), F.kp, rfl, rfl, fun j h1 h2 => ⟨[], [], b, .nil, fun β H => by
    rw [show (fd_need_program).dfl = [] from rfl, List.drop_nil]
    exact .nil⟩, F, sc_need_program, (fun z => by cases z), ok_need_program⟩
theorem sc_free_in : FnScope N_free_in [("piece" : Str)] (defScope (top 36)) := ⟨by kernel_rfl, by kernel_rfl, by kernel_rfl, by decide +kernel, by kernel_rfl, by decide +kernel, by decide +kernel⟩
theorem fs_free_in (X : K.In base) (G0 : base.Ns mainGlobals mg) (S : SaysL chk dl ts mkd w h0 K) (tabs : ∀ p ∈ tabsOf K mkd, LamX.TabB base mg p.1 p.2) : FnS T G K mg base (tbOf K mkd) "free_in" 1 0 false := by
  obtain ⟨fd, F⟩ := saysM_def S.says 13 (d := dd_free_in) rfl
  have b : Binds K fd [("piece" : Str)] [] := F.bindsN fun _ _ _ _ _ _ us hl => match us, hl with | [_], _ => rfl
  exact ⟨fd_free_in, _, fd, [("piece" : Str)], N_free_in, mu_free_in, false, 60, _, _, _, _, _, _, _, rfl, rfl, rfl, rfl, He.glo_ok X G0 (fact (saysM_chk S.says) 13 rfl), F.kp, rfl, rfl, fun j h1 h2 => ⟨[], [], b, .nil, fun β H => by
    rw [show (fd_free_in).dfl = [] from rfl, List.drop_nil]
    exact .nil⟩, F, sc_free_in, (fun z => by cases z), ok_free_in⟩
theorem sc_listed_in : FnScope N_listed_in [("piece" : Str), ("path" : Str)] (defScope (top 37)) := ⟨by kernel_rfl, by kernel_rfl, by kernel_rfl, by decide +kernel, by kernel_rfl, by decide +kernel, by decide +kernel⟩
theorem fs_listed_in (X : K.In base) (G0 : base.Ns mainGlobals mg) (S : SaysL chk dl ts mkd w h0 K) (tabs : ∀ p ∈ tabsOf K mkd, LamX.TabB base mg p.1 p.2) : FnS T G K mg base (tbOf K mkd) "listed_in" 2 0 false := by
  obtain ⟨fd, F⟩ := saysM_def S.says 14 (d := dd_listed_in) rfl
  have b : Binds K fd [("piece" : Str), ("path" : Str)] [] := F.bindsN fun _ _ _ _ _ _ us hl => match us, hl with | [_, _], _ => rfl
  exact ⟨fd_listed_in, _, fd, [("piece" : Str), ("path" : Str)], N_listed_in, mu_listed_in, false, 60, _, _, _, _, _, _, _, rfl, rfl, rfl, rfl, He.glo_ok X G0 (fact (saysM_chk S.says) 14 rfl), F.kp, rfl, rfl, fun j h1 h2 => ⟨[], [], b, .nil, fun β H => by
    rw [show (fd_listed_in).dfl = [] from rfl, List.drop_nil]
    exact .nil⟩, F, sc_listed_in, (fun z => by cases z), ok_listed_in⟩
theorem sc_listed : FnScope N_listed [("program" : Str)] (defScope (top 38)) := ⟨by kernel_rfl, by kernel_rfl, by kernel_rfl, by decide +kernel, by kernel_rfl, by decide +kernel, by decide +kernel⟩
theorem fs_listed (X : K.In base) (G0 : base.Ns mainGlobals mg) (S : SaysL chk dl ts mkd w h0 K) (tabs : ∀ p ∈ tabsOf K mkd, LamX.TabB base mg p.1 p.2) : FnS T G K mg base (tbOf K mkd) "listed" 1 0 false := by
  obtain ⟨fd, F⟩ := saysM_def S.says 15 (d := dd_listed) rfl
  have b : Binds K fd [("program" : Str)] [] := F.bindsN fun _ _ _ _ _ _ us hl => match us, hl with | [_], _ => rfl
  exact ⟨fd_listed, _, fd, [("program" : Str)], N_listed, mu_listed, false, 60, _, _, _, _, _, _, _, rfl, rfl, rfl, rfl, He.glo_ok X G0 (fact (saysM_chk S.says) 15 rfl), F.kp, rfl, rfl, fun j h1 h2 => ⟨[], [], b, .nil, fun β H => by
    rw [show (fd_listed).dfl = [] from rfl, List.drop_nil]
    exact .nil⟩, F, sc_listed, (fun z => by cases z), ok_listed⟩
theorem sc_piece_at : FnScope N_piece_at [("program" : Str), ("path" : Str)] (defScope (top 39)) := ⟨by kernel_rfl, by kernel_rfl, by kernel_rfl, by decide +kernel, by kernel_rfl, by decide +kernel, by decide +kernel⟩
theorem fs_piece_at (X : K.In base) (G0 : base.Ns mainGlobals mg) (S : SaysL chk dl ts mkd w h0 K) (tabs : ∀ p ∈ tabsOf K mkd, LamX.TabB base mg p.1 p.2) : FnS T G K mg base (tbOf K mkd) "piece_at" 2 0 false := by
  obtain ⟨fd, F⟩ := saysM_def S.says 16 (d := dd_piece_at) rfl
  have b : Binds K fd [("program" : Str), ("path" : Str)] [] := F.bindsN fun _ _ _ _ _ _ us hl => match us, hl with | [_, _], _ => rfl
  exact ⟨fd_piece_at, _, fd, [("program" : Str), ("path" : Str)], N_piece_at, mu_piece_at, false, 60, _, _, _, _, _, _, _, rfl, rfl, rfl, rfl, He.glo_ok X G0 (fact (saysM_chk S.says) 16 rfl), F.kp, rfl, rfl, fun j h1 h2 => ⟨[], [], b, .nil, fun β H => by
    rw [show (fd_piece_at).dfl = [] from rfl, List.drop_nil]
    exact .nil⟩, F, sc_piece_at, (fun z => by cases z), ok_piece_at⟩
theorem sc_is_path : FnScope N_is_path [("value" : Str)] (defScope (top 40)) := ⟨by kernel_rfl, by kernel_rfl, by kernel_rfl, by decide +kernel, by kernel_rfl, by decide +kernel, by decide +kernel⟩
theorem fs_is_path (X : K.In base) (G0 : base.Ns mainGlobals mg) (S : SaysL chk dl ts mkd w h0 K) (tabs : ∀ p ∈ tabsOf K mkd, LamX.TabB base mg p.1 p.2) : FnS T G K mg base (tbOf K mkd) "is_path" 1 0 false := by
  obtain ⟨fd, F⟩ := saysM_def S.says 17 (d := dd_is_path) rfl
  have b : Binds K fd [("value" : Str)] [] := F.bindsN fun _ _ _ _ _ _ us hl => match us, hl with | [_], _ => rfl
  exact ⟨fd_is_path, _, fd, [("value" : Str)], N_is_path, mu_is_path, false, 60, _, _, _, _, _, _, _, rfl, rfl, rfl, rfl, He.glo_ok X G0 (fact (saysM_chk S.says) 17 rfl), F.kp, rfl, rfl, fun j h1 h2 => ⟨[], [], b, .nil, fun β H => by
    rw [show (fd_is_path).dfl = [] from rfl, List.drop_nil]
    exact .nil⟩, F, sc_is_path, (fun z => by cases z), ok_is_path⟩
theorem sc_is_active : FnScope N_is_active [("piece" : Str)] (defScope (top 44)) := ⟨by kernel_rfl, by kernel_rfl, by kernel_rfl, by decide +kernel, by kernel_rfl, by decide +kernel, by decide +kernel⟩
theorem fs_is_active (X : K.In base) (G0 : base.Ns mainGlobals mg) (S : SaysL chk dl ts mkd w h0 K) (tabs : ∀ p ∈ tabsOf K mkd, LamX.TabB base mg p.1 p.2) : FnS T G K mg base (tbOf K mkd) "is_active" 1 0 false := by
  obtain ⟨fd, F⟩ := saysM_def S.says 18 (d := dd_is_active) rfl
  have b : Binds K fd [("piece" : Str)] [] := F.bindsN fun _ _ _ _ _ _ us hl => match us, hl with | [_], _ => rfl
  exact ⟨fd_is_active, _, fd, [("piece" : Str)], N_is_active, mu_is_active, false, 60, _, _, _, _, _, _, _, rfl, rfl, rfl, rfl, He.glo_ok X G0 (fact (saysM_chk S.says) 18 rfl), F.kp, rfl, rfl, fun j h1 h2 => ⟨[], [], b, .nil, fun β H => by
    rw [show (fd_is_active).dfl = [] from rfl, List.drop_nil]
    exact .nil⟩, F, sc_is_active, (fun z => by cases z), ok_is_active⟩
theorem sc_fresh_number : FnScope N_fresh_number [("used" : Str)] (defScope (top 45)) := ⟨by kernel_rfl, by kernel_rfl, by kernel_rfl, by decide +kernel, by kernel_rfl, by decide +kernel, by decide +kernel⟩
theorem fs_fresh_number (X : K.In base) (G0 : base.Ns mainGlobals mg) (S : SaysL chk dl ts mkd w h0 K) (tabs : ∀ p ∈ tabsOf K mkd, LamX.TabB base mg p.1 p.2) : FnS T G K mg base (tbOf K mkd) "fresh_number" 1 0 false := by
  obtain ⟨fd, F⟩ := saysM_def S.says 19 (d := dd_fresh_number) rfl
  have b : Binds K fd [("used" : Str)] [] := F.bindsN fun _ _ _ _ _ _ us hl => match us, hl with | [_], _ => rfl
  exact ⟨fd_fresh_number, _, fd, [("used" : Str)], N_fresh_number, mu_fresh_number, false, 60, _, _, _, _, _, _, _, rfl, rfl, rfl, rfl, He.glo_ok X G0 (fact (saysM_chk S.says) 19 rfl), F.kp, rfl, rfl, fun j h1 h2 => ⟨[], [], b, .nil, fun β H => by
    rw [show (fd_fresh_number).dfl = [] from rfl, List.drop_nil]
    exact .nil⟩, F, sc_fresh_number, (fun z => by cases z), ok_fresh_number⟩
theorem sc_with_number : FnScope N_with_number [("numbers" : Str), ("name" : Str), ("number" : Str)] (defScope (top 46)) := ⟨by kernel_rfl, by kernel_rfl, by kernel_rfl, by decide +kernel, by kernel_rfl, by decide +kernel, by decide +kernel⟩
theorem fs_with_number (X : K.In base) (G0 : base.Ns mainGlobals mg) (S : SaysL chk dl ts mkd w h0 K) (tabs : ∀ p ∈ tabsOf K mkd, LamX.TabB base mg p.1 p.2) : FnS T G K mg base (tbOf K mkd) "with_number" 3 0 false := by
  obtain ⟨fd, F⟩ := saysM_def S.says 20 (d := dd_with_number) rfl
  have b : Binds K fd [("numbers" : Str), ("name" : Str), ("number" : Str)] [] := F.bindsN fun _ _ _ _ _ _ us hl => match us, hl with | [_, _, _], _ => rfl
  exact ⟨fd_with_number, _, fd, [("numbers" : Str), ("name" : Str), ("number" : Str)], N_with_number, mu_with_number, false, 60, _, _, _, _, _, _, _, rfl, rfl, rfl, rfl, He.glo_ok X G0 (fact (saysM_chk S.says) 20 rfl), F.kp, rfl, rfl, fun j h1 h2 => ⟨[], [], b, .nil, fun β H => by
    rw [show (fd_with_number).dfl = [] from rfl, List.drop_nil]
    exact .nil⟩, F, sc_with_number, (fun z => by cases z), ok_with_number⟩
theorem sc_opened_part : FnScope N_opened_part [("program" : Str), ("path" : Str), ("numbers" : Str), ("used" : Str)] (defScope (top 47)) := ⟨by kernel_rfl, by kernel_rfl, by kernel_rfl, by decide +kernel, by kernel_rfl, by decide +kernel, by decide +kernel⟩
theorem fs_opened_part (X : K.In base) (G0 : base.Ns mainGlobals mg) (S : SaysL chk dl ts mkd w h0 K) (tabs : ∀ p ∈ tabsOf K mkd, LamX.TabB base mg p.1 p.2) : FnS T G K mg base (tbOf K mkd) "opened_part" 4 0 false := by
  obtain ⟨fd, F⟩ := saysM_def S.says 21 (d := dd_opened_part) rfl
  have b : Binds K fd [("program" : Str), ("path" : Str), ("numbers" : Str), ("used" : Str)] [] := F.bindsN fun _ _ _ _ _ _ us hl => match us, hl with | [_, _, _, _], _ => rfl
  exact ⟨fd_opened_part, _, fd, [("program" : Str), ("path" : Str), ("numbers" : Str), ("used" : Str)], N_opened_part, mu_opened_part, false, 60, _, _, _, _, _, _, _, rfl, rfl, rfl, rfl, He.glo_ok X G0 (fact (saysM_chk S.says) 21 rfl), F.kp, rfl, rfl, fun j h1 h2 => ⟨[], [], b, .nil, fun β H => by
    rw [show (fd_opened_part).dfl = [] from rfl, List.drop_nil]
    exact .nil⟩, F, sc_opened_part, (fun z => by cases z), ok_opened_part⟩
theorem sc_settled_row : FnScope N_settled_row [("threads" : Str), ("known" : Str)] (defScope (top 48)) := ⟨by kernel_rfl, by kernel_rfl, by kernel_rfl, by decide +kernel, by kernel_rfl, by decide +kernel, by decide +kernel⟩
theorem fs_settled_row (X : K.In base) (G0 : base.Ns mainGlobals mg) (S : SaysL chk dl ts mkd w h0 K) (tabs : ∀ p ∈ tabsOf K mkd, LamX.TabB base mg p.1 p.2) : FnS T G K mg base (tbOf K mkd) "settled_row" 2 0 false := by
  obtain ⟨fd, F⟩ := saysM_def S.says 22 (d := dd_settled_row) rfl
  have b : Binds K fd [("threads" : Str), ("known" : Str)] [] := F.bindsN fun _ _ _ _ _ _ us hl => match us, hl with | [_, _], _ => rfl
  exact ⟨fd_settled_row, _, fd, [("threads" : Str), ("known" : Str)], N_settled_row, mu_settled_row, false, 60, _, _, _, _, _, _, _, rfl, rfl, rfl, rfl, He.glo_ok X G0 (fact (saysM_chk S.says) 22 rfl), F.kp, rfl, rfl, fun j h1 h2 => ⟨[], [], b, .nil, fun β H => by
    rw [show (fd_settled_row).dfl = [] from rfl, List.drop_nil]
    exact .nil⟩, F, sc_settled_row, (fun z => by cases z), ok_settled_row⟩
theorem sc_need_bounds : FnScope N_need_bounds [("standings" : Str)] (defScope (top 49)) := ⟨by kernel_rfl, by kernel_rfl, by kernel_rfl, by decide +kernel, by kernel_rfl, by decide +kernel, by decide +kernel⟩
theorem fs_need_bounds (X : K.In base) (G0 : base.Ns mainGlobals mg) (S : SaysL chk dl ts mkd w h0 K) (tabs : ∀ p ∈ tabsOf K mkd, LamX.TabB base mg p.1 p.2) : FnS T G K mg base (tbOf K mkd) "need_bounds" 1 0 false := by
  obtain ⟨fd, F⟩ := saysM_def S.says 23 (d := dd_need_bounds) rfl
  have b : Binds K fd [("standings" : Str)] [] := F.bindsN fun _ _ _ _ _ _ us hl => match us, hl with | [_], _ => rfl
  exact ⟨fd_need_bounds, _, fd, [("standings" : Str)], N_need_bounds, mu_need_bounds, false, 60, _, _, _, _, _, _, _, rfl, rfl, rfl, rfl, He.glo_ok X G0 (fact (saysM_chk S.says) 23 rfl), F.kp, rfl, rfl, fun j h1 h2 => ⟨[], [], b, .nil, fun β H => by
    rw [show (fd_need_bounds).dfl = [] from rfl, List.drop_nil]
    exact .nil⟩, F, sc_need_bounds, (fun z => by cases z), ok_need_bounds⟩
theorem sc_started : FnScope N_started [("program" : Str), ("given" : Str)] (defScope (top 50)) := ⟨by kernel_rfl, by kernel_rfl, by kernel_rfl, by decide +kernel, by kernel_rfl, by decide +kernel, by decide +kernel⟩
theorem fs_started (X : K.In base) (G0 : base.Ns mainGlobals mg) (S : SaysL chk dl ts mkd w h0 K) (tabs : ∀ p ∈ tabsOf K mkd, LamX.TabB base mg p.1 p.2) : FnS T G K mg base (tbOf K mkd) "started" 2 0 false := by
  obtain ⟨fd, F⟩ := saysM_def S.says 24 (d := dd_started) rfl
  have b : Binds K fd [("program" : Str), ("given" : Str)] [] := F.bindsN fun _ _ _ _ _ _ us hl => match us, hl with | [_, _], _ => rfl
  exact ⟨fd_started, _, fd, [("program" : Str), ("given" : Str)], N_started, mu_started, false, 60, _, _, _, _, _, _, _, rfl, rfl, rfl, rfl, He.glo_ok X G0 (fact (saysM_chk S.says) 24 rfl), F.kp, rfl, rfl, fun j h1 h2 => ⟨[], [], b, .nil, fun β H => by
    rw [show (fd_started).dfl = [] from rfl, List.drop_nil]
    exact .nil⟩, F, sc_started, (fun z => by cases z), ok_started⟩
theorem sc_start : FnScope N_start [("program" : Str), ("given" : Str)] (defScope (top 51)) := ⟨by kernel_rfl, by kernel_rfl, by kernel_rfl, by decide +kernel, by kernel_rfl, by decide +kernel, by decide +kernel⟩
theorem fs_start (X : K.In base) (G0 : base.Ns mainGlobals mg) (S : SaysL chk dl ts mkd w h0 K) (tabs : ∀ p ∈ tabsOf K mkd, LamX.TabB base mg p.1 p.2) : FnS T G K mg base (tbOf K mkd) "start" 2 1 false := by
  obtain ⟨fd, F⟩ := saysM_def S.says 25 (d := dd_start) rfl
  have B : ∀ j, j ≤ (fd_start).np → (fd_start).np ≤ j + (fd_start).dfl.length → ∃ ds dvs, Binds K fd [("program" : Str), ("given" : Str)] ds ∧ Vals dvs ds ∧ ∀ β H, DPs K β H ((fd_start).dfl.drop (j + (fd_start).dfl.length - (fd_start).np)) dvs := fun j h1 h2 => by
    have hj : j = 1 ∨ j = 2 := by
      have e1 : (fd_start).np = 2 := rfl
      have e2 : (fd_start).dfl.length = 1 := rfl
      omega
    rcases hj with rfl | rfl
    · obtain ⟨ds, v, b⟩ := F.binds1 (ps := [("program" : Str), ("given" : Str)]) 1 0 (by simp [He.DefD.dvs, dd_start]) rfl fun T kV doc pm an cdv ct us its hu hi => match us, its, hu, hi with | [_], [_], _, _ => ⟨_, rfl, rfl⟩
      exact ⟨ds, _, b, v, fun β H => .cons (conB_ga ((chk2 (saysM_chk S.says)).1 _ (List.mem_of_getElem? (i := 1) rfl)) β H) (.nil)⟩
    · obtain ⟨ds, v, b⟩ := F.binds1 (ps := [("program" : Str), ("given" : Str)]) 2 1 (by simp [He.DefD.dvs, dd_start]) rfl fun T kV doc pm an cdv ct us its hu hi => match us, its, hu, hi with | [_, _], [_], _, _ => ⟨_, rfl, rfl⟩
      exact ⟨ds, _, b, v, fun β H => .nil⟩
  exact ⟨fd_start, _, fd, [("program" : Str), ("given" : Str)], N_start, mu_start, false, 60, _, _, _, _, _, _, _, rfl, rfl, rfl, rfl, He.glo_ok X G0 (fact (saysM_chk S.says) 25 rfl), F.kp, rfl, rfl, B, F, sc_start, (fun z => by cases z), ok_start⟩
theorem sc_active_part : FnScope N_active_part [("program" : Str), ("path" : Str)] (defScope (top 52)) := ⟨by kernel_rfl, by kernel_rfl, by kernel_rfl, by decide +kernel, by kernel_rfl, by decide +kernel, by decide +kernel⟩
theorem fs_active_part (X : K.In base) (G0 : base.Ns mainGlobals mg) (S : SaysL chk dl ts mkd w h0 K) (tabs : ∀ p ∈ tabsOf K mkd, LamX.TabB base mg p.1 p.2) : FnS T G K mg base (tbOf K mkd) "active_part" 2 0 false := by
  obtain ⟨fd, F⟩ := saysM_def S.says 26 (d := dd_active_part) rfl
  have b : Binds K fd [("program" : Str), ("path" : Str)] [] := F.bindsN fun _ _ _ _ _ _ us hl => match us, hl with | [_, _], _ => rfl
  exact ⟨fd_active_part, _, fd, [("program" : Str), ("path" : Str)], N_active_part, mu_active_part, false, 60, _, _, _, _, _, _, _, rfl, rfl, rfl, rfl, He.glo_ok X G0 (fact (saysM_chk S.says) 26 rfl), F.kp, rfl, rfl, fun j h1 h2 => ⟨[], [], b, .nil, fun β H => by
    rw [show (fd_active_part).dfl = [] from rfl, List.drop_nil]
    exact .nil⟩, F, sc_active_part, (fun z => by cases z), ok_active_part⟩
theorem sc_is_thread : FnScope N_is_thread [("program" : Str), ("value" : Str), ("most" : Str)] (defScope (top 53)) := ⟨by kernel_rfl, by kernel_rfl, by kernel_rfl, by decide +kernel, by kernel_rfl, by decide +kernel, by decide +kernel⟩
theorem fs_is_thread (X : K.In base) (G0 : base.Ns mainGlobals mg) (S : SaysL chk dl ts mkd w h0 K) (tabs : ∀ p ∈ tabsOf K mkd, LamX.TabB base mg p.1 p.2) : FnS T G K mg base (tbOf K mkd) "is_thread" 3 0 false := by
  obtain ⟨fd, F⟩ := saysM_def S.says 27 (d := dd_is_thread) rfl
  have b : Binds K fd [("program" : Str), ("value" : Str), ("most" : Str)] [] := F.bindsN fun _ _ _ _ _ _ us hl => match us, hl with | [_, _, _], _ => rfl
  exact ⟨fd_is_thread, _, fd, [("program" : Str), ("value" : Str), ("most" : Str)], N_is_thread, mu_is_thread, false, 60, _, _, _, _, _, _, _, rfl, rfl, rfl, rfl, He.glo_ok X G0 (fact (saysM_chk S.says) 27 rfl), F.kp, rfl, rfl, fun j h1 h2 => ⟨[], [], b, .nil, fun β H => by
    rw [show (fd_is_thread).dfl = [] from rfl, List.drop_nil]
    exact .nil⟩, F, sc_is_thread, (fun z => by cases z), ok_is_thread⟩
theorem sc_is_natural : FnScope N_is_natural [("value" : Str)] (defScope (top 54)) := ⟨by kernel_rfl, by kernel_rfl, by kernel_rfl, by decide +kernel, by kernel_rfl, by decide +kernel, by decide +kernel⟩
theorem fs_is_natural (X : K.In base) (G0 : base.Ns mainGlobals mg) (S : SaysL chk dl ts mkd w h0 K) (tabs : ∀ p ∈ tabsOf K mkd, LamX.TabB base mg p.1 p.2) : FnS T G K mg base (tbOf K mkd) "is_natural" 1 0 false := by
  obtain ⟨fd, F⟩ := saysM_def S.says 28 (d := dd_is_natural) rfl
  have b : Binds K fd [("value" : Str)] [] := F.bindsN fun _ _ _ _ _ _ us hl => match us, hl with | [_], _ => rfl
  exact ⟨fd_is_natural, _, fd, [("value" : Str)], N_is_natural, mu_is_natural, false, 60, _, _, _, _, _, _, _, rfl, rfl, rfl, rfl, He.glo_ok X G0 (fact (saysM_chk S.says) 28 rfl), F.kp, rfl, rfl, fun j h1 h2 => ⟨[], [], b, .nil, fun β H => by
    rw [show (fd_is_natural).dfl = [] from rfl, List.drop_nil]
    exact .nil⟩, F, sc_is_natural, (fun z => by cases z), ok_is_natural⟩
theorem sc_need_standing : FnScope N_need_standing [("program" : Str), ("value" : Str)] (defScope (top 55)) := ⟨by kernel_rfl, by kernel_rfl, by kernel_rfl, by decide +kernel, by kernel_rfl, by decide +kernel, by decide +kernel⟩
theorem fs_need_standing (X : K.In base) (G0 : base.Ns mainGlobals mg) (S : SaysL chk dl ts mkd w h0 K) (tabs : ∀ p ∈ tabsOf K mkd, LamX.TabB base mg p.1 p.2) : FnS T G K mg base (tbOf K mkd) "need_standing" 2 0 false := by
  obtain ⟨fd, F⟩ := saysM_def S.says 29 (d := dd_need_standing) rfl
  have b : Binds K fd [("program" : Str), ("value" : Str)] [] := F.bindsN fun _ _ _ _ _ _ us hl => match us, hl with | [_, _], _ => rfl
  exact ⟨fd_need_standing, _, fd, [("program" : Str), ("value" : Str)], N_need_standing, mu_need_standing, false, 60, _, _, _, _, _, _, _, rfl, rfl, rfl, rfl, He.glo_ok X G0 (fact (saysM_chk S.says) 29 rfl), F.kp, rfl, rfl, fun j h1 h2 => ⟨[], [], b, .nil, fun β H => by
    rw [show (fd_need_standing).dfl = [] from rfl, List.drop_nil]
    exact .nil⟩, F, sc_need_standing, (fun z => by cases z), ok_need_standing⟩
theorem sc_is_joining : FnScope N_is_joining [("many" : Str), ("value" : Str)] (defScope (top 58)) := ⟨by kernel_rfl, by kernel_rfl, by kernel_rfl, by decide +kernel, by kernel_rfl, by decide +kernel, by decide +kernel⟩
theorem fs_is_joining (X : K.In base) (G0 : base.Ns mainGlobals mg) (S : SaysL chk dl ts mkd w h0 K) (tabs : ∀ p ∈ tabsOf K mkd, LamX.TabB base mg p.1 p.2) : FnS T G K mg base (tbOf K mkd) "is_joining" 2 0 false := by
  obtain ⟨fd, F⟩ := saysM_def S.says 30 (d := dd_is_joining) rfl
  have b : Binds K fd [("many" : Str), ("value" : Str)] [] := F.bindsN fun _ _ _ _ _ _ us hl => match us, hl with | [_, _], _ => rfl
  exact ⟨fd_is_joining, _, fd, [("many" : Str), ("value" : Str)], N_is_joining, mu_is_joining, false, 60, _, _, _, _, _, _, _, rfl, rfl, rfl, rfl, He.glo_ok X G0 (fact (saysM_chk S.says) 30 rfl), F.kp, rfl, rfl, fun j h1 h2 => ⟨[], [], b, .nil, fun β H => by
    rw [show (fd_is_joining).dfl = [] from rfl, List.drop_nil]
    exact .nil⟩, F, sc_is_joining, (fun z => by cases z), ok_is_joining⟩
theorem sc_need_joining : FnScope N_need_joining [("many" : Str), ("value" : Str)] (defScope (top 59)) := ⟨by kernel_rfl, by kernel_rfl, by kernel_rfl, by decide +kernel, by kernel_rfl, by decide +kernel, by decide +kernel⟩
theorem fs_need_joining (X : K.In base) (G0 : base.Ns mainGlobals mg) (S : SaysL chk dl ts mkd w h0 K) (tabs : ∀ p ∈ tabsOf K mkd, LamX.TabB base mg p.1 p.2) : FnS T G K mg base (tbOf K mkd) "need_joining" 2 0 false := by
  obtain ⟨fd, F⟩ := saysM_def S.says 31 (d := dd_need_joining) rfl
  have b : Binds K fd [("many" : Str), ("value" : Str)] [] := F.bindsN fun _ _ _ _ _ _ us hl => match us, hl with | [_, _], _ => rfl
  exact ⟨fd_need_joining, _, fd, [("many" : Str), ("value" : Str)], N_need_joining, mu_need_joining, false, 60, _, _, _, _, _, _, _, rfl, rfl, rfl, rfl, He.glo_ok X G0 (fact (saysM_chk S.says) 31 rfl), F.kp, rfl, rfl, fun j h1 h2 => ⟨[], [], b, .nil, fun β H => by
    rw [show (fd_need_joining).dfl = [] from rfl, List.drop_nil]
    exact .nil⟩, F, sc_need_joining, (fun z => by cases z), ok_need_joining⟩
theorem sc_all_joinings : FnScope N_all_joinings [("many" : Str)] (defScope (top 60)) := ⟨by kernel_rfl, by kernel_rfl, by kernel_rfl, by decide +kernel, by kernel_rfl, by decide +kernel, by decide +kernel⟩
theorem fs_all_joinings (X : K.In base) (G0 : base.Ns mainGlobals mg) (S : SaysL chk dl ts mkd w h0 K) (tabs : ∀ p ∈ tabsOf K mkd, LamX.TabB base mg p.1 p.2) : FnS T G K mg base (tbOf K mkd) "all_joinings" 1 0 false := by
  obtain ⟨fd, F⟩ := saysM_def S.says 32 (d := dd_all_joinings) rfl
  have b : Binds K fd [("many" : Str)] [] := F.bindsN fun _ _ _ _ _ _ us hl => match us, hl with | [_], _ => rfl
  exact ⟨fd_all_joinings, _, fd, [("many" : Str)], N_all_joinings, mu_all_joinings, false, 60, _, _, _, _, _, _, _, rfl, rfl, rfl, rfl, He.glo_ok X G0 (fact (saysM_chk S.says) 32 rfl), F.kp, rfl, rfl, fun j h1 h2 => ⟨[], [], b, .nil, fun β H => by
    rw [show (fd_all_joinings).dfl = [] from rfl, List.drop_nil]
    exact .nil⟩, F, sc_all_joinings, (fun z => by cases z), ok_all_joinings⟩
theorem sc_joined : FnScope N_joined [("program" : Str), ("standing" : Str), ("joining" : Str)] (defScope (top 61)) := ⟨by kernel_rfl, by kernel_rfl, by kernel_rfl, by decide +kernel, by kernel_rfl, by decide +kernel, by decide +kernel⟩
theorem fs_joined (X : K.In base) (G0 : base.Ns mainGlobals mg) (S : SaysL chk dl ts mkd w h0 K) (tabs : ∀ p ∈ tabsOf K mkd, LamX.TabB base mg p.1 p.2) : FnS T G K mg base (tbOf K mkd) "joined" 3 0 false := by
  obtain ⟨fd, F⟩ := saysM_def S.says 33 (d := dd_joined) rfl
  have b : Binds K fd [("program" : Str), ("standing" : Str), ("joining" : Str)] [] := F.bindsN fun _ _ _ _ _ _ us hl => match us, hl with | [_, _, _], _ => rfl
  exact ⟨fd_joined, _, fd, [("program" : Str), ("standing" : Str), ("joining" : Str)], N_joined, mu_joined, false, 60, _, _, _, _, _, _, _, rfl, rfl, rfl, rfl, He.glo_ok X G0 (fact (saysM_chk S.says) 33 rfl), F.kp, rfl, rfl, fun j h1 h2 => ⟨[], [], b, .nil, fun β H => by
    rw [show (fd_joined).dfl = [] from rfl, List.drop_nil]
    exact .nil⟩, F, sc_joined, (fun z => by cases z), ok_joined⟩
theorem sc_is_condition : FnScope N_is_condition [("many" : Str), ("value" : Str)] (defScope (top 62)) := ⟨by kernel_rfl, by kernel_rfl, by kernel_rfl, by decide +kernel, by kernel_rfl, by decide +kernel, by decide +kernel⟩
theorem fs_is_condition (X : K.In base) (G0 : base.Ns mainGlobals mg) (S : SaysL chk dl ts mkd w h0 K) (tabs : ∀ p ∈ tabsOf K mkd, LamX.TabB base mg p.1 p.2) : FnS T G K mg base (tbOf K mkd) "is_condition" 2 0 false := by
  obtain ⟨fd, F⟩ := saysM_def S.says 34 (d := dd_is_condition) rfl
  have b : Binds K fd [("many" : Str), ("value" : Str)] [] := F.bindsN fun _ _ _ _ _ _ us hl => match us, hl with | [_, _], _ => rfl
  exact ⟨fd_is_condition, _, fd, [("many" : Str), ("value" : Str)], N_is_condition, mu_is_condition, false, 60, _, _, _, _, _, _, _, rfl, rfl, rfl, rfl, He.glo_ok X G0 (fact (saysM_chk S.says) 34 rfl), F.kp, rfl, rfl, fun j h1 h2 => ⟨[], [], b, .nil, fun β H => by
    rw [show (fd_is_condition).dfl = [] from rfl, List.drop_nil]
    exact .nil⟩, F, sc_is_condition, (fun z => by cases z), ok_is_condition⟩
theorem sc_holds_joined : FnScope N_holds_joined [("condition" : Str), ("joining" : Str)] (defScope (top 63)) := ⟨by kernel_rfl, by kernel_rfl, by kernel_rfl, by decide +kernel, by kernel_rfl, by decide +kernel, by decide +kernel⟩
theorem fs_holds_joined (X : K.In base) (G0 : base.Ns mainGlobals mg) (S : SaysL chk dl ts mkd w h0 K) (tabs : ∀ p ∈ tabsOf K mkd, LamX.TabB base mg p.1 p.2) : FnS T G K mg base (tbOf K mkd) "holds_joined" 2 0 false := by
  obtain ⟨fd, F⟩ := saysM_def S.says 35 (d := dd_holds_joined) rfl
  have b : Binds K fd [("condition" : Str), ("joining" : Str)] [] := F.bindsN fun _ _ _ _ _ _ us hl => match us, hl with | [_, _], _ => rfl
  exact ⟨fd_holds_joined, _, fd, [("condition" : Str), ("joining" : Str)], N_holds_joined, mu_holds_joined, false, 60, _, _, _, _, _, _, _, rfl, rfl, rfl, rfl, He.glo_ok X G0 (fact (saysM_chk S.says) 35 rfl), F.kp, rfl, rfl, fun j h1 h2 => ⟨[], [], b, .nil, fun β H => by
    rw [show (fd_holds_joined).dfl = [] from rfl, List.drop_nil]
    exact .nil⟩, F, sc_holds_joined, (fun z => by cases z), ok_holds_joined⟩
theorem sc__law_mixed : FnScope N__law_mixed [("_law_cell" : Str), ("_law_k" : Str)] (defScope (top 65)) := ⟨by kernel_rfl, by kernel_rfl, by kernel_rfl, by decide +kernel, by kernel_rfl, by decide +kernel, by decide +kernel⟩
theorem fs__law_mixed (X : K.In base) (G0 : base.Ns mainGlobals mg) (S : SaysL chk dl ts mkd w h0 K) (tabs : ∀ p ∈ tabsOf K mkd, LamX.TabB base mg p.1 p.2) : FnS T G K mg base (tbOf K mkd) "_law_mixed" 2 0 false := by
  obtain ⟨fd, F⟩ := saysM_def S.says 36 (d := dd__law_mixed) rfl
  have b : Binds K fd [("_law_cell" : Str), ("_law_k" : Str)] [] := F.bindsN fun _ _ _ _ _ _ us hl => match us, hl with | [_, _], _ => rfl
  exact ⟨fd__law_mixed, _, fd, [("_law_cell" : Str), ("_law_k" : Str)], N__law_mixed, mu__law_mixed, false, 60, _, _, _, _, _, _, _, rfl, rfl, rfl, rfl, He.glo_ok X G0 (fact (saysM_chk S.says) 36 rfl), F.kp, rfl, rfl, fun j h1 h2 => ⟨[], [], b, .nil, fun β H => by
    rw [show (fd__law_mixed).dfl = [] from rfl, List.drop_nil]
    exact .nil⟩, F, sc__law_mixed, (fun z => by cases z), ok__law_mixed⟩
theorem sc__law_begin : FnScope N__law_begin [("_law_script" : Str)] (defScope (top 66)) := ⟨by kernel_rfl, by kernel_rfl, by kernel_rfl, by decide +kernel, by kernel_rfl, by decide +kernel, by decide +kernel⟩
theorem fs__law_begin (X : K.In base) (G0 : base.Ns mainGlobals mg) (S : SaysL chk dl ts mkd w h0 K) (tabs : ∀ p ∈ tabsOf K mkd, LamX.TabB base mg p.1 p.2) : FnS T G K mg base (tbOf K mkd) "_law_begin" 1 0 false := by
  obtain ⟨fd, F⟩ := saysM_def S.says 37 (d := dd__law_begin) rfl
  have b : Binds K fd [("_law_script" : Str)] [] := F.bindsN fun _ _ _ _ _ _ us hl => match us, hl with | [_], _ => rfl
  exact ⟨fd__law_begin, _, fd, [("_law_script" : Str)], N__law_begin, mu__law_begin, false, 60, _, _, _, _, _, _, _, rfl, rfl, rfl, rfl, He.glo_ok X G0 (fact (saysM_chk S.says) 37 rfl), F.kp, rfl, rfl, fun j h1 h2 => ⟨[], [], b, .nil, fun β H => by
    rw [show (fd__law_begin).dfl = [] from rfl, List.drop_nil]
    exact .nil⟩, F, sc__law_begin, (fun z => by cases z), ok__law_begin⟩
theorem sc__law_draw : FnScope N__law_draw [("_law_state" : Str), ("_law_limit" : Str)] (defScope (top 67)) := ⟨by kernel_rfl, by kernel_rfl, by kernel_rfl, by decide +kernel, by kernel_rfl, by decide +kernel, by decide +kernel⟩
theorem fs__law_draw (X : K.In base) (G0 : base.Ns mainGlobals mg) (S : SaysL chk dl ts mkd w h0 K) (tabs : ∀ p ∈ tabsOf K mkd, LamX.TabB base mg p.1 p.2) : FnS T G K mg base (tbOf K mkd) "_law_draw" 2 0 false := by
  obtain ⟨fd, F⟩ := saysM_def S.says 38 (d := dd__law_draw) rfl
  have b : Binds K fd [("_law_state" : Str), ("_law_limit" : Str)] [] := F.bindsN fun _ _ _ _ _ _ us hl => match us, hl with | [_, _], _ => rfl
  exact ⟨fd__law_draw, _, fd, [("_law_state" : Str), ("_law_limit" : Str)], N__law_draw, mu__law_draw, false, 60, _, _, _, _, _, _, _, rfl, rfl, rfl, rfl, He.glo_ok X G0 (fact (saysM_chk S.says) 38 rfl), F.kp, rfl, rfl, fun j h1 h2 => ⟨[], [], b, .nil, fun β H => by
    rw [show (fd__law_draw).dfl = [] from rfl, List.drop_nil]
    exact .nil⟩, F, sc__law_draw, (fun z => by cases z), ok__law_draw⟩
theorem sc__law_of : FnScope N__law_of [("_law_state" : Str), ("_law_some" : Str)] (defScope (top 68)) := ⟨by kernel_rfl, by kernel_rfl, by kernel_rfl, by decide +kernel, by kernel_rfl, by decide +kernel, by decide +kernel⟩
theorem fs__law_of (X : K.In base) (G0 : base.Ns mainGlobals mg) (S : SaysL chk dl ts mkd w h0 K) (tabs : ∀ p ∈ tabsOf K mkd, LamX.TabB base mg p.1 p.2) : FnS T G K mg base (tbOf K mkd) "_law_of" 2 0 false := by
  obtain ⟨fd, F⟩ := saysM_def S.says 39 (d := dd__law_of) rfl
  have b : Binds K fd [("_law_state" : Str), ("_law_some" : Str)] [] := F.bindsN fun _ _ _ _ _ _ us hl => match us, hl with | [_, _], _ => rfl
  exact ⟨fd__law_of, _, fd, [("_law_state" : Str), ("_law_some" : Str)], N__law_of, mu__law_of, false, 60, _, _, _, _, _, _, _, rfl, rfl, rfl, rfl, He.glo_ok X G0 (fact (saysM_chk S.says) 39 rfl), F.kp, rfl, rfl, fun j h1 h2 => ⟨[], [], b, .nil, fun β H => by
    rw [show (fd__law_of).dfl = [] from rfl, List.drop_nil]
    exact .nil⟩, F, sc__law_of, (fun z => by cases z), ok__law_of⟩
theorem sc__law_like : FnScope N__law_like [("_law_got" : Str), ("_law_due" : Str)] (defScope (top 69)) := ⟨by kernel_rfl, by kernel_rfl, by kernel_rfl, by decide +kernel, by kernel_rfl, by decide +kernel, by decide +kernel⟩
theorem fs__law_like (X : K.In base) (G0 : base.Ns mainGlobals mg) (S : SaysL chk dl ts mkd w h0 K) (tabs : ∀ p ∈ tabsOf K mkd, LamX.TabB base mg p.1 p.2) : FnS T G K mg base (tbOf K mkd) "_law_like" 2 0 true := by
  obtain ⟨fd, F⟩ := saysM_def S.says 40 (d := dd__law_like) rfl
  have b : Binds K fd [("_law_got" : Str), ("_law_due" : Str)] [] := F.bindsN fun _ _ _ _ _ _ us hl => match us, hl with | [_, _], _ => rfl
  exact ⟨fd__law_like, _, fd, [("_law_got" : Str), ("_law_due" : Str)], N__law_like, mu__law_like, false, 60, _, _, _, _, _, _, _, rfl, rfl, rfl, rfl, He.glo_ok X G0 (fact (saysM_chk S.says) 40 rfl), F.kp, rfl, rfl, fun j h1 h2 => ⟨[], [], b, .nil, fun β H => by
    rw [show (fd__law_like).dfl = [] from rfl, List.drop_nil]
    exact .nil⟩, F, sc__law_like, (fun z => by cases z), ok__law_like⟩
theorem sc__law_all : FnScope N__law_all [("_law_wide" : Str)] (defScope (top 70)) := ⟨by kernel_rfl, by kernel_rfl, by kernel_rfl, by decide +kernel, by kernel_rfl, by decide +kernel, by decide +kernel⟩
theorem fs__law_all (X : K.In base) (G0 : base.Ns mainGlobals mg) (S : SaysL chk dl ts mkd w h0 K) (tabs : ∀ p ∈ tabsOf K mkd, LamX.TabB base mg p.1 p.2) : FnS T G K mg base (tbOf K mkd) "_law_all" 1 0 false := by
  obtain ⟨fd, F⟩ := saysM_def S.says 41 (d := dd__law_all) rfl
  have b : Binds K fd [("_law_wide" : Str)] [] := F.bindsN fun _ _ _ _ _ _ us hl => match us, hl with | [_], _ => rfl
  exact ⟨fd__law_all, _, fd, [("_law_wide" : Str)], N__law_all, mu__law_all, false, 60, _, _, _, _, _, _, _, rfl, rfl, rfl, rfl, He.glo_ok X G0 (fact (saysM_chk S.says) 41 rfl), F.kp, rfl, rfl, fun j h1 h2 => ⟨[], [], b, .nil, fun β H => by
    rw [show (fd__law_all).dfl = [] from rfl, List.drop_nil]
    exact .nil⟩, F, sc__law_all, (fun z => by cases z), ok__law_all⟩
theorem sc__law_is_joining : FnScope N__law_is_joining [("_law_wide" : Str), ("_law_row" : Str)] (defScope (top 71)) := ⟨by kernel_rfl, by kernel_rfl, by kernel_rfl, by decide +kernel, by kernel_rfl, by decide +kernel, by decide +kernel⟩
theorem fs__law_is_joining (X : K.In base) (G0 : base.Ns mainGlobals mg) (S : SaysL chk dl ts mkd w h0 K) (tabs : ∀ p ∈ tabsOf K mkd, LamX.TabB base mg p.1 p.2) : FnS T G K mg base (tbOf K mkd) "_law_is_joining" 2 0 false := by
  obtain ⟨fd, F⟩ := saysM_def S.says 42 (d := dd__law_is_joining) rfl
  have b : Binds K fd [("_law_wide" : Str), ("_law_row" : Str)] [] := F.bindsN fun _ _ _ _ _ _ us hl => match us, hl with | [_, _], _ => rfl
  exact ⟨fd__law_is_joining, _, fd, [("_law_wide" : Str), ("_law_row" : Str)], N__law_is_joining, mu__law_is_joining, false, 60, _, _, _, _, _, _, _, rfl, rfl, rfl, rfl, He.glo_ok X G0 (fact (saysM_chk S.says) 42 rfl), F.kp, rfl, rfl, fun j h1 h2 => ⟨[], [], b, .nil, fun β H => by
    rw [show (fd__law_is_joining).dfl = [] from rfl, List.drop_nil]
    exact .nil⟩, F, sc__law_is_joining, (fun z => by cases z), ok__law_is_joining⟩
theorem sc__law_caught : FnScope N__law_caught [("_law_call" : Str)] (defScope (top 72)) := ⟨by kernel_rfl, by kernel_rfl, by kernel_rfl, by decide +kernel, by kernel_rfl, by decide +kernel, by decide +kernel⟩
theorem fl__law_caught (X : K.In base) (G0 : base.Ns mainGlobals mg) (S : SaysL chk dl ts mkd w h0 K) (tabs : ∀ p ∈ tabsOf K mkd, LamX.TabB base mg p.1 p.2) : FnL T G K mg "_law_caught" false := by
  obtain ⟨fd, F⟩ := saysM_def S.says 43 (d := dd__law_caught) rfl
  have b : Binds K fd [("_law_call" : Str)] [] := F.bindsN fun _ _ _ _ _ _ us hl => match us, hl with | [_], _ => rfl
  exact ⟨fd__law_caught, _, fd, N__law_caught, ("_law_call" : Str), mu__law_caught, 60, _, _, _, rfl, rfl, rfl, rfl, rfl, He.glo_ok X G0 (fact (saysM_chk S.says) 43 rfl), F.kp, .inl (by kernel_rfl), by decide +kernel, by decide +kernel, b, F, sc__law_caught, ok__law_caught⟩
theorem sc__law_needed_right : FnScope N__law_needed_right [("_law_state" : Str), ("_law_wide" : Str)] (defScope (top 73)) := ⟨by kernel_rfl, by kernel_rfl, by kernel_rfl, by decide +kernel, by kernel_rfl, by decide +kernel, by decide +kernel⟩
theorem fs__law_needed_right (X : K.In base) (G0 : base.Ns mainGlobals mg) (S : SaysL chk dl ts mkd w h0 K) (tabs : ∀ p ∈ tabsOf K mkd, LamX.TabB base mg p.1 p.2) : FnS T G K mg base (tbOf K mkd) "_law_needed_right" 2 0 true := by
  obtain ⟨fd, F⟩ := saysM_def S.says 44 (d := dd__law_needed_right) rfl
  have b : Binds K fd [("_law_state" : Str), ("_law_wide" : Str)] [] := F.bindsN fun _ _ _ _ _ _ us hl => match us, hl with | [_, _], _ => rfl
  exact ⟨fd__law_needed_right, _, fd, [("_law_state" : Str), ("_law_wide" : Str)], N__law_needed_right, mu__law_needed_right, true, 60, _, _, _, _, _, _, _, rfl, rfl, rfl, rfl, He.glo_ok X G0 (fact (saysM_chk S.says) 44 rfl), F.kp, rfl, rfl, fun j h1 h2 => ⟨[], [], b, .nil, fun β H => by
    rw [show (fd__law_needed_right).dfl = [] from rfl, List.drop_nil]
    exact .nil⟩, F, sc__law_needed_right, fun _ => mk_at S (List.mem_of_getElem? (i := 0) rfl) tabs F, ok__law_needed_right⟩
theorem sc__law_condition : FnScope N__law_condition [("_law_state" : Str), ("_law_wide" : Str)] (defScope (top 74)) := ⟨by kernel_rfl, by kernel_rfl, by kernel_rfl, by decide +kernel, by kernel_rfl, by decide +kernel, by decide +kernel⟩
theorem fs__law_condition (X : K.In base) (G0 : base.Ns mainGlobals mg) (S : SaysL chk dl ts mkd w h0 K) (tabs : ∀ p ∈ tabsOf K mkd, LamX.TabB base mg p.1 p.2) : FnS T G K mg base (tbOf K mkd) "_law_condition" 2 0 false := by
  obtain ⟨fd, F⟩ := saysM_def S.says 45 (d := dd__law_condition) rfl
  have b : Binds K fd [("_law_state" : Str), ("_law_wide" : Str)] [] := F.bindsN fun _ _ _ _ _ _ us hl => match us, hl with | [_, _], _ => rfl
  exact ⟨fd__law_condition, _, fd, [("_law_state" : Str), ("_law_wide" : Str)], N__law_condition, mu__law_condition, false, 60, _, _, _, _, _, _, _, rfl, rfl, rfl, rfl, He.glo_ok X G0 (fact (saysM_chk S.says) 45 rfl), F.kp, rfl, rfl, fun j h1 h2 => ⟨[], [], b, .nil, fun β H => by
    rw [show (fd__law_condition).dfl = [] from rfl, List.drop_nil]
    exact .nil⟩, F, sc__law_condition, (fun z => by cases z), ok__law_condition⟩
theorem sc__law_holds : FnScope N__law_holds [("_law_condition_so" : Str), ("_law_row" : Str)] (defScope (top 75)) := ⟨by kernel_rfl, by kernel_rfl, by kernel_rfl, by decide +kernel, by kernel_rfl, by decide +kernel, by decide +kernel⟩
theorem fs__law_holds (X : K.In base) (G0 : base.Ns mainGlobals mg) (S : SaysL chk dl ts mkd w h0 K) (tabs : ∀ p ∈ tabsOf K mkd, LamX.TabB base mg p.1 p.2) : FnS T G K mg base (tbOf K mkd) "_law_holds" 2 0 false := by
  obtain ⟨fd, F⟩ := saysM_def S.says 46 (d := dd__law_holds) rfl
  have b : Binds K fd [("_law_condition_so" : Str), ("_law_row" : Str)] [] := F.bindsN fun _ _ _ _ _ _ us hl => match us, hl with | [_, _], _ => rfl
  exact ⟨fd__law_holds, _, fd, [("_law_condition_so" : Str), ("_law_row" : Str)], N__law_holds, mu__law_holds, false, 60, _, _, _, _, _, _, _, rfl, rfl, rfl, rfl, He.glo_ok X G0 (fact (saysM_chk S.says) 46 rfl), F.kp, rfl, rfl, fun j h1 h2 => ⟨[], [], b, .nil, fun β H => by
    rw [show (fd__law_holds).dfl = [] from rfl, List.drop_nil]
    exact .nil⟩, F, sc__law_holds, (fun z => by cases z), ok__law_holds⟩
theorem sc__law_bad_condition : FnScope N__law_bad_condition [("_law_state" : Str), ("_law_wide" : Str)] (defScope (top 76)) := ⟨by kernel_rfl, by kernel_rfl, by kernel_rfl, by decide +kernel, by kernel_rfl, by decide +kernel, by decide +kernel⟩
theorem fs__law_bad_condition (X : K.In base) (G0 : base.Ns mainGlobals mg) (S : SaysL chk dl ts mkd w h0 K) (tabs : ∀ p ∈ tabsOf K mkd, LamX.TabB base mg p.1 p.2) : FnS T G K mg base (tbOf K mkd) "_law_bad_condition" 2 0 false := by
  obtain ⟨fd, F⟩ := saysM_def S.says 47 (d := dd__law_bad_condition) rfl
  have b : Binds K fd [("_law_state" : Str), ("_law_wide" : Str)] [] := F.bindsN fun _ _ _ _ _ _ us hl => match us, hl with | [_, _], _ => rfl
  exact ⟨fd__law_bad_condition, _, fd, [("_law_state" : Str), ("_law_wide" : Str)], N__law_bad_condition, mu__law_bad_condition, false, 60, _, _, _, _, _, _, _, rfl, rfl, rfl, rfl, He.glo_ok X G0 (fact (saysM_chk S.says) 47 rfl), F.kp, rfl, rfl, fun j h1 h2 => ⟨[], [], b, .nil, fun β H => by
    rw [show (fd__law_bad_condition).dfl = [] from rfl, List.drop_nil]
    exact .nil⟩, F, sc__law_bad_condition, (fun z => by cases z), ok__law_bad_condition⟩
theorem sc__law_conditions_right : FnScope N__law_conditions_right [("_law_state" : Str), ("_law_wide" : Str)] (defScope (top 77)) := ⟨by kernel_rfl, by kernel_rfl, by kernel_rfl, by decide +kernel, by kernel_rfl, by decide +kernel, by decide +kernel⟩
theorem fs__law_conditions_right (X : K.In base) (G0 : base.Ns mainGlobals mg) (S : SaysL chk dl ts mkd w h0 K) (tabs : ∀ p ∈ tabsOf K mkd, LamX.TabB base mg p.1 p.2) : FnS T G K mg base (tbOf K mkd) "_law_conditions_right" 2 0 true := by
  obtain ⟨fd, F⟩ := saysM_def S.says 48 (d := dd__law_conditions_right) rfl
  have b : Binds K fd [("_law_state" : Str), ("_law_wide" : Str)] [] := F.bindsN fun _ _ _ _ _ _ us hl => match us, hl with | [_, _], _ => rfl
  exact ⟨fd__law_conditions_right, _, fd, [("_law_state" : Str), ("_law_wide" : Str)], N__law_conditions_right, mu__law_conditions_right, true, 60, _, _, _, _, _, _, _, rfl, rfl, rfl, rfl, He.glo_ok X G0 (fact (saysM_chk S.says) 48 rfl), F.kp, rfl, rfl, fun j h1 h2 => ⟨[], [], b, .nil, fun β H => by
    rw [show (fd__law_conditions_right).dfl = [] from rfl, List.drop_nil]
    exact .nil⟩, F, sc__law_conditions_right, fun _ => mk_at S (List.mem_of_getElem? (i := 1) rfl) tabs F, ok__law_conditions_right⟩
theorem sc__law_refused : FnScope N__law_refused [("_law_state" : Str)] (defScope (top 78)) := ⟨by kernel_rfl, by kernel_rfl, by kernel_rfl, by decide +kernel, by kernel_rfl, by decide +kernel, by decide +kernel⟩
theorem fs__law_refused (X : K.In base) (G0 : base.Ns mainGlobals mg) (S : SaysL chk dl ts mkd w h0 K) (tabs : ∀ p ∈ tabsOf K mkd, LamX.TabB base mg p.1 p.2) : FnS T G K mg base (tbOf K mkd) "_law_refused" 1 0 true := by
  obtain ⟨fd, F⟩ := saysM_def S.says 49 (d := dd__law_refused) rfl
  have b : Binds K fd [("_law_state" : Str)] [] := F.bindsN fun _ _ _ _ _ _ us hl => match us, hl with | [_], _ => rfl
  exact ⟨fd__law_refused, _, fd, [("_law_state" : Str)], N__law_refused, mu__law_refused, true, 60, _, _, _, _, _, _, _, rfl, rfl, rfl, rfl, He.glo_ok X G0 (fact (saysM_chk S.says) 49 rfl), F.kp, rfl, rfl, fun j h1 h2 => ⟨[], [], b, .nil, fun β H => by
    rw [show (fd__law_refused).dfl = [] from rfl, List.drop_nil]
    exact .nil⟩, F, sc__law_refused, fun _ => mk_at S (List.mem_of_getElem? (i := 2) rfl) tabs F, ok__law_refused⟩
theorem sc_law : FnScope N_law [("_law_script" : Str)] (defScope (top 79)) := ⟨by kernel_rfl, by kernel_rfl, by kernel_rfl, by decide +kernel, by kernel_rfl, by decide +kernel, by decide +kernel⟩
theorem fs_law (X : K.In base) (G0 : base.Ns mainGlobals mg) (S : SaysL chk dl ts mkd w h0 K) (tabs : ∀ p ∈ tabsOf K mkd, LamX.TabB base mg p.1 p.2) : FnS T G K mg base (tbOf K mkd) "law" 1 0 true := by
  obtain ⟨fd, F⟩ := saysM_def S.says 50 (d := dd_law) rfl
  have b : Binds K fd [("_law_script" : Str)] [] := F.bindsN fun _ _ _ _ _ _ us hl => match us, hl with | [_], _ => rfl
  exact ⟨fd_law, _, fd, [("_law_script" : Str)], N_law, mu_law, false, 60, _, _, _, _, _, _, _, rfl, rfl, rfl, rfl, He.glo_ok X G0 (fact (saysM_chk S.says) 50 rfl), F.kp, rfl, rfl, fun j h1 h2 => ⟨[], [], b, .nil, fun β H => by
    rw [show (fd_law).dfl = [] from rfl, List.drop_nil]
    exact .nil⟩, F, sc_law, (fun z => by cases z), ok_law⟩
theorem sc_BadPiece : FnScope [("self" : Str), ("path" : Str)] [("self" : Str), ("path" : Str)] (defScope (clsSt 2 0)) := ⟨by kernel_rfl, by kernel_rfl, by kernel_rfl, by decide +kernel, by kernel_rfl, by decide +kernel, by decide +kernel⟩
theorem xs_BadPiece {P : Program} (X : K.In h) (G0 : h.Ns mainGlobals mg) (c : obsM chk dl ts K = valM dl ts w) : ∃ (d : FD) (fs : List Str) (fI : Addr) (fd : FuncData) (ps : List Str), T.fn "BadPiece" = some d ∧ d.exc = some fs ∧ fs.length = 1 ∧ mg "BadPiece" = some (.ref (He.ga K "BadPiece")) ∧ OexC K (He.ga K "BadPiece") ∧ PySem.W.findIn K (.ref (He.ga K "BadPiece")) "__init__" = some (some (.ref fI)) ∧ PySem.W.typeIn K (.ref fI) = some (.type "function") ∧
    Binds K fd ps [] ∧ ps.length = fs.length + 1 ∧ fs ≠ [] ∧ fs.Nodup ∧ fs.length ≤ 1000 ∧
    FnOk P w K mg base (L2.CX P w) 1 fI fd ps (fun vs H Q _ => ∃ (a : Addr) (ys : List V), vs = .ref a :: ys ∧ ys.length = fs.length ∧ H a = some (exo a (He.ga K "BadPiece") none) ∧ ∀ dx, H dx = none → dx ≠ a → Q .non (upd (upd H dx (exd dx (fs.zip ys).reverse)) a (exo a (He.ga K "BadPiece") (some dx)))) := by
  obtain ⟨fd, F⟩ := saysM_def c 51 (d := dd_BadPiece) rfl
  obtain ⟨k1, k2, k3, k4, k5, k6⟩ := chk2 (saysM_chk c)
  obtain ⟨x1, x2, x3, x4, x5, x6⟩ := excB_ok (x := "BadPiece") (f := "path") (k3 _ (List.mem_of_getElem? (i := 0) rfl))
  obtain ⟨b1, b2, b3⟩ := baseB_ok k5
  have b : Binds K fd [("self" : Str), ("path" : Str)] [] := F.bindsN fun _ _ _ _ _ _ us hl => match us, hl with | [_, _], _ => rfl
  refine ⟨fd_BadPiece, [("path" : Str)], _, fd, [("self" : Str), ("path" : Str)], rfl, rfl, rfl, He.glo_ok X G0 x6, x1, x4, x5, b, rfl, by simp, by simp, by simp, ?_⟩
  exact init_ok (c := ("PassError" : Str)) (msg := ("not a piece that fits" : Str)) (slf := ("self" : Str)) (B := He.ga K "PassError") (j := 0) (p1 := ⟨7, 8, 7, 17⟩) (p2 := ⟨7, 8, 7, 26⟩) (p3 := ⟨7, 27, 7, 31⟩) (p4 := ⟨7, 33, 7, 56⟩) (p5 := ⟨7, 8, 7, 57⟩) (p6 := ⟨7, 8, 7, 57⟩) (p7 := ⟨8, 8, 8, 12⟩) (p8 := ⟨8, 8, 8, 17⟩) (p9 := ⟨8, 20, 8, 24⟩) (p10 := ⟨8, 8, 8, 24⟩) F sc_BadPiece (by kernel_rfl) (by kernel_rfl) (by kernel_rfl) (by kernel_rfl) (by decide +kernel) (by decide +kernel) (by decide +kernel) (He.glo_ok X G0 (fact (saysM_chk c) 51 rfl)) b1 b2 b3 x1 x3 fun env => ⟨_, rfl⟩
theorem sc_BadProgram : FnScope [("self" : Str), ("place" : Str)] [("self" : Str), ("place" : Str)] (defScope (clsSt 3 0)) := ⟨by kernel_rfl, by kernel_rfl, by kernel_rfl, by decide +kernel, by kernel_rfl, by decide +kernel, by decide +kernel⟩
theorem xs_BadProgram {P : Program} (X : K.In h) (G0 : h.Ns mainGlobals mg) (c : obsM chk dl ts K = valM dl ts w) : ∃ (d : FD) (fs : List Str) (fI : Addr) (fd : FuncData) (ps : List Str), T.fn "BadProgram" = some d ∧ d.exc = some fs ∧ fs.length = 1 ∧ mg "BadProgram" = some (.ref (He.ga K "BadProgram")) ∧ OexC K (He.ga K "BadProgram") ∧ PySem.W.findIn K (.ref (He.ga K "BadProgram")) "__init__" = some (some (.ref fI)) ∧ PySem.W.typeIn K (.ref fI) = some (.type "function") ∧
    Binds K fd ps [] ∧ ps.length = fs.length + 1 ∧ fs ≠ [] ∧ fs.Nodup ∧ fs.length ≤ 1000 ∧
    FnOk P w K mg base (L2.CX P w) 1 fI fd ps (fun vs H Q _ => ∃ (a : Addr) (ys : List V), vs = .ref a :: ys ∧ ys.length = fs.length ∧ H a = some (exo a (He.ga K "BadProgram") none) ∧ ∀ dx, H dx = none → dx ≠ a → Q .non (upd (upd H dx (exd dx (fs.zip ys).reverse)) a (exo a (He.ga K "BadProgram") (some dx)))) := by
  obtain ⟨fd, F⟩ := saysM_def c 52 (d := dd_BadProgram) rfl
  obtain ⟨k1, k2, k3, k4, k5, k6⟩ := chk2 (saysM_chk c)
  obtain ⟨x1, x2, x3, x4, x5, x6⟩ := excB_ok (x := "BadProgram") (f := "place") (k3 _ (List.mem_of_getElem? (i := 1) rfl))
  obtain ⟨b1, b2, b3⟩ := baseB_ok k5
  have b : Binds K fd [("self" : Str), ("place" : Str)] [] := F.bindsN fun _ _ _ _ _ _ us hl => match us, hl with | [_, _], _ => rfl
  refine ⟨fd_BadProgram, [("place" : Str)], _, fd, [("self" : Str), ("place" : Str)], rfl, rfl, rfl, He.glo_ok X G0 x6, x1, x4, x5, b, rfl, by simp, by simp, by simp, ?_⟩
  exact init_ok (c := ("PassError" : Str)) (msg := ("not a program" : Str)) (slf := ("self" : Str)) (B := He.ga K "PassError") (j := 0) (p1 := ⟨12, 8, 12, 17⟩) (p2 := ⟨12, 8, 12, 26⟩) (p3 := ⟨12, 27, 12, 31⟩) (p4 := ⟨12, 33, 12, 48⟩) (p5 := ⟨12, 8, 12, 49⟩) (p6 := ⟨12, 8, 12, 49⟩) (p7 := ⟨13, 8, 13, 12⟩) (p8 := ⟨13, 8, 13, 18⟩) (p9 := ⟨13, 21, 13, 26⟩) (p10 := ⟨13, 8, 13, 26⟩) F sc_BadProgram (by kernel_rfl) (by kernel_rfl) (by kernel_rfl) (by kernel_rfl) (by decide +kernel) (by decide +kernel) (by decide +kernel) (He.glo_ok X G0 (fact (saysM_chk c) 51 rfl)) b1 b2 b3 x1 x3 fun env => ⟨_, rfl⟩
theorem sc_BadGiven : FnScope [("self" : Str), ("value" : Str)] [("self" : Str), ("value" : Str)] (defScope (clsSt 4 0)) := ⟨by kernel_rfl, by kernel_rfl, by kernel_rfl, by decide +kernel, by kernel_rfl, by decide +kernel, by decide +kernel⟩
theorem xs_BadGiven {P : Program} (X : K.In h) (G0 : h.Ns mainGlobals mg) (c : obsM chk dl ts K = valM dl ts w) : ∃ (d : FD) (fs : List Str) (fI : Addr) (fd : FuncData) (ps : List Str), T.fn "BadGiven" = some d ∧ d.exc = some fs ∧ fs.length = 1 ∧ mg "BadGiven" = some (.ref (He.ga K "BadGiven")) ∧ OexC K (He.ga K "BadGiven") ∧ PySem.W.findIn K (.ref (He.ga K "BadGiven")) "__init__" = some (some (.ref fI)) ∧ PySem.W.typeIn K (.ref fI) = some (.type "function") ∧
    Binds K fd ps [] ∧ ps.length = fs.length + 1 ∧ fs ≠ [] ∧ fs.Nodup ∧ fs.length ≤ 1000 ∧
    FnOk P w K mg base (L2.CX P w) 1 fI fd ps (fun vs H Q _ => ∃ (a : Addr) (ys : List V), vs = .ref a :: ys ∧ ys.length = fs.length ∧ H a = some (exo a (He.ga K "BadGiven") none) ∧ ∀ dx, H dx = none → dx ≠ a → Q .non (upd (upd H dx (exd dx (fs.zip ys).reverse)) a (exo a (He.ga K "BadGiven") (some dx)))) := by
  obtain ⟨fd, F⟩ := saysM_def c 53 (d := dd_BadGiven) rfl
  obtain ⟨k1, k2, k3, k4, k5, k6⟩ := chk2 (saysM_chk c)
  obtain ⟨x1, x2, x3, x4, x5, x6⟩ := excB_ok (x := "BadGiven") (f := "value") (k3 _ (List.mem_of_getElem? (i := 2) rfl))
  obtain ⟨b1, b2, b3⟩ := baseB_ok k5
  have b : Binds K fd [("self" : Str), ("value" : Str)] [] := F.bindsN fun _ _ _ _ _ _ us hl => match us, hl with | [_, _], _ => rfl
  refine ⟨fd_BadGiven, [("value" : Str)], _, fd, [("self" : Str), ("value" : Str)], rfl, rfl, rfl, He.glo_ok X G0 x6, x1, x4, x5, b, rfl, by simp, by simp, by simp, ?_⟩
  exact init_ok (c := ("PassError" : Str)) (msg := ("not ten numbers of names" : Str)) (slf := ("self" : Str)) (B := He.ga K "PassError") (j := 0) (p1 := ⟨17, 8, 17, 17⟩) (p2 := ⟨17, 8, 17, 26⟩) (p3 := ⟨17, 27, 17, 31⟩) (p4 := ⟨17, 33, 17, 59⟩) (p5 := ⟨17, 8, 17, 60⟩) (p6 := ⟨17, 8, 17, 60⟩) (p7 := ⟨18, 8, 18, 12⟩) (p8 := ⟨18, 8, 18, 18⟩) (p9 := ⟨18, 21, 18, 26⟩) (p10 := ⟨18, 8, 18, 26⟩) F sc_BadGiven (by kernel_rfl) (by kernel_rfl) (by kernel_rfl) (by kernel_rfl) (by decide +kernel) (by decide +kernel) (by decide +kernel) (He.glo_ok X G0 (fact (saysM_chk c) 51 rfl)) b1 b2 b3 x1 x3 fun env => ⟨_, rfl⟩
theorem sc_BadStanding : FnScope [("self" : Str), ("place" : Str)] [("self" : Str), ("place" : Str)] (defScope (clsSt 5 0)) := ⟨by kernel_rfl, by kernel_rfl, by kernel_rfl, by decide +kernel, by kernel_rfl, by decide +kernel, by decide +kernel⟩
theorem xs_BadStanding {P : Program} (X : K.In h) (G0 : h.Ns mainGlobals mg) (c : obsM chk dl ts K = valM dl ts w) : ∃ (d : FD) (fs : List Str) (fI : Addr) (fd : FuncData) (ps : List Str), T.fn "BadStanding" = some d ∧ d.exc = some fs ∧ fs.length = 1 ∧ mg "BadStanding" = some (.ref (He.ga K "BadStanding")) ∧ OexC K (He.ga K "BadStanding") ∧ PySem.W.findIn K (.ref (He.ga K "BadStanding")) "__init__" = some (some (.ref fI)) ∧ PySem.W.typeIn K (.ref fI) = some (.type "function") ∧
    Binds K fd ps [] ∧ ps.length = fs.length + 1 ∧ fs ≠ [] ∧ fs.Nodup ∧ fs.length ≤ 1000 ∧
    FnOk P w K mg base (L2.CX P w) 1 fI fd ps (fun vs H Q _ => ∃ (a : Addr) (ys : List V), vs = .ref a :: ys ∧ ys.length = fs.length ∧ H a = some (exo a (He.ga K "BadStanding") none) ∧ ∀ dx, H dx = none → dx ≠ a → Q .non (upd (upd H dx (exd dx (fs.zip ys).reverse)) a (exo a (He.ga K "BadStanding") (some dx)))) := by
  obtain ⟨fd, F⟩ := saysM_def c 54 (d := dd_BadStanding) rfl
  obtain ⟨k1, k2, k3, k4, k5, k6⟩ := chk2 (saysM_chk c)
  obtain ⟨x1, x2, x3, x4, x5, x6⟩ := excB_ok (x := "BadStanding") (f := "place") (k3 _ (List.mem_of_getElem? (i := 3) rfl))
  obtain ⟨b1, b2, b3⟩ := baseB_ok k5
  have b : Binds K fd [("self" : Str), ("place" : Str)] [] := F.bindsN fun _ _ _ _ _ _ us hl => match us, hl with | [_, _], _ => rfl
  refine ⟨fd_BadStanding, [("place" : Str)], _, fd, [("self" : Str), ("place" : Str)], rfl, rfl, rfl, He.glo_ok X G0 x6, x1, x4, x5, b, rfl, by simp, by simp, by simp, ?_⟩
  exact init_ok (c := ("PassError" : Str)) (msg := ("not a standing" : Str)) (slf := ("self" : Str)) (B := He.ga K "PassError") (j := 0) (p1 := ⟨22, 8, 22, 17⟩) (p2 := ⟨22, 8, 22, 26⟩) (p3 := ⟨22, 27, 22, 31⟩) (p4 := ⟨22, 33, 22, 49⟩) (p5 := ⟨22, 8, 22, 50⟩) (p6 := ⟨22, 8, 22, 50⟩) (p7 := ⟨23, 8, 23, 12⟩) (p8 := ⟨23, 8, 23, 18⟩) (p9 := ⟨23, 21, 23, 26⟩) (p10 := ⟨23, 8, 23, 26⟩) F sc_BadStanding (by kernel_rfl) (by kernel_rfl) (by kernel_rfl) (by kernel_rfl) (by decide +kernel) (by decide +kernel) (by decide +kernel) (He.glo_ok X G0 (fact (saysM_chk c) 51 rfl)) b1 b2 b3 x1 x3 fun env => ⟨_, rfl⟩
theorem sc_BadJoining : FnScope [("self" : Str), ("value" : Str)] [("self" : Str), ("value" : Str)] (defScope (clsSt 6 0)) := ⟨by kernel_rfl, by kernel_rfl, by kernel_rfl, by decide +kernel, by kernel_rfl, by decide +kernel, by decide +kernel⟩
theorem xs_BadJoining {P : Program} (X : K.In h) (G0 : h.Ns mainGlobals mg) (c : obsM chk dl ts K = valM dl ts w) : ∃ (d : FD) (fs : List Str) (fI : Addr) (fd : FuncData) (ps : List Str), T.fn "BadJoining" = some d ∧ d.exc = some fs ∧ fs.length = 1 ∧ mg "BadJoining" = some (.ref (He.ga K "BadJoining")) ∧ OexC K (He.ga K "BadJoining") ∧ PySem.W.findIn K (.ref (He.ga K "BadJoining")) "__init__" = some (some (.ref fI)) ∧ PySem.W.typeIn K (.ref fI) = some (.type "function") ∧
    Binds K fd ps [] ∧ ps.length = fs.length + 1 ∧ fs ≠ [] ∧ fs.Nodup ∧ fs.length ≤ 1000 ∧
    FnOk P w K mg base (L2.CX P w) 1 fI fd ps (fun vs H Q _ => ∃ (a : Addr) (ys : List V), vs = .ref a :: ys ∧ ys.length = fs.length ∧ H a = some (exo a (He.ga K "BadJoining") none) ∧ ∀ dx, H dx = none → dx ≠ a → Q .non (upd (upd H dx (exd dx (fs.zip ys).reverse)) a (exo a (He.ga K "BadJoining") (some dx)))) := by
  obtain ⟨fd, F⟩ := saysM_def c 55 (d := dd_BadJoining) rfl
  obtain ⟨k1, k2, k3, k4, k5, k6⟩ := chk2 (saysM_chk c)
  obtain ⟨x1, x2, x3, x4, x5, x6⟩ := excB_ok (x := "BadJoining") (f := "value") (k3 _ (List.mem_of_getElem? (i := 4) rfl))
  obtain ⟨b1, b2, b3⟩ := baseB_ok k5
  have b : Binds K fd [("self" : Str), ("value" : Str)] [] := F.bindsN fun _ _ _ _ _ _ us hl => match us, hl with | [_, _], _ => rfl
  refine ⟨fd_BadJoining, [("value" : Str)], _, fd, [("self" : Str), ("value" : Str)], rfl, rfl, rfl, He.glo_ok X G0 x6, x1, x4, x5, b, rfl, by simp, by simp, by simp, ?_⟩
  exact init_ok (c := ("PassError" : Str)) (msg := ("not a joining" : Str)) (slf := ("self" : Str)) (B := He.ga K "PassError") (j := 0) (p1 := ⟨27, 8, 27, 17⟩) (p2 := ⟨27, 8, 27, 26⟩) (p3 := ⟨27, 27, 27, 31⟩) (p4 := ⟨27, 33, 27, 48⟩) (p5 := ⟨27, 8, 27, 49⟩) (p6 := ⟨27, 8, 27, 49⟩) (p7 := ⟨28, 8, 28, 12⟩) (p8 := ⟨28, 8, 28, 18⟩) (p9 := ⟨28, 21, 28, 26⟩) (p10 := ⟨28, 8, 28, 26⟩) F sc_BadJoining (by kernel_rfl) (by kernel_rfl) (by kernel_rfl) (by kernel_rfl) (by decide +kernel) (by decide +kernel) (by decide +kernel) (He.glo_ok X G0 (fact (saysM_chk c) 51 rfl)) b1 b2 b3 x1 x3 fun env => ⟨_, rfl⟩
theorem sc_BadParameter : FnScope [("self" : Str), ("value" : Str)] [("self" : Str), ("value" : Str)] (defScope (clsSt 7 0)) := ⟨by kernel_rfl, by kernel_rfl, by kernel_rfl, by decide +kernel, by kernel_rfl, by decide +kernel, by decide +kernel⟩
theorem xs_BadParameter {P : Program} (X : K.In h) (G0 : h.Ns mainGlobals mg) (c : obsM chk dl ts K = valM dl ts w) : ∃ (d : FD) (fs : List Str) (fI : Addr) (fd : FuncData) (ps : List Str), T.fn "BadParameter" = some d ∧ d.exc = some fs ∧ fs.length = 1 ∧ mg "BadParameter" = some (.ref (He.ga K "BadParameter")) ∧ OexC K (He.ga K "BadParameter") ∧ PySem.W.findIn K (.ref (He.ga K "BadParameter")) "__init__" = some (some (.ref fI)) ∧ PySem.W.typeIn K (.ref fI) = some (.type "function") ∧
    Binds K fd ps [] ∧ ps.length = fs.length + 1 ∧ fs ≠ [] ∧ fs.Nodup ∧ fs.length ≤ 1000 ∧
    FnOk P w K mg base (L2.CX P w) 1 fI fd ps (fun vs H Q _ => ∃ (a : Addr) (ys : List V), vs = .ref a :: ys ∧ ys.length = fs.length ∧ H a = some (exo a (He.ga K "BadParameter") none) ∧ ∀ dx, H dx = none → dx ≠ a → Q .non (upd (upd H dx (exd dx (fs.zip ys).reverse)) a (exo a (He.ga K "BadParameter") (some dx)))) := by
  obtain ⟨fd, F⟩ := saysM_def c 56 (d := dd_BadParameter) rfl
  obtain ⟨k1, k2, k3, k4, k5, k6⟩ := chk2 (saysM_chk c)
  obtain ⟨x1, x2, x3, x4, x5, x6⟩ := excB_ok (x := "BadParameter") (f := "value") (k3 _ (List.mem_of_getElem? (i := 5) rfl))
  obtain ⟨b1, b2, b3⟩ := baseB_ok k5
  have b : Binds K fd [("self" : Str), ("value" : Str)] [] := F.bindsN fun _ _ _ _ _ _ us hl => match us, hl with | [_, _], _ => rfl
  refine ⟨fd_BadParameter, [("value" : Str)], _, fd, [("self" : Str), ("value" : Str)], rfl, rfl, rfl, He.glo_ok X G0 x6, x1, x4, x5, b, rfl, by simp, by simp, by simp, ?_⟩
  exact init_ok (c := ("PassError" : Str)) (msg := ("not a value of this parameter" : Str)) (slf := ("self" : Str)) (B := He.ga K "PassError") (j := 0) (p1 := ⟨32, 8, 32, 17⟩) (p2 := ⟨32, 8, 32, 26⟩) (p3 := ⟨32, 27, 32, 31⟩) (p4 := ⟨32, 33, 32, 64⟩) (p5 := ⟨32, 8, 32, 65⟩) (p6 := ⟨32, 8, 32, 65⟩) (p7 := ⟨33, 8, 33, 12⟩) (p8 := ⟨33, 8, 33, 18⟩) (p9 := ⟨33, 21, 33, 26⟩) (p10 := ⟨33, 8, 33, 26⟩) F sc_BadParameter (by kernel_rfl) (by kernel_rfl) (by kernel_rfl) (by kernel_rfl) (by decide +kernel) (by decide +kernel) (by decide +kernel) (He.glo_ok X G0 (fact (saysM_chk c) 51 rfl)) b1 b2 b3 x1 x3 fun env => ⟨_, rfl⟩
theorem sc_TooGreat : FnScope [("self" : Str), ("most" : Str)] [("self" : Str), ("most" : Str)] (defScope (clsSt 8 0)) := ⟨by kernel_rfl, by kernel_rfl, by kernel_rfl, by decide +kernel, by kernel_rfl, by decide +kernel, by decide +kernel⟩
theorem xs_TooGreat {P : Program} (X : K.In h) (G0 : h.Ns mainGlobals mg) (c : obsM chk dl ts K = valM dl ts w) : ∃ (d : FD) (fs : List Str) (fI : Addr) (fd : FuncData) (ps : List Str), T.fn "TooGreat" = some d ∧ d.exc = some fs ∧ fs.length = 1 ∧ mg "TooGreat" = some (.ref (He.ga K "TooGreat")) ∧ OexC K (He.ga K "TooGreat") ∧ PySem.W.findIn K (.ref (He.ga K "TooGreat")) "__init__" = some (some (.ref fI)) ∧ PySem.W.typeIn K (.ref fI) = some (.type "function") ∧
    Binds K fd ps [] ∧ ps.length = fs.length + 1 ∧ fs ≠ [] ∧ fs.Nodup ∧ fs.length ≤ 1000 ∧
    FnOk P w K mg base (L2.CX P w) 1 fI fd ps (fun vs H Q _ => ∃ (a : Addr) (ys : List V), vs = .ref a :: ys ∧ ys.length = fs.length ∧ H a = some (exo a (He.ga K "TooGreat") none) ∧ ∀ dx, H dx = none → dx ≠ a → Q .non (upd (upd H dx (exd dx (fs.zip ys).reverse)) a (exo a (He.ga K "TooGreat") (some dx)))) := by
  obtain ⟨fd, F⟩ := saysM_def c 57 (d := dd_TooGreat) rfl
  obtain ⟨k1, k2, k3, k4, k5, k6⟩ := chk2 (saysM_chk c)
  obtain ⟨x1, x2, x3, x4, x5, x6⟩ := excB_ok (x := "TooGreat") (f := "most") (k3 _ (List.mem_of_getElem? (i := 6) rfl))
  obtain ⟨b1, b2, b3⟩ := baseB_ok k5
  have b : Binds K fd [("self" : Str), ("most" : Str)] [] := F.bindsN fun _ _ _ _ _ _ us hl => match us, hl with | [_, _], _ => rfl
  refine ⟨fd_TooGreat, [("most" : Str)], _, fd, [("self" : Str), ("most" : Str)], rfl, rfl, rfl, He.glo_ok X G0 x6, x1, x4, x5, b, rfl, by simp, by simp, by simp, ?_⟩
  exact init_ok (c := ("PassError" : Str)) (msg := ("greater than the bound" : Str)) (slf := ("self" : Str)) (B := He.ga K "PassError") (j := 0) (p1 := ⟨37, 8, 37, 17⟩) (p2 := ⟨37, 8, 37, 26⟩) (p3 := ⟨37, 27, 37, 31⟩) (p4 := ⟨37, 33, 37, 57⟩) (p5 := ⟨37, 8, 37, 58⟩) (p6 := ⟨37, 8, 37, 58⟩) (p7 := ⟨38, 8, 38, 12⟩) (p8 := ⟨38, 8, 38, 17⟩) (p9 := ⟨38, 20, 38, 24⟩) (p10 := ⟨38, 8, 38, 24⟩) F sc_TooGreat (by kernel_rfl) (by kernel_rfl) (by kernel_rfl) (by kernel_rfl) (by decide +kernel) (by decide +kernel) (by decide +kernel) (He.glo_ok X G0 (fact (saysM_chk c) 51 rfl)) b1 b2 b3 x1 x3 fun env => ⟨_, rfl⟩
theorem gl_mem {x : Str} {g : GK} (h : G x = some g) : (x, g) ∈ gl := mem_look2 h
def xcl : List (Str × Nat) := [(("BadPiece" : Str), 1), (("BadProgram" : Str), 1), (("BadGiven" : Str), 1), (("BadStanding" : Str), 1), (("BadJoining" : Str), 1), (("BadParameter" : Str), 1), (("TooGreat" : Str), 1)]
theorem all_cons {α : Type} {P : α → Prop} {a : α} {l : List α} (h : P a) (hs : ∀ x ∈ l, P x) : ∀ x ∈ a :: l, P x := fun x hx => by
  rcases List.mem_cons.mp hx with e | e
  · subst e; exact h
  · exact hs x e
theorem all_nil {α : Type} {P : α → Prop} : ∀ x ∈ ([] : List α), P x := fun _ h => absurd h (List.not_mem_nil)
def QG (w : World) (K : PySem.W.Frag) (mg : Str → Option Value) (base : Heap) (p : Str × GK) : Prop := match p.2 with
  | .fn np nd rp => FnS T G K mg base (tbOf K mkd) p.1 np nd rp
  | .lam rp => FnL T G K mg p.1 rp
  | .exc nf => (p.1, nf) ∈ xcl ∧ mg p.1 = some (.ref (He.ga K p.1))
  | .cls => mg p.1 = some (.ref (He.ga K p.1))
  | .con d => ∃ u v, mg p.1 = some u ∧ RelV v u ∧ ∀ β H, DP K β H d v
  | .tbl kvs => ∃ d, mg p.1 = some (.ref d) ∧ TblAt K w d kvs
  | .blt => mg p.1 = none
theorem gl_all (X : K.In base) (G0 : base.Ns mainGlobals mg) (S : SaysL chk dl ts mkd w h0 K) (tabs : ∀ p ∈ tabsOf K mkd, LamX.TabB base mg p.1 p.2) : ∀ p ∈ gl, QG w K mg base p := by
  have c := S.says
  have hc := saysM_chk c
  obtain ⟨k1, k2, k3, k4, k5, k6⟩ := chk2 hc
  unfold gl
  refine all_cons (fs_is_from X G0 S tabs) ?_
  refine all_cons (fs_is_name X G0 S tabs) ?_
  refine all_cons (fs_are_names X G0 S tabs) ?_
  refine all_cons (fs_need_given X G0 S tabs) ?_
  refine all_cons (fs_is_branch X G0 S tabs) ?_
  refine all_cons (fs_is_row_prefix X G0 S tabs) ?_
  refine all_cons (fs_has_shape X G0 S tabs) ?_
  refine all_cons (fs_inside X G0 S tabs) ?_
  refine all_cons (fs_fits X G0 S tabs) ?_
  refine all_cons (fs_checked X G0 S tabs) ?_
  refine all_cons (fs_is_head X G0 S tabs) ?_
  refine all_cons (fs_gone_through X G0 S tabs) ?_
  refine all_cons (fs_need_program X G0 S tabs) ?_
  refine all_cons (fs_free_in X G0 S tabs) ?_
  refine all_cons (fs_listed_in X G0 S tabs) ?_
  refine all_cons (fs_listed X G0 S tabs) ?_
  refine all_cons (fs_piece_at X G0 S tabs) ?_
  refine all_cons (fs_is_path X G0 S tabs) ?_
  refine all_cons (fs_is_active X G0 S tabs) ?_
  refine all_cons (fs_fresh_number X G0 S tabs) ?_
  refine all_cons (fs_with_number X G0 S tabs) ?_
  refine all_cons (fs_opened_part X G0 S tabs) ?_
  refine all_cons (fs_settled_row X G0 S tabs) ?_
  refine all_cons (fs_need_bounds X G0 S tabs) ?_
  refine all_cons (fs_started X G0 S tabs) ?_
  refine all_cons (fs_start X G0 S tabs) ?_
  refine all_cons (fs_active_part X G0 S tabs) ?_
  refine all_cons (fs_is_thread X G0 S tabs) ?_
  refine all_cons (fs_is_natural X G0 S tabs) ?_
  refine all_cons (fs_need_standing X G0 S tabs) ?_
  refine all_cons (fs_is_joining X G0 S tabs) ?_
  refine all_cons (fs_need_joining X G0 S tabs) ?_
  refine all_cons (fs_all_joinings X G0 S tabs) ?_
  refine all_cons (fs_joined X G0 S tabs) ?_
  refine all_cons (fs_is_condition X G0 S tabs) ?_
  refine all_cons (fs_holds_joined X G0 S tabs) ?_
  refine all_cons (fs__law_mixed X G0 S tabs) ?_
  refine all_cons (fs__law_begin X G0 S tabs) ?_
  refine all_cons (fs__law_draw X G0 S tabs) ?_
  refine all_cons (fs__law_of X G0 S tabs) ?_
  refine all_cons (fs__law_like X G0 S tabs) ?_
  refine all_cons (fs__law_all X G0 S tabs) ?_
  refine all_cons (fs__law_is_joining X G0 S tabs) ?_
  refine all_cons (fl__law_caught X G0 S tabs) ?_
  refine all_cons (fs__law_needed_right X G0 S tabs) ?_
  refine all_cons (fs__law_condition X G0 S tabs) ?_
  refine all_cons (fs__law_holds X G0 S tabs) ?_
  refine all_cons (fs__law_bad_condition X G0 S tabs) ?_
  refine all_cons (fs__law_conditions_right X G0 S tabs) ?_
  refine all_cons (fs__law_refused X G0 S tabs) ?_
  refine all_cons (fs_law X G0 S tabs) ?_
  refine all_cons (⟨by decide +kernel, He.glo_ok X G0 (excB_ok (k3 _ (List.mem_of_getElem? (i := 0) rfl))).2.2.2.2.2⟩) ?_
  refine all_cons (⟨by decide +kernel, He.glo_ok X G0 (excB_ok (k3 _ (List.mem_of_getElem? (i := 1) rfl))).2.2.2.2.2⟩) ?_
  refine all_cons (⟨by decide +kernel, He.glo_ok X G0 (excB_ok (k3 _ (List.mem_of_getElem? (i := 2) rfl))).2.2.2.2.2⟩) ?_
  refine all_cons (⟨by decide +kernel, He.glo_ok X G0 (excB_ok (k3 _ (List.mem_of_getElem? (i := 3) rfl))).2.2.2.2.2⟩) ?_
  refine all_cons (⟨by decide +kernel, He.glo_ok X G0 (excB_ok (k3 _ (List.mem_of_getElem? (i := 4) rfl))).2.2.2.2.2⟩) ?_
  refine all_cons (⟨by decide +kernel, He.glo_ok X G0 (excB_ok (k3 _ (List.mem_of_getElem? (i := 5) rfl))).2.2.2.2.2⟩) ?_
  refine all_cons (⟨by decide +kernel, He.glo_ok X G0 (excB_ok (k3 _ (List.mem_of_getElem? (i := 6) rfl))).2.2.2.2.2⟩) ?_
  refine all_cons (He.glo_ok X G0 (fact hc 51 rfl)) ?_
  refine all_cons (conB_ok X G0 (k1 _ (List.mem_of_getElem? (i := 0) rfl))) ?_
  refine all_cons (conB_ok X G0 (k1 _ (List.mem_of_getElem? (i := 1) rfl))) ?_
  refine all_cons (conB_ok X G0 (k1 _ (List.mem_of_getElem? (i := 2) rfl))) ?_
  refine all_cons (conB_ok X G0 (k1 _ (List.mem_of_getElem? (i := 3) rfl))) ?_
  refine all_cons (conB_ok X G0 (k1 _ (List.mem_of_getElem? (i := 4) rfl))) ?_
  refine all_cons (conB_ok X G0 (k1 _ (List.mem_of_getElem? (i := 5) rfl))) ?_
  refine all_cons (conB_ok X G0 (k1 _ (List.mem_of_getElem? (i := 6) rfl))) ?_
  refine all_cons (conB_ok X G0 (k1 _ (List.mem_of_getElem? (i := 7) rfl))) ?_
  refine all_cons (conB_ok X G0 (k1 _ (List.mem_of_getElem? (i := 8) rfl))) ?_
  refine all_cons (conB_ok X G0 (k1 _ (List.mem_of_getElem? (i := 9) rfl))) ?_
  refine all_cons (conB_ok X G0 (k1 _ (List.mem_of_getElem? (i := 10) rfl))) ?_
  refine all_cons (conB_ok X G0 (k1 _ (List.mem_of_getElem? (i := 11) rfl))) ?_
  refine all_cons (conB_ok X G0 (k1 _ (List.mem_of_getElem? (i := 12) rfl))) ?_
  refine all_cons (conB_ok X G0 (k1 _ (List.mem_of_getElem? (i := 13) rfl))) ?_
  refine all_cons (conB_ok X G0 (k1 _ (List.mem_of_getElem? (i := 14) rfl))) ?_
  refine all_cons (He.free_ok X G0 (fact hc 52 rfl)) ?_
  refine all_cons (He.free_ok X G0 (fact hc 53 rfl)) ?_
  refine all_cons (He.free_ok X G0 (fact hc 54 rfl)) ?_
  refine all_cons (He.free_ok X G0 (fact hc 55 rfl)) ?_
  refine all_cons (He.free_ok X G0 (fact hc 56 rfl)) ?_
  refine all_cons (He.free_ok X G0 (fact hc 57 rfl)) ?_
  refine all_cons (He.free_ok X G0 (fact hc 58 rfl)) ?_
  refine all_cons (He.free_ok X G0 (fact hc 59 rfl)) ?_
  refine all_cons (He.free_ok X G0 (fact hc 60 rfl)) ?_
  refine all_cons (He.free_ok X G0 (fact hc 61 rfl)) ?_
  refine all_cons (He.free_ok X G0 (fact hc 62 rfl)) ?_
  refine all_cons (He.free_ok X G0 (fact hc 63 rfl)) ?_
  refine all_cons (He.free_ok X G0 (fact hc 64 rfl)) ?_
  refine all_cons (He.free_ok X G0 (fact hc 65 rfl)) ?_
  refine all_cons (He.free_ok X G0 (fact hc 66 rfl)) ?_
  refine all_cons (He.free_ok X G0 (fact hc 67 rfl)) ?_
  exact all_nil
theorem gfs {P : Program} (X : K.In base) (G0 : base.Ns mainGlobals mg) (S : SaysL chk dl ts mkd w h0 K) (tabs : ∀ p ∈ tabsOf K mkd, LamX.TabB base mg p.1 p.2) : GFS T G (He.ga K) P w K mg base (tbOf K mkd) := by
  have c := S.says
  have hc := saysM_chk c
  obtain ⟨k1, k2, k3, k4, k5, k6⟩ := chk2 hc
  have key := gl_all X G0 S tabs
  refine ⟨fun x g hg => ?_, fun x np nd rp hg => key _ (gl_mem hg), fun x rp hg => key _ (gl_mem hg), fun x nf hg => ?_, fun x d hg => key _ (gl_mem hg), fun x kvs hg => key _ (gl_mem hg), fun x hg => key _ (gl_mem hg), fun x hg => ?_, fun x f hf => ?_, fun x y b hb => ?_⟩
  · have := gl_mem hg
    have key : ∀ p ∈ gl, (p.1 == ("__debug__" : Str)) = false ∧ p.1 ≠ "__name__" := by decide +kernel
    exact key _ this
  · have hm : (x, nf) ∈ xcl := (show QG w K mg base (x, .exc nf) from key _ (gl_mem hg)).1
    simp only [xcl, List.mem_cons, Prod.mk.injEq, List.not_mem_nil, or_false] at hm
    rcases hm with ⟨rfl, rfl⟩ | ⟨rfl, rfl⟩ | ⟨rfl, rfl⟩ | ⟨rfl, rfl⟩ | ⟨rfl, rfl⟩ | ⟨rfl, rfl⟩ | ⟨rfl, rfl⟩
    · exact xs_BadPiece X G0 c
    · exact xs_BadProgram X G0 c
    · exact xs_BadGiven X G0 c
    · exact xs_BadStanding X G0 c
    · exact xs_BadJoining X G0 c
    · exact xs_BadParameter X G0 c
    · exact xs_TooGreat X G0 c
  · rcases hg with hg | ⟨nf, hg⟩
    · exact key _ (gl_mem hg)
    · exact (show QG w K mg base (x, .exc nf) from key _ (gl_mem hg)).2
  · have hm : (x, f) ∈ el := List.contains_iff_mem.mp hf
    simp only [el, List.mem_cons, Prod.mk.injEq, List.not_mem_nil, or_false] at hm
    rcases hm with ⟨rfl, rfl⟩ | ⟨rfl, rfl⟩ | ⟨rfl, rfl⟩ | ⟨rfl, rfl⟩ | ⟨rfl, rfl⟩ | ⟨rfl, rfl⟩ | ⟨rfl, rfl⟩
    · exact ⟨(excB_ok (k3 _ (List.mem_of_getElem? (i := 0) rfl))).2.1, (excB_ok (k3 _ (List.mem_of_getElem? (i := 0) rfl))).2.2.1⟩
    · exact ⟨(excB_ok (k3 _ (List.mem_of_getElem? (i := 1) rfl))).2.1, (excB_ok (k3 _ (List.mem_of_getElem? (i := 1) rfl))).2.2.1⟩
    · exact ⟨(excB_ok (k3 _ (List.mem_of_getElem? (i := 2) rfl))).2.1, (excB_ok (k3 _ (List.mem_of_getElem? (i := 2) rfl))).2.2.1⟩
    · exact ⟨(excB_ok (k3 _ (List.mem_of_getElem? (i := 3) rfl))).2.1, (excB_ok (k3 _ (List.mem_of_getElem? (i := 3) rfl))).2.2.1⟩
    · exact ⟨(excB_ok (k3 _ (List.mem_of_getElem? (i := 4) rfl))).2.1, (excB_ok (k3 _ (List.mem_of_getElem? (i := 4) rfl))).2.2.1⟩
    · exact ⟨(excB_ok (k3 _ (List.mem_of_getElem? (i := 5) rfl))).2.1, (excB_ok (k3 _ (List.mem_of_getElem? (i := 5) rfl))).2.2.1⟩
    · exact ⟨(excB_ok (k3 _ (List.mem_of_getElem? (i := 6) rfl))).2.1, (excB_ok (k3 _ (List.mem_of_getElem? (i := 6) rfl))).2.2.1⟩
  · have hm : ((x, y), b) ∈ il := mem_look2 hb
    have kk : ∀ p ∈ il, (p.1.1, p.1.2, p.2) ∈ icl := by decide +kernel
    exact isCB_ok (k6 _ (kk _ hm))
end
end MN.Q

set_option maxRecDepth 100000
set_option maxHeartbeats 0
/-! the head. -/
namespace MN.Q
open PySem PySem.Spec PyProof.Rows L2
/-- the row, from the evaluator's equation: n bounds the depth of calls -/
theorem holds_of (n : Nat) (hn : Room (n + 1 + 2) callerA) (E : ∀ ns : List Int, ns.length ≤ 63 → ∃ m, (cxt T (n + 1)).call "law" [.d (.list (ns.map PyData.int))] [] = .ok (.d (.bool true)) m) : PySem.Challenge.rw_passednames_k12_joinings_and_conditions.Holds := by
  w_on; o_law
  refine HandSHeadRun.head_any (r := R) (q := PySem.W.view R.prog [79]) (H := hk) (ob := ob) (M := 4000) (loose := loose) (d := HandSHeadRun.topDef R.prog 79) (kwd := []) ob_eq
    (by kernel_rfl) (fun s => by kernel_rfl) run (by kernel_rfl) (by kernel_rfl) (by kernel_rfl) (by rfl) (by first | assumption | decide +kernel) (by decide +kernel) ⟨rfl, rfl, rfl, rfl, rfl, by decide +kernel⟩ ?hw ?hc
  case hw => w_witness2
  case hc =>
    refine walk_ofG (l := PySem.Challenge.rw_passednames_k12_joinings_and_conditions) (n := 63) (k := n + 1 + 2) (x := ("_law_script" : Str)) rfl (by rw [sizeLine_eq]; decide) (by kernel_rfl) hn ?_
    intro w mg fa0 h Y G0 hmg0
    obtain ⟨K, S⟩ := Y
    have KX := S.at_
    have c := S.says
    have hmg : mg ("law" : Str) = some (.ref fa0) := by
      have e : (HandSHeadRun.topDef R.prog 79).name = ("law" : Str) := by kernel_rfl
      rw [← e]
      exact hmg0
    obtain ⟨fd, F⟩ := saysM_def c 50 (d := dd_law) rfl
    have e := hmg.symm.trans (He.glo_ok KX G0 (fact (saysM_chk c) 50 rfl))
    cases e
    have b := FunD.bindsA (ps := [("_law_script" : Str)]) F fun _ _ _ _ _ _ us hl => match us, hl with | [_], _ => rfl
    obtain ⟨k1, k2, k3, k4, k5, k6⟩ := chk2 (saysM_chk c)
    refine ⟨K, fd, spF T ⟨tbOf K mkd, none, none⟩ (He.ga K) K 1 (n + 1) "law", true, tabsOf K mkd, KX, noList_ok k4, fun p hp => (S.tab p hp).1, fun p hp => (S.tab p hp).2.1, fun p hp => (S.tab p hp).2.2, fun s v => b s [v] rfl, fun a ob ns hl aT => ?_, fun base hK hN tabs => ?_⟩
    · obtain ⟨m, e⟩ := E ns hl
      refine ⟨rfl, ⟨[], [], none, none⟩, [], [.d (.list (ns.map PyData.int))], rep_start aT, .cons (.lst (fun z => by rcases z with z | z <;> cases z) (.inr ⟨_, onlyH_at⟩) (dps_ints ns)) .nil, ?_⟩
      rw [e]
      intro δ H1 v g r q
      cases (show DP K _ H1 (.bool true) v from q)
      rfl
    · have gf := gf_all (gfs (P := (PySem.Challenge.rw_passednames_k12_joinings_and_conditions).prog) (w := w) (base := base) hK hN S tabs) n
      exact fn_ok (TT := ⟨tbOf K mkd, none, none⟩) (d := fd_law) (ps := [("_law_script" : Str)]) F sc_law rfl rfl rfl rfl rfl gf (fun z => by cases z) ok_law
end MN.Q

set_option maxRecDepth 100000
set_option maxHeartbeats 4000000
/-! MnEq: the evaluator's equations, to be used by simp. -/
namespace MN
open PySem

section
variable {α β : Type} {cx : Cxt} {ρ : Fr} {m : Store}
theorem b_ok {a : α} {f : α → Store → R β} : (R.ok a m).bind f = f a m := rfl
theorem b_ex {e : Exc} {f : α → Store → R β} : (R.ex e m : R α).bind f = .ex e m := rfl
theorem s_nx {f : Fr → Store → RS} : (RS.nx ρ m).seq f = f ρ m := rfl
theorem s_rt {v : Val} {f : Fr → Store → RS} : (RS.rt v m).seq f = .rt v m := rfl
theorem s_ex {e : Exc} {f : Fr → Store → RS} : (RS.ex e ρ m).seq f = .ex e ρ m := rfl
theorem s_bk {f : Fr → Store → RS} : (RS.bk ρ m).seq f = .bk ρ m := rfl
theorem s_ct {f : Fr → Store → RS} : (RS.ct ρ m).seq f = .ct ρ m := rfl
theorem o_ok {a : α} {f : α → Store → RS} : RS.of (.ok a m) ρ f = f a m := rfl
theorem o_ex {e : Exc} {m' : Store} {f : α → Store → RS} : RS.of (.ex e m' : R α) ρ f = .ex e ρ m' := rfl
theorem t_nx {f : Fr → Store → RS} : (RS.nx ρ m).turn f = f ρ m := rfl
theorem t_ct {f : Fr → Store → RS} : (RS.ct ρ m).turn f = f ρ m := rfl
theorem t_bk {f : Fr → Store → RS} : (RS.bk ρ m).turn f = .nx ρ m := rfl
theorem t_rt {v : Val} {f : Fr → Store → RS} : (RS.rt v m).turn f = .rt v m := rfl
theorem t_ex {e : Exc} {f : Fr → Store → RS} : (RS.ex e ρ m).turn f = .ex e ρ m := rfl
/-- .. none: no answer -/
def ofO (o : Option PyData) (m : Store) : R Val := match o with
  | some x => .ok (.d x) m
  | none => .no
theorem ofO_s {x : PyData} : ofO (some x) m = .ok (.d x) m := rfl
def ofV (o : Option Val) (m : Store) : R Val := match o with
  | some x => .ok x m
  | none => .no
theorem ofV_s {x : Val} : ofV (some x) m = .ok x m := rfl
def ofB (o : Option Bool) (m : Store) : R Bool := match o with
  | some x => .ok x m
  | none => .no
theorem ofB_s {x : Bool} : ofB (some x) m = .ok x m := rfl
def getV (o : Option (Option SV)) (m : Store) : R Val := match o with
  | some (some (.v v)) => .ok v m
  | _ => .no
theorem getV_s {v : Val} : getV (some (some (.v v))) m = .ok v m := rfl
def okIf (c : Prop) [Decidable c] (v : Val) (m : Store) : R Val := if c then .ok v m else .no
theorem okIf_t {c : Prop} [Decidable c] {v : Val} (h : c) : okIf c v m = .ok v m := if_pos h
theorem okIf_T {i : Decidable True} {v : Val} : @okIf True i v m = .ok v m := if_pos trivial
def okTup (o : Option (List PyData)) (m : Store) : R Val := match o with
  | some ds => okIf (ds.length ≤ 1000) (.d (.tuple ds)) m
  | none => .no
def okLst (o : Option (List PyData)) (m : Store) : R Val := match o with
  | some ds => okIf (ds.length ≤ 1000) (.d (.list ds)) m
  | none => .no
def okNl (o : Option (List PyData)) (m : Store) : R Val := match o with
  | some ds => if ds.length ≤ 1000 then .ok (.loc m.length) (m ++ [.lst ds]) else .no
  | none => .no
theorem okTup_s {ds : List PyData} : okTup (some ds) m = okIf (ds.length ≤ 1000) (.d (.tuple ds)) m := rfl
theorem okLst_s {ds : List PyData} : okLst (some ds) m = okIf (ds.length ≤ 1000) (.d (.list ds)) m := rfl
theorem okNl_s {ds : List PyData} (h : ds.length ≤ 1000) : okNl (some ds) m = .ok (.loc m.length) (m ++ [.lst ds]) := if_pos h
theorem datas_nil : datas? [] = some [] := rfl
def cons? (x : PyData) (o : Option (List PyData)) : Option (List PyData) := match o with
  | some xs => some (x :: xs)
  | none => none
theorem cons_s {x : PyData} {xs : List PyData} : cons? x (some xs) = some (x :: xs) := rfl
theorem datas_cons {x : PyData} {vs : List Val} : datas? (.d x :: vs) = cons? x (datas? vs) := by
  show (match (Val.d x).data?, datas? vs with
    | some x, some xs => some (x :: xs)
    | _, _ => none) = _
  cases datas? vs <;> rfl
theorem e_var {i : Nat} : evE cx (.var i) ρ m = getV ρ[i]? m := by
  rw [evE]
  cases ρ[i]? with
  | none => rfl
  | some o => cases o with
    | none => rfl
    | some s => cases s <;> rfl
theorem e_cst {d : PyData} : evE cx (.cst d) ρ m = .ok (.d d) m := by rw [evE]
theorem e_tup {es : List CE} : evE cx (.tup es) ρ m = (evEs cx es ρ m).bind fun vs m => okTup (datas? vs) m := by
  rw [evE] <;> congr 1
theorem e_lst {es : List CE} : evE cx (.lst es) ρ m = (evEs cx es ρ m).bind fun vs m => okLst (datas? vs) m := by
  rw [evE] <;> congr 1
theorem e_nlst {es : List CE} : evE cx (.nlst es) ρ m = (evEs cx es ρ m).bind fun vs m => okNl (datas? vs) m := by
  rw [evE] <;> congr 1
theorem e_op {o : BinOp} {a b : CE} : evE cx (.op o a b) ρ m = (evE cx a ρ m).bind fun x m => (evE cx b ρ m).bind fun y m => bin o x y m := by rw [evE]
def negV (x : Val) (m : Store) : R Val := match x with
    | .d (.int i) => .ok (.d (.int (-i))) m
    | _ => .no
theorem negV_i {i : Int} : negV (.d (.int i)) m = .ok (.d (.int (-i))) m := rfl
theorem e_neg {a : CE} : evE cx (.neg a) ρ m = (evE cx a ρ m).bind negV := by
  rw [evE] <;> rfl
theorem e_cmp {o : CmpO} {a b : CE} : evE cx (.cmp o a b) ρ m = (evE cx a ρ m).bind fun x m => (evE cx b ρ m).bind fun y m => cmp o x y m := by rw [evE]
/-- behind a test's first part: t where it is true, else f -/
def brV (x : Val) (m : Store) (t f : R Val) : R Val := match x with
    | .d (.bool true) => t
    | .d (.bool false) => f
    | _ => .no
theorem brV_t {t f : R Val} : brV (.d (.bool true)) m t f = t := rfl
theorem brV_f {t f : R Val} : brV (.d (.bool false)) m t f = f := rfl
theorem e_chain {o o' : CmpO} {a b c : CE} : evE cx (.chain o o' a b c) ρ m = (evE cx a ρ m).bind fun x m => (evE cx b ρ m).bind fun y m => (cmp o x y m).bind fun z m => brV z m ((evE cx c ρ m).bind fun w m => cmp o' y w m) (.ok (.d (.bool false)) m) := by
  rw [evE] <;> rfl
theorem e_and {a b : CE} : evE cx (.and a b) ρ m = (evE cx a ρ m).bind fun x m => brV x m (evE cx b ρ m) (.ok (.d (.bool false)) m) := by
  rw [evE] <;> rfl
theorem e_or {a b : CE} : evE cx (.or a b) ρ m = (evE cx a ρ m).bind fun x m => brV x m (.ok (.d (.bool true)) m) (evE cx b ρ m) := by
  rw [evE]
  congr 1
  funext x m
  cases x with
  | loc => rfl
  | d x => cases x with
    | bool b => cases b <;> rfl
    | _ => rfl
def notV (x : Val) (m : Store) : R Val := match x with
    | .d (.bool c) => .ok (.d (.bool (!c))) m
    | _ => .no
theorem notV_b {c : Bool} : notV (.d (.bool c)) m = .ok (.d (.bool (!c))) m := rfl
theorem e_not {a : CE} : evE cx (.not a) ρ m = (evE cx a ρ m).bind notV := by
  rw [evE] <;> rfl
theorem e_ite {c a b : CE} : evE cx (.ite c a b) ρ m = (evT cx c ρ m).bind fun k m => if k then evE cx a ρ m else evE cx b ρ m := by rw [evE]
theorem e_call {f : Str} {es : List CE} : evE cx (.call f es) ρ m = (evEs cx es ρ m).bind fun vs m => cx.call f vs m := by rw [evE]
theorem e_bi {b : Bi} {es : List CE} : evE cx (.bi b es) ρ m = (evEs cx es ρ m).bind fun vs m => bi b vs m := by rw [evE]
theorem e_bloc {b : Bi} {es : List CE} : evE cx (.bloc b es) ρ m = (evEs cx es ρ m).bind fun vs m => bloc b vs m := by rw [evE]
theorem e_mt {k : Mt} {o : CE} {es : List CE} : evE cx (.mt k o es) ρ m = (evE cx o ρ m).bind fun x m => if mtOk k x m = true then (evEs cx es ρ m).bind fun vs m => mt k x vs m else .no := by rw [evE]
theorem e_idx {o i : CE} : evE cx (.idx o i) ρ m = (evE cx o ρ m).bind fun x m => (evE cx i ρ m).bind fun y m => idx x y m := by rw [evE]
theorem e_gidx {t : List (Ky × PyData)} {i : CE} : evE cx (.gidx t i) ρ m = (evE cx i ρ m).bind fun y m => gidx t y m := by rw [evE]
theorem e_gin {n : Bool} {t : List (Ky × PyData)} {i : CE} : evE cx (.gin n t i) ρ m = (evE cx i ρ m).bind fun y m => gin n t y m := by rw [evE]
theorem e_sl {o : CE} {lo hi : List CE} : evE cx (.sl o lo hi) ρ m = (evE cx o ρ m).bind fun x m => (toPart (evEs cx lo ρ m)).bind fun l m => (toPart (evEs cx hi ρ m)).bind fun h m => slice x l h m := by rw [evE]
theorem part_0 : toPart (.ok [] m) = .ok none m := rfl
theorem part_1 {i : Int} : toPart (.ok [.d (.int i)] m) = .ok (some i) m := rfl
/-- one turn of a comprehension -/
def compF (cx : Cxt) (t : CT) (own : List Nat) (ifs : List CE) (elt : CE) (ρ : Fr) (x : PyData) (m : Store) : R (Option PyData) := match asg t (.d x) (wipe ρ own) with
      | none => .no
      | some ρ1 => noEx ((evTs cx ifs ρ1 m).bind fun b m => if b then (evE cx elt ρ1 m).bind fun y m => (match y with
        | .d y => .ok (some y) m
        | .loc _ => .no) else .ok none m)
def compW (f : PyData → Store → R (Option PyData)) (w : Wk) (m : Store) : R (List PyData) := match w with
    | .items xs => loopC f xs [] m
    | .dyn n fuel => loopCD f n fuel 0 [] m
    | .no => .no
theorem compW_items {f : PyData → Store → R (Option PyData)} {xs : List PyData} : compW f (.items xs) m = loopC f xs [] m := rfl
def compZ (nl : Bool) (ys : List PyData) (m : Store) : R Val := if nl then .ok (.loc m.length) (m ++ [MO.lst ys]) else .ok (.d (.list ys)) m
theorem compZ_t {ys : List PyData} : compZ true ys m = .ok (.loc m.length) (m ++ [MO.lst ys]) := rfl
theorem compZ_f {ys : List PyData} : compZ false ys m = .ok (.d (.list ys)) m := rfl
theorem e_comp {nl : Bool} {k : ItK} {its : List CE} {t : CT} {own : List Nat} {ifs : List CE} {elt : CE} : evE cx (.comp nl k its t own ifs elt) ρ m = (evEs cx its ρ m).bind fun vs m => (compW (compF cx t own ifs elt ρ) (walk k vs m) m).bind (compZ nl) := by
  rw [evE] <;> rfl
def optD (y : Val) (m : Store) : R (Option PyData) := match y with
        | .d y => .ok (some y) m
        | .loc _ => .no
theorem optD_d {y : PyData} : optD (.d y) m = .ok (some y) m := rfl
theorem compF_eq {t : CT} {own : List Nat} {ifs : List CE} {elt : CE} {x : PyData} {ρ1 : Fr} (h : asg t (.d x) (wipe ρ own) = some ρ1) : compF cx t own ifs elt ρ x m = noEx ((evTs cx ifs ρ1 m).bind fun b m => if b then (evE cx elt ρ1 m).bind optD else .ok none m) := by
  unfold compF
  rw [h]
  rfl
theorem noEx_ok {a : α} : noEx (R.ok a m) = .ok a m := rfl
def mkDic (ks : List Ky) (vs : List Val) (m : Store) : R Val := if ks.length = vs.length ∧ vs.length ≤ 15 then .ok (.loc m.length) (m ++ [.dic ((ks.zip vs).foldl (fun kvs p => putK kvs p.1 p.2) [])]) else .no
theorem e_ndic {ks : List Ky} {es : List CE} : evE cx (.ndic ks es) ρ m = (noEx (evEs cx es ρ m)).bind fun vs m => mkDic ks vs m := by
  rw [evE] <;> rfl
theorem e_fld {i : Nat} {f : Str} {e : Exc} {x : PyData} (h : ρ[i]? = some (some (.err e))) (h1 : cx.ef e.cls f = true) (h2 : e.fs.lookup f = some x) : evE cx (.fld i f) ρ m = .ok (.d x) m := by
  rw [evE, h]
  simp only [h1, if_true, h2]
/-! tests -/
theorem p_and {a b : CE} : evT cx (.and a b) ρ m = (evT cx a ρ m).bind fun x m => if x then evT cx b ρ m else .ok false m := by rw [evT]
theorem p_or {a b : CE} : evT cx (.or a b) ρ m = (evT cx a ρ m).bind fun x m => if x then .ok true m else evT cx b ρ m := by rw [evT]
theorem p_not {a : CE} : evT cx (.not a) ρ m = (evT cx a ρ m).bind fun x m => .ok (!x) m := by rw [evT]
def boolV (v : Val) (m : Store) : R Bool := match v with
    | .d (.bool c) => .ok c m
    | _ => .no
theorem boolV_b {c : Bool} : boolV (.d (.bool c)) m = .ok c m := rfl
theorem p_cmp {o : CmpO} {a b : CE} : evT cx (.cmp o a b) ρ m = (evE cx (.cmp o a b) ρ m).bind boolV := by
  rw [evT, evE] <;> rfl
theorem p_chain {o o' : CmpO} {a b c : CE} : evT cx (.chain o o' a b c) ρ m = (evE cx (.chain o o' a b c) ρ m).bind boolV := by
  rw [evT, evE] <;> rfl
theorem p_gin {n : Bool} {t : List (Ky × PyData)} {i : CE} : evT cx (.gin n t i) ρ m = (evE cx (.gin n t i) ρ m).bind boolV := by
  rw [evT, evE] <;> rfl
theorem p_tst {a : CE} : evT cx (.tst a) ρ m = (evE cx a ρ m).bind fun v m => ofB (truth v m) m := by
  rw [evT] <;> congr 1
theorem es_nil : evEs cx [] ρ m = .ok [] m := by rw [evEs]
theorem es_cons {e : CE} {es : List CE} : evEs cx (e :: es) ρ m = (evE cx e ρ m).bind fun v m => (evEs cx es ρ m).bind fun vs m => .ok (v :: vs) m := by rw [evEs]
theorem ts_nil : evTs cx [] ρ m = .ok true m := by rw [evTs]
theorem ts_cons {e : CE} {es : List CE} : evTs cx (e :: es) ρ m = (evT cx e ρ m).bind fun b m => if b then evTs cx es ρ m else .ok false m := by rw [evTs]
/-! statements -/
def nxO (o : Option Fr) (m : Store) : RS := match o with
    | some ρ => .nx ρ m
    | none => .no
theorem nxO_s : nxO (some ρ) m = .nx ρ m := rfl
theorem k_asg {t : CT} {e : CE} : evS cx (.asg t e) ρ m = RS.of (evE cx e ρ m) ρ fun v m => nxO (asg t v ρ) m := by
  rw [evS] <;> congr 1
theorem k_par {i j : Nat} {a b : CE} : evS cx (.par i j a b) ρ m = RS.of (evE cx a ρ m) ρ fun v m => RS.of (evE cx b ρ m) ρ fun w m => if i < ρ.length ∧ j < ρ.length then .nx ((ρ.set i (some (.v v))).set j (some (.v w))) m else .no := by rw [evS]
theorem k_set {o i e : CE} : evS cx (.set o i e) ρ m = RS.of (evE cx e ρ m) ρ fun v m => RS.of (evE cx o ρ m) ρ fun x m => RS.of (evE cx i ρ m) ρ fun y m => RS.of (setItem x y v m) ρ fun _ m => .nx ρ m := by rw [evS]
theorem k_ex {e : CE} : evS cx (.ex e) ρ m = RS.of (evE cx e ρ m) ρ fun _ m => .nx ρ m := by rw [evS]
theorem k_ret {e : CE} : evS cx (.ret e) ρ m = RS.of (evE cx e ρ m) ρ fun v m => .rt v m := by rw [evS]
theorem k_ret0 : evS cx .ret0 ρ m = .rt (.d .none) m := by rw [evS]
theorem k_ifs {c : CE} {a b : List CS} : evS cx (.ifs c a b) ρ m = RS.of (evT cx c ρ m) ρ fun k m => if k then evSs cx a ρ m else evSs cx b ρ m := by rw [evS]
def forF (cx : Cxt) (t : CT) (b : List CS) (x : PyData) (ρ : Fr) (m : Store) : RS := match asg t (.d x) ρ with
      | none => .no
      | some ρ1 => evSs cx b ρ1 m
theorem forF_eq {t : CT} {b : List CS} {x : PyData} {ρ1 : Fr} (h : asg t (.d x) ρ = some ρ1) : forF cx t b x ρ m = evSs cx b ρ1 m := by
  unfold forF
  rw [h]
def forW (f : PyData → Fr → Store → RS) (w : Wk) (ρ : Fr) (m : Store) : RS := match w with
    | .items xs => loopL f xs ρ m
    | .dyn n fuel => loopD f n fuel 0 ρ m
    | .no => .no
theorem forW_items {f : PyData → Fr → Store → RS} {xs : List PyData} : forW f (.items xs) ρ m = loopL f xs ρ m := rfl
theorem k_for {k : ItK} {its : List CE} {t : CT} {b : List CS} : evS cx (.for_ k its t b) ρ m = RS.of (evEs cx its ρ m) ρ fun vs m => forW (forF cx t b) (walk k vs m) ρ m := by
  rw [evS] <;> rfl
theorem k_whl {c : CE} {b : List CS} : evS cx (.whl c b) ρ m = loopW (fun ρ m => evT cx c ρ m) (fun ρ m => evSs cx b ρ m) WFUEL ρ m := by rw [evS]
theorem k_raise {c : Str} {es : List CE} : evS cx (.raise c es) ρ m = RS.of (evEs cx es ρ m) ρ fun vs m => RS.of (cx.call c vs m) ρ fun _ _ => .no := by rw [evS]
def tryR (r : RS) (h : Exc → Fr → Store → RS) : RS := match r with
    | .ex e ρ1 m1 => h e ρ1 m1
    | r => r
theorem try_ex {e : Exc} {h : Exc → Fr → Store → RS} : tryR (.ex e ρ m) h = h e ρ m := rfl
theorem try_nx {h : Exc → Fr → Store → RS} : tryR (.nx ρ m) h = .nx ρ m := rfl
theorem try_rt {v : Val} {h : Exc → Fr → Store → RS} : tryR (.rt v m) h = .rt v m := rfl
theorem k_try {b : List CS} {hs : List (Str × Option Nat × List CS)} : evS cx (.try_ b hs) ρ m = tryR (evSs cx b ρ m) fun e ρ m => evHs cx e hs ρ m := by
  rw [evS]
  cases evSs cx b ρ m <;> rfl
theorem k_brk : evS cx .brk ρ m = .bk ρ m := by rw [evS]
theorem k_cnt : evS cx .cnt ρ m = .ct ρ m := by rw [evS]
theorem k_pass : evS cx .pass ρ m = .nx ρ m := by rw [evS]
theorem ks_nil : evSs cx [] ρ m = .nx ρ m := by rw [evSs]
theorem ks_cons {s : CS} {ss : List CS} : evSs cx (s :: ss) ρ m = (evS cx s ρ m).seq fun ρ m => evSs cx ss ρ m := by rw [evSs]
theorem h_rt {e : Exc} {c : Str} {i : Nat} {s : List CS} {hs : List (Str × Option Nat × List CS)} {v : Val} {m' : Store} (h : cx.isE e.cls c = some true) (h2 : evSs cx s (ρ.set i (some (.err e))) m = .rt v m') : evHs cx e ((c, some i, s) :: hs) ρ m = .rt v m' := by
  rw [evHs, h]
  simp only [exIn, h2]
theorem h_no {e : Exc} {c : Str} {i : Option Nat} {s : List CS} {hs : List (Str × Option Nat × List CS)} (h : cx.isE e.cls c = some false) : evHs cx e ((c, i, s) :: hs) ρ m = evHs cx e hs ρ m := by
  rw [evHs, h]
end
/-! ### operators -/
section
variable {m : Store}
theorem v_add {i j : Int} : bin .add (.d (.int i)) (.d (.int j)) m = .ok (.d (.int (i + j))) m := rfl
theorem v_sub {i j : Int} : bin .sub (.d (.int i)) (.d (.int j)) m = .ok (.d (.int (i - j))) m := rfl
theorem v_mul {i j : Int} : bin .mul (.d (.int i)) (.d (.int j)) m = okIf (mulOk i j = true) (.d (.int (i * j))) m := rfl
theorem v_fdiv {i j : Int} : bin .fdiv (.d (.int i)) (.d (.int j)) m = okIf (0 < j ∧ j < 1073741824) (.d (.int (i / j))) m := rfl
theorem v_mod {i j : Int} : bin .mod (.d (.int i)) (.d (.int j)) m = okIf (0 < j) (.d (.int (i % j))) m := rfl
theorem v_pow {i j : Int} : bin .pow (.d (.int i)) (.d (.int j)) m = okIf (0 ≤ j ∧ j ≤ 1000 ∧ -1000 ≤ i ∧ i ≤ 1000) (.d (.int (i ^ j.toNat))) m := rfl
theorem v_tt {xs ys : List PyData} : bin .add (.d (.tuple xs)) (.d (.tuple ys)) m = okIf (xs.length + ys.length ≤ SZ) (.d (.tuple (xs ++ ys))) m := rfl
theorem v_ll {xs ys : List PyData} : bin .add (.d (.list xs)) (.d (.list ys)) m = okIf (xs.length + ys.length ≤ SZ) (.d (.list (xs ++ ys))) m := rfl
theorem v_ss {x y : Str} : bin .add (.d (.str x)) (.d (.str y)) m = okIf (x.length + y.length ≤ SZ) (.d (.str (x ++ y))) m := rfl
theorem v_tm {xs : List PyData} {k : Int} : bin .mul (.d (.tuple xs)) (.d (.int k)) m = okIf (-100000 ≤ k ∧ k ≤ 100000 ∧ xs.length ≤ 100) (.d (.tuple (rep xs k))) m := rfl
theorem v_lm {xs : List PyData} {k : Int} : bin .mul (.d (.list xs)) (.d (.int k)) m = okIf (-100000 ≤ k ∧ k ≤ 100000 ∧ xs.length ≤ 100) (.d (.list (rep xs k))) m := rfl
theorem c_eq {x y : PyData} : cmp .eq (.d x) (.d y) m = okIf (eqOk x y = true) (.d (.bool (PyData.eqv x y))) m := rfl
theorem c_ne {x y : PyData} : cmp .ne (.d x) (.d y) m = okIf (eqOk x y = true) (.d (.bool (!PyData.eqv x y))) m := rfl
theorem c_lt {i j : Int} : cmp .lt (.d (.int i)) (.d (.int j)) m = .ok (.d (.bool (decide (i < j)))) m := rfl
theorem c_ltt {xs ys : List PyData} : cmp .lt (.d (.tuple xs)) (.d (.tuple ys)) m = okIf (PySem.W.alike (.tuple xs) (.tuple ys) = true ∧ (PyData.tuple xs).depth ≤ 64) (.d (.bool (PySem.W.dataLt (.tuple xs) (.tuple ys)))) m := rfl
theorem c_le {i j : Int} : cmp .le (.d (.int i)) (.d (.int j)) m = .ok (.d (.bool (decide (i ≤ j)))) m := rfl
theorem c_gt {i j : Int} : cmp .gt (.d (.int i)) (.d (.int j)) m = .ok (.d (.bool (decide (j < i)))) m := rfl
theorem c_ge {i j : Int} : cmp .ge (.d (.int i)) (.d (.int j)) m = .ok (.d (.bool (decide (j ≤ i)))) m := rfl
theorem c_isN {a : Val} : cmp .isN a (.d .none) m = .ok (.d (.bool (isNone a))) m := rfl
theorem c_notN {a : Val} : cmp .notN a (.d .none) m = .ok (.d (.bool (!isNone a))) m := rfl
theorem i_list {xs : List PyData} {i : Int} : idx (.d (.list xs)) (.d (.int i)) m = ofO (atI xs i) m := by
  show (match atI xs i with
    | some x => R.ok (Val.d x) m
    | none => R.no) = _
  cases atI xs i <;> rfl
theorem i_tup {xs : List PyData} {i : Int} : idx (.d (.tuple xs)) (.d (.int i)) m = ofO (atI xs i) m := by
  show (match atI xs i with
    | some x => R.ok (Val.d x) m
    | none => R.no) = _
  cases atI xs i <;> rfl
def idxM (o : Option MO) (k : PyData) (m : Store) : R Val := match o with
    | some (.lst xs) => (match k with
      | .int i => ofO (atI xs i) m
      | _ => .no)
    | some (.dic kvs) => (match keyOf k with
      | some k => ofV (lookK kvs k) m
      | none => .no)
    | none => .no
theorem i_loc {n : Nat} {k : PyData} : idx (.loc n) (.d k) m = idxM m[n]? k m := by
  unfold idx
  dsimp only
  cases m[n]? with
  | none => rfl
  | some o => cases o with
    | lst xs => cases k with
      | int i =>
        show (match atI xs i with
          | some x => R.ok (Val.d x) m
          | none => R.no) = ofO (atI xs i) m
        cases atI xs i <;> rfl
      | _ => rfl
    | dic kvs =>
      show (match keyOf k with
        | some k => (match lookK kvs k with
          | some v => R.ok v m
          | none => .no)
        | none => .no) = (match keyOf k with
        | some k => ofV (lookK kvs k) m
        | none => .no)
      cases keyOf k with
      | none => rfl
      | some k =>
        show (match lookK kvs k with
          | some v => R.ok v m
          | none => .no) = ofV (lookK kvs k) m
        cases lookK kvs k <;> rfl
theorem im_l {xs : List PyData} {i : Int} : idxM (some (.lst xs)) (.int i) m = ofO (atI xs i) m := rfl
theorem im_s {kvs : List (Ky × Val)} {x : Str} : idxM (some (.dic kvs)) (.str x) m = ofV (lookK kvs (.inr x)) m := rfl
theorem im_i {kvs : List (Ky × Val)} {x : Int} : idxM (some (.dic kvs)) (.int x) m = ofV (lookK kvs (.inl x)) m := rfl
theorem g_idx {tbl : List (Ky × PyData)} {x : Str} : gidx tbl (.d (.str x)) m = ofO (lookK tbl (.inr x)) m := by
  show (match lookK tbl (.inr x) with
    | some v => R.ok (Val.d v) m
    | none => R.no) = _
  cases lookK tbl (.inr x) <;> rfl
theorem g_in {tbl : List (Ky × PyData)} {x : Str} : gin false tbl (.d (.str x)) m = .ok (.d (.bool (lookK tbl (.inr x)).isSome)) m := rfl
theorem g_nin {tbl : List (Ky × PyData)} {x : Str} : gin true tbl (.d (.str x)) m = .ok (.d (.bool (!(lookK tbl (.inr x)).isSome))) m := rfl
theorem sl_t {xs : List PyData} {lo hi : Option Int} : slice (.d (.tuple xs)) lo hi m = .ok (.d (.tuple (cut xs lo hi))) m := rfl
theorem sl_l {xs : List PyData} {lo hi : Option Int} : slice (.d (.list xs)) lo hi m = .ok (.d (.list (cut xs lo hi))) m := rfl
theorem sl_loc {n : Nat} {xs : List PyData} {lo hi : Option Int} (h : m[n]? = some (.lst xs)) : slice (.loc n) lo hi m = .ok (.d (.list (cut xs lo hi))) m := by
  unfold slice Val.py?
  simp only [h]
theorem tr_b {b : Bool} : truth (.d (.bool b)) m = some b := rfl
theorem tr_n : truth (.d .none) m = some false := rfl
theorem tr_i {i : Int} : truth (.d (.int i)) m = some (i != 0) := rfl
theorem tr_l {xs : List PyData} : truth (.d (.list xs)) m = some (!xs.isEmpty) := rfl
theorem tr_t {xs : List PyData} : truth (.d (.tuple xs)) m = some (!xs.isEmpty) := rfl
/-! built-in functions -/
theorem f_lenl {xs : List PyData} : bi .len [.d (.list xs)] m = .ok (.d (.int xs.length)) m := rfl
theorem f_lent {xs : List PyData} : bi .len [.d (.tuple xs)] m = .ok (.d (.int xs.length)) m := rfl
theorem f_int {i : Int} : bi .int [.d (.int i)] m = .ok (.d (.int i)) m := rfl
theorem f_tupl {xs : List PyData} : bi .tuple [.d (.list xs)] m = .ok (.d (.tuple xs)) m := rfl
theorem f_tupt {xs : List PyData} : bi .tuple [.d (.tuple xs)] m = .ok (.d (.tuple xs)) m := rfl
theorem f_lstl {xs : List PyData} : bi .list [.d (.list xs)] m = .ok (.d (.list xs)) m := rfl
theorem f_lstt {xs : List PyData} : bi .list [.d (.tuple xs)] m = .ok (.d (.list xs)) m := rfl
theorem f_lr {n : Int} : bi .lstRange [.d (.int n)] m = okIf (rgOk 0 n = true) (.d (.list (rangeD 0 n))) m := by cases n <;> rfl
theorem f_lr2 {a n : Int} : bi .lstRange [.d (.int a), .d (.int n)] m = okIf (rgOk a n = true) (.d (.list (rangeD a n))) m := by cases n <;> rfl
theorem f_trg {n : Int} : bi .tupRange [.d (.int n)] m = okIf (rgOk 0 n = true) (.d (.tuple (rangeD 0 n))) m := by cases n <;> rfl
def ofI (o : Option Int) (m : Store) : R Val := match o with
  | some x => .ok (.d (.int x)) m
  | none => .no
theorem ofI_s {x : Int} : ofI (some x) m = .ok (.d (.int x)) m := rfl
def max? (o : Option (List Int)) : Option Int := match o with
  | some (a :: r) => some (maxL a r)
  | _ => none
theorem max_s {a : Int} {r : List Int} : max? (some (a :: r)) = some (maxL a r) := rfl
def ofM (o : Option (List Int)) (xs : List PyData) (m : Store) : R Val := match o with
  | some (a :: r) => .ok (.d (.int (maxL a r))) m
  | some [] => .no
  | none => maxX xs m
theorem ofM_s {a : Int} {r : List Int} {xs : List PyData} : ofM (some (a :: r)) xs m = .ok (.d (.int (maxL a r))) m := rfl
theorem f_max {xs : List PyData} : bi .max1 [.d (.list xs)] m = ofM (ints? xs) xs m := by
  show (match ints? xs with
    | some (a :: r) => R.ok (Val.d (.int (maxL a r))) m
    | some [] => .no
    | none => maxX xs m) = _
  cases ints? xs with
  | none => rfl
  | some l => cases l <;> rfl
theorem f_min1 {xs : List PyData} : bi .min1 [.d (.list xs)] m = minX xs m := rfl
theorem f_sortD {xs : List PyData} : bi .sortD [.d (.list xs)] m = okIf (mmOk xs = true ∧ srtOk xs = true) (.d (.list (sortL xs))) m := rfl
theorem f_sortL {n : Nat} {xs : List PyData} (h : m[n]? = some (.lst xs)) : bi .sortD [.loc n] m = okIf (mmOk xs = true ∧ srtOk xs = true) (.d (.list (sortL xs))) m := by
  show (match (Val.loc n).py? m with
    | some (.list xs) => sortX xs m
    | _ => .no) = _
  unfold Val.py?
  simp only [h]
  rfl
theorem f_dvals {n : Nat} {kvs : List (Ky × Val)} {xs : List PyData} (h : m[n]? = some (.dic kvs)) (h2 : datas? (kvs.map (·.2)) = some xs) : bi .dvals [.loc n] m = .ok (.d (.list xs)) m := by
  show (match m[n]? with
      | some (MO.dic kvs) => (match datas? (kvs.map fun p : Ky × Val => p.2) with
        | some xs => R.ok (Val.d (.list xs)) m
        | none => .no)
      | _ => .no) = _
  simp only [h, h2]
theorem f_max2 {i j : Int} : bi .max2 [.d (.int i), .d (.int j)] m = .ok (.d (.int (if j > i then j else i))) m := rfl
theorem f_min2 {i j : Int} : bi .min2 [.d (.int i), .d (.int j)] m = .ok (.d (.int (if j < i then j else i))) m := rfl
theorem f_repr {x : PyData} : bi .repr [.d x] m = okIf (shOk x = true) (.d (.str x.shown)) m := rfl
theorem f_isInt {x : Val} : bi .isInt [x] m = .ok (.d (.bool (match x with
    | .d (.int _) => true
    | .d (.bool _) => true
    | _ => false))) m := by
  cases x with
  | d x => cases x <;> rfl
  | loc => rfl
theorem f_isBool {x : Val} : bi .isBool [x] m = .ok (.d (.bool (match x with
    | .d (.bool _) => true
    | _ => false))) m := by
  cases x with
  | d x => cases x <;> rfl
  | loc => rfl
theorem f_isStr {x : Val} : bi .isStr [x] m = .ok (.d (.bool (match x with
    | .d (.str _) => true
    | _ => false))) m := by
  cases x with
  | d x => cases x <;> rfl
  | loc => rfl
theorem f_isTup {x : Val} : bi .isTup [x] m = .ok (.d (.bool (match x with
    | .d (.tuple _) => true
    | _ => false))) m := by
  cases x with
  | d x => cases x <;> rfl
  | loc => rfl
theorem f_isList {x : PyData} : bi .isList [.d x] m = .ok (.d (.bool (match x with
    | .list _ => true
    | _ => false))) m := by
  cases x <;> rfl
theorem a_v {i : Nat} {v : Val} {ρ : Fr} : asg (.v i) v ρ = if i < ρ.length then some (ρ.set i (some (.v v))) else none := rfl
theorem a_t {ts : List CT} {xs : List PyData} {ρ : Fr} : asg (.t ts) (.d (.tuple xs)) ρ = asgs ts xs ρ := rfl
theorem as_nil {ρ : Fr} : asgs [] [] ρ = some ρ := rfl
theorem as_cons {t : CT} {ts : List CT} {x : PyData} {xs : List PyData} {ρ : Fr} : asgs (t :: ts) (x :: xs) ρ = (asg t (.d x) ρ).bind fun ρ => asgs ts xs ρ := by
  show (match asg t (.d x) ρ with
    | some ρ => asgs ts xs ρ
    | none => none) = _
  cases asg t (.d x) ρ <;> rfl
theorem wipe_nil {ρ : Fr} : wipe ρ [] = ρ := rfl
theorem wipe_cons {ρ : Fr} {v : Nat} {vs : List Nat} : wipe ρ (v :: vs) = (wipe ρ vs).set v none := rfl
theorem w_l {xs : List PyData} : walk .seq [.d (.list xs)] m = .items xs := rfl
theorem w_t {xs : List PyData} : walk .seq [.d (.tuple xs)] m = .items xs := rfl
def rgW (c : Bool) (xs : List PyData) : Wk := if c = true then .items xs else .no
theorem rgW_t {xs : List PyData} : rgW true xs = .items xs := rfl
theorem w_r {n : Int} : walk .range1 [.d (.int n)] m = rgW (rgOk 0 n) (rangeD 0 n) := by cases n <;> rfl
theorem w_r2 {a n : Int} : walk .range2 [.d (.int a), .d (.int n)] m = rgW (rgOk a n) (rangeD a n) := by cases n <;> rfl
theorem w_r3 {a n : Int} : walk .range3 [.d (.int a), .d (.int n), .d (.int (-1))] m = rgW (rgOk a n) (rangeU a n) := by
  cases h : rgOk a n with
  | true => exact if_pos ⟨h, rfl⟩
  | false => exact if_neg fun q => by rw [h] at q; exact Bool.false_ne_true q.1
theorem r_rt {m0 : Store} {k : Nat} {x : PyData} : ret false k (.rt (.d x) m) = .ok (.d x) (m.take k) := rfl
theorem r_nx {ρ : Fr} {k : Nat} : ret false k (.nx ρ m) = .ok (.d .none) (m.take k) := rfl
theorem r_ex {ρ : Fr} {e : Exc} {keep : Bool} {k : Nat} : ret keep k (.ex e ρ m) = .ex e (m.take k) := rfl
theorem r_keep {v : Val} {k : Nat} : ret true k (.rt v m) = .ok v m := rfl
def setL (o : Option Nat) (xs : List PyData) (x : PyData) (n : Nat) (m : Store) : R Unit := match o with
  | some j => .ok () (m.set n (.lst (xs.set j x)))
  | none => .no
theorem setL_s {j : Nat} {xs : List PyData} {x : PyData} {n : Nat} : setL (some j) xs x n m = .ok () (m.set n (.lst (xs.set j x))) := rfl
def setK (o : Option Ky) (kvs : List (Ky × Val)) (x : PyData) (n : Nat) (m : Store) : R Unit := match o with
  | some k => if kvs.length < SZ then .ok () (m.set n (.dic (putK kvs k (.d x)))) else .no
  | none => .no
theorem setK_s {k : Ky} {kvs : List (Ky × Val)} {x : PyData} {n : Nat} (h : kvs.length < SZ) : setK (some k) kvs x n m = .ok () (m.set n (.dic (putK kvs k (.d x)))) := if_pos h
def setO (o : Option MO) (k x : PyData) (n : Nat) (m : Store) : R Unit := match o with
    | some (.lst xs) => (match k with
      | .int i => setL (ixN xs.length i) xs x n m
      | _ => .no)
    | some (.dic kvs) => setK (keyOf k) kvs x n m
    | none => .no
theorem set_loc {n : Nat} {k x : PyData} : setItem (.loc n) (.d k) (.d x) m = setO m[n]? k x n m := by
  show (match m[n]? with
    | some (.lst xs) => (match k with
      | .int i => (match ixN xs.length i with
        | some j => R.ok () (m.set n (.lst (xs.set j x)))
        | none => .no)
      | _ => .no)
    | some (.dic kvs) => (match keyOf k with
      | some k => if kvs.length < SZ then .ok () (m.set n (.dic (putK kvs k (.d x)))) else .no
      | none => .no)
    | none => R.no) = _
  cases m[n]? with
  | none => rfl
  | some o => cases o with
    | lst xs => cases k with
      | int i =>
        show _ = setL (ixN xs.length i) xs x n m
        dsimp only
        cases ixN xs.length i <;> rfl
      | _ => rfl
    | dic kvs =>
      show _ = setK (keyOf k) kvs x n m
      dsimp only
      cases keyOf k <;> rfl
theorem so_l {xs : List PyData} {i : Int} {x : PyData} {n : Nat} : setO (some (.lst xs)) (.int i) x n m = setL (ixN xs.length i) xs x n m := rfl
theorem so_s {kvs : List (Ky × Val)} {y : Str} {x : PyData} {n : Nat} : setO (some (.dic kvs)) (.str y) x n m = setK (some (.inr y)) kvs x n m := rfl
theorem so_i {kvs : List (Ky × Val)} {y : Int} {x : PyData} {n : Nat} : setO (some (.dic kvs)) (.int y) x n m = setK (some (.inl y)) kvs x n m := rfl
theorem append_l {n : Nat} {xs : List PyData} {x : PyData} (h : m[n]? = some (.lst xs)) (h2 : xs.length < SZ) : mt .append (.loc n) [.d x] m = .ok (.d .none) (m.set n (.lst (xs ++ [x]))) := by
  unfold mt
  simp only [h, h2, if_true]
theorem mtOk_l {n : Nat} {xs : List PyData} (h : m[n]? = some (.lst xs)) : mtOk .append (.loc n) m = true := by
  unfold mtOk
  simp only [h]
/-! equality -/
theorem eqOk_i {i : Int} {y : PyData} : eqOk (.int i) y = true := by
  unfold eqOk
  simp [PyData.depth]
theorem eqOk_s {i : Str} {y : PyData} : eqOk (.str i) y = true := by
  unfold eqOk
  simp [PyData.depth]
theorem eqOk_b {i : Bool} {y : PyData} : eqOk (.bool i) y = true := by
  unfold eqOk
  simp [PyData.depth]
theorem eqOk_n {y : PyData} : eqOk .none y = true := by
  unfold eqOk
  simp [PyData.depth]
theorem eqOk_r {x y : PyData} (h : y.depth ≤ 64) : eqOk x y = true := by
  unfold eqOk
  exact decide_eq_true (Nat.le_trans (Nat.min_le_right _ _) h)
theorem eqOk_ln {x : PyData} : eqOk x (.list []) = true := eqOk_r (by decide)
theorem eqOk_tn {x : PyData} : eqOk x (.tuple []) = true := eqOk_r (by decide)
theorem eqv_ii {i j : Int} : PyData.eqv (.int i) (.int j) = decide (i = j) := by
  show (i == j) = _
  rfl
theorem eqv_ss {x y : Str} : PyData.eqv (.str x) (.str y) = decide (x = y) := by
  show (x == y) = _
  rw [Bool.eq_iff_iff]
  simp
theorem eqv_ln {xs : List PyData} : PyData.eqv (.list xs) (.list []) = xs.isEmpty := by cases xs <;> rfl
theorem eqv_tn {xs : List PyData} : PyData.eqv (.tuple xs) (.tuple []) = xs.isEmpty := by cases xs <;> rfl
theorem eqv_ni {i : Int} : PyData.eqv .none (.int i) = false := rfl
theorem eqv_in {i : Int} : PyData.eqv (.int i) .none = false := rfl
theorem eqv_nn : PyData.eqv .none .none = true := rfl
theorem okIf_eqi {i : Int} {y : PyData} {v : Val} : okIf (eqOk (.int i) y = true) v m = .ok v m := okIf_t eqOk_i
theorem okIf_eqs {i : Str} {y : PyData} {v : Val} : okIf (eqOk (.str i) y = true) v m = .ok v m := okIf_t eqOk_s
theorem okIf_eqb {i : Bool} {y : PyData} {v : Val} : okIf (eqOk (.bool i) y = true) v m = .ok v m := okIf_t eqOk_b
theorem okIf_eqn {y : PyData} {v : Val} : okIf (eqOk .none y = true) v m = .ok v m := okIf_t eqOk_n
theorem okIf_eqln {y : PyData} {v : Val} : okIf (eqOk y (.list []) = true) v m = .ok v m := okIf_t eqOk_ln
theorem okIf_eqtn {y : PyData} {v : Val} : okIf (eqOk y (.tuple []) = true) v m = .ok v m := okIf_t eqOk_tn
theorem at_0 {x : PyData} {xs : List PyData} : atI (x :: xs) 0 = some x := by
  unfold atI ixN
  have h2 : (0 : Int) < ((x :: xs).length : Int) := by simp only [List.length_cons]; omega
  simp only [show (0 : Int) ≤ 0 by decide, h2, if_true, Option.bind_some]
  rfl
theorem at_1 {x y : PyData} {xs : List PyData} : atI (x :: y :: xs) 1 = some y := by
  unfold atI ixN
  have h2 : (1 : Int) < ((x :: y :: xs).length : Int) := by simp only [List.length_cons]; omega
  simp only [show (0 : Int) ≤ 1 by decide, h2, if_true, Option.bind_some]
  rfl
theorem at_2 {x y z : PyData} {xs : List PyData} : atI (x :: y :: z :: xs) 2 = some z := by
  unfold atI ixN
  have h2 : (2 : Int) < ((x :: y :: z :: xs).length : Int) := by simp only [List.length_cons]; omega
  simp only [show (0 : Int) ≤ 2 by decide, h2, if_true, Option.bind_some]
  rfl
/-! exceptions -/
def fldV (cx : Cxt) (f : Str) (o : Option (Option SV)) (m : Store) : R Val := match o with
    | some (some (.err e)) => if cx.ef e.cls f = true then ofO (e.fs.lookup f) m else .no
    | _ => .no
theorem e_fld2 {i : Nat} {f : Str} : evE cx (.fld i f) ρ m = fldV cx f ρ[i]? m := by
  rw [evE]
  unfold fldV
  cases ρ[i]? with
  | none => rfl
  | some o => cases o with
    | none => rfl
    | some s => cases s with
      | v x => rfl
      | lam => rfl
      | err e =>
        show (if cx.ef e.cls f = true then (match e.fs.lookup f with
          | some x => R.ok (Val.d x) m
          | none => R.no) else R.no) = if cx.ef e.cls f = true then ofO (e.fs.lookup f) m else R.no
        cases e.fs.lookup f <;> rfl
theorem fldV_s {f : Str} {c : Str} {fs : List (Str × PyData)} (h : cx.ef c f = true) : fldV cx f (some (some (.err ⟨c, fs⟩))) m = ofO (fs.lookup f) m := if_pos h
theorem look_1 {f : Str} {x : PyData} : List.lookup f [(f, x)] = some x := by
  show (match f == f with
    | true => some x
    | false => none) = _
  rw [beq_self_eq_true]
def hsR (i : Nat) (r : RS) : RS := match r with
      | .nx ρ m => if noErr (ρ.set i none) = true then .nx (ρ.set i none) m else .no
      | .bk ρ m => if noErr (ρ.set i none) = true then .bk (ρ.set i none) m else .no
      | .ct ρ m => if noErr (ρ.set i none) = true then .ct (ρ.set i none) m else .no
      | .ex _ _ _ => .no
      | r => r
theorem hs_rt {i : Nat} {v : Val} : hsR i (.rt v m) = .rt v m := rfl
theorem hs_nx {i : Nat} : hsR i (.nx ρ m) = if noErr (ρ.set i none) = true then .nx (ρ.set i none) m else .no := rfl
theorem hh_no {c d : Str} {fs : List (Str × PyData)} {i : Option Nat} {s : List CS} {hs : List (Str × Option Nat × List CS)} (h : cx.isE c d = some false) : evHs cx ⟨c, fs⟩ ((d, i, s) :: hs) ρ m = evHs cx ⟨c, fs⟩ hs ρ m := by
  rw [evHs]
  simp only [h]
def hs0 (r : RS) : RS := match r with
      | .nx ρ m => if noErr ρ = true then .nx ρ m else .no
      | .bk ρ m => if noErr ρ = true then .bk ρ m else .no
      | .ct ρ m => if noErr ρ = true then .ct ρ m else .no
      | .ex _ _ _ => .no
      | r => r
theorem hs0_rt {v : Val} : hs0 (.rt v m) = .rt v m := rfl
theorem hs0_nx : hs0 (.nx ρ m) = if noErr ρ = true then .nx ρ m else .no := rfl
theorem hh_yes0 {c d : Str} {fs : List (Str × PyData)} {s : List CS} {hs : List (Str × Option Nat × List CS)} (h : cx.isE c d = some true) : evHs cx ⟨c, fs⟩ ((d, none, s) :: hs) ρ m = hs0 (evSs cx s ρ m) := by
  rw [evHs]
  simp only [h]
  rfl
theorem hh_yes {c d : Str} {fs : List (Str × PyData)} {i : Nat} {s : List CS} {hs : List (Str × Option Nat × List CS)} (h : cx.isE c d = some true) : evHs cx ⟨c, fs⟩ ((d, some i, s) :: hs) ρ m = hsR i (evSs cx s (ρ.set i (some (.err ⟨c, fs⟩))) m) := by
  rw [evHs]
  simp only [h]
  rfl
theorem at_3 {x y z u : PyData} {xs : List PyData} : atI (x :: y :: z :: u :: xs) 3 = some u := by
  unfold atI ixN
  have h2 : (3 : Int) < ((x :: y :: z :: u :: xs).length : Int) := by simp only [List.length_cons]; omega
  simp only [show (0 : Int) ≤ 3 by decide, h2, if_true, Option.bind_some]
  rfl
theorem at_4 {x y z u v : PyData} {xs : List PyData} : atI (x :: y :: z :: u :: v :: xs) 4 = some v := by
  unfold atI ixN
  have h2 : (4 : Int) < ((x :: y :: z :: u :: v :: xs).length : Int) := by simp only [List.length_cons]; omega
  simp only [show (0 : Int) ≤ 4 by decide, h2, if_true, Option.bind_some]
  rfl
theorem n0 : ((0 : Nat) : Int) = 0 := rfl
theorem n1 : ((1 : Nat) : Int) = 1 := rfl
theorem n2 : ((2 : Nat) : Int) = 2 := rfl
theorem n3 : ((3 : Nat) : Int) = 3 := rfl
theorem n4 : ((4 : Nat) : Int) = 4 := rfl
theorem n5 : ((5 : Nat) : Int) = 5 := rfl
theorem n6 : ((6 : Nat) : Int) = 6 := rfl
theorem n7 : ((7 : Nat) : Int) = 7 := rfl
theorem n8 : ((8 : Nat) : Int) = 8 := rfl
theorem n9 : ((9 : Nat) : Int) = 9 := rfl
theorem n10 : ((10 : Nat) : Int) = 10 := rfl
/-! version 2 -/
def getA (cx : Cxt) (o : Option (Option SV)) (m : Store) : R Val := match o with
    | some (some .lam) => cx.act m
    | _ => .no
theorem e_act {i : Nat} : evE cx (.act i) ρ m = getA cx ρ[i]? m := by
  rw [evE]
  unfold getA
  cases ρ[i]? with
  | none => rfl
  | some o => cases o with
    | none => rfl
    | some s => cases s <;> rfl
theorem getA_s : getA cx (some (some .lam)) m = cx.act m := rfl
def isxV (cx : Cxt) (c : Str) (o : Option (Option SV)) (m : Store) : R Val := match o with
    | some (some (.err e)) => (match cx.isE e.cls c with
      | some b => .ok (.d (.bool b)) m
      | none => .no)
    | _ => .no
theorem e_isx {i : Nat} {c : Str} : evE cx (.isx i c) ρ m = isxV cx c ρ[i]? m := by
  rw [evE]
  unfold isxV
  cases ρ[i]? with
  | none => rfl
  | some o => cases o with
    | none => rfl
    | some s => cases s <;> rfl
theorem isxV_s {c d : Str} {fs : List (Str × PyData)} {b : Bool} (h : cx.isE d c = some b) : isxV cx c (some (some (.err ⟨d, fs⟩))) m = .ok (.d (.bool b)) m := by
  unfold isxV
  simp only [h]
theorem e_callL {f : Str} {body : CE} : evE cx (.callL f body) ρ m = if plainFr ρ = true then cx.callL f (fun call m => evE { cx with call := call } body ρ m) m else .no := by rw [evE]
theorem pf_nil : plainFr [] = true := rfl
theorem pf_v {v : Val} {ρ : Fr} : plainFr (some (.v v) :: ρ) = plainFr ρ := rfl
theorem pf_n {ρ : Fr} : plainFr (none :: ρ) = plainFr ρ := rfl
theorem ne_nil : noErr [] = true := rfl
theorem ne_v {v : Val} {ρ : Fr} : noErr (some (.v v) :: ρ) = noErr ρ := rfl
theorem ne_l {ρ : Fr} : noErr (some .lam :: ρ) = noErr ρ := rfl
theorem ne_n {ρ : Fr} : noErr (none :: ρ) = noErr ρ := rfl
def naddV (x y : Option PyData) (m : Store) : R Val := match x, y with
    | some (.list xs), some (.list ys) => if xs.length + ys.length ≤ SZ then .ok (.loc m.length) (m ++ [.lst (xs ++ ys)]) else .no
    | _, _ => .no
theorem e_nadd {a b : CE} : evE cx (.nadd a b) ρ m = (evE cx a ρ m).bind fun x m => (evE cx b ρ m).bind fun y m => naddV (x.py? m) (y.py? m) m := by
  rw [evE] <;> rfl
theorem naddV_s {xs ys : List PyData} (h : xs.length + ys.length ≤ SZ) : naddV (some (.list xs)) (some (.list ys)) m = .ok (.loc m.length) (m ++ [.lst (xs ++ ys)]) := if_pos h
theorem py_d {x : PyData} : (Val.d x).py? m = some x := rfl
theorem k_par3 {i j k : Nat} {a b c : CE} : evS cx (.par3 i j k a b c) ρ m = RS.of (evE cx a ρ m) ρ fun v m => RS.of (evE cx b ρ m) ρ fun w m => RS.of (evE cx c ρ m) ρ fun x m => if i < ρ.length ∧ j < ρ.length ∧ k < ρ.length then .nx (((ρ.set i (some (.v v))).set j (some (.v w))).set k (some (.v x))) m else .no := by rw [evS]
theorem w_el {xs : List PyData} : walk .enum [.d (.list xs)] m = .items (enumFrom 0 xs) := rfl
theorem w_et {xs : List PyData} : walk .enum [.d (.tuple xs)] m = .items (enumFrom 0 xs) := rfl
def ssV (o : Option (List Int)) (m : Store) : R Val := match o with
  | some is => if is.length ≤ 4000 ∧ (ssetI is).length < 64 then .ok (.d (.list ((ssetI is).map .int))) m else .no
  | none => .no
theorem f_sset {xs : List PyData} : bi .sset [.d (.list xs)] m = ssV (ints? xs) m := rfl
theorem ssV_s {is : List Int} (h : is.length ≤ 4000) (h2 : (ssetI is).length < 64) : ssV (some is) m = .ok (.d (.list ((ssetI is).map .int))) m := if_pos ⟨h, h2⟩
def slV (o : Option (List Int)) (m : Store) : R Val := match o with
  | some is => if is.length ≤ 4000 then .ok (.d (.int (ssetI is).length)) m else .no
  | none => .no
theorem f_setLen {xs : List PyData} : bi .setLen [.d (.list xs)] m = slV (ints? xs) m := rfl
theorem slV_s {is : List Int} (h : is.length ≤ 4000) : slV (some is) m = .ok (.d (.int (ssetI is).length)) m := if_pos h
theorem f_lstEnum {xs : List PyData} : bi .lstEnum [.d (.list xs)] m = .ok (.d (.list (enumFrom 0 xs))) m := rfl
theorem f_sum {xs : List PyData} : bi .sum [.d (.list xs)] m = ofI ((ints? xs).map List.sum) m := by
  show (match ints? xs with
    | some is => R.ok (Val.d (.int is.sum)) m
    | _ => .no) = _
  cases ints? xs <;> rfl
theorem ints_nil : ints? [] = some [] := rfl
def consI (i : Int) (o : Option (List Int)) : Option (List Int) := match o with
    | some is => some (i :: is)
    | none => none
theorem consI_s {i : Int} {is : List Int} : consI i (some is) = some (i :: is) := rfl
theorem ints_cons {i : Int} {r : List PyData} : ints? (.int i :: r) = consI i (ints? r) := by
  show (match ints? r with
    | some is => some (i :: is)
    | none => none) = _
  cases ints? r <;> rfl
theorem ints_map : ∀ {ns : List Int}, ints? (ns.map PyData.int) = some ns
  | [] => rfl
  | i :: r => by
    rw [List.map_cons, ints_cons, ints_map]
    rfl
theorem f_dict {n : Nat} {kvs : List (Ky × Val)} (h : m[n]? = some (.dic kvs)) : bloc .dict [.loc n] m = .ok (.loc m.length) (m ++ [.dic kvs]) := by
  unfold bloc
  simp only [h]
theorem tr_s {x : Str} (h : x.length ≤ SZ) : truth (.d (.str x)) m = some (x.length != 0) := if_pos h
theorem f_isListLoc {n : Nat} {xs : List PyData} (h : m[n]? = some (.lst xs)) : bi .isList [.loc n] m = .ok (.d (.bool true)) m := by
  show (match isK .isList (.loc n) m with
    | some k => R.ok (Val.d (.bool k)) m
    | none => .no) = _
  unfold isK
  simp only [h]
theorem mtOk_r {n : Nat} {xs : List PyData} (h : m[n]? = some (.lst xs)) : mtOk .reverse (.loc n) m = true := by
  unfold mtOk
  simp only [h]
theorem reverse_l {n : Nat} {xs : List PyData} (h : m[n]? = some (.lst xs)) : mt .reverse (.loc n) [] m = .ok (.d .none) (m.set n (.lst xs.reverse)) := by
  unfold mt
  simp only [h]
theorem inD_i {ng : Bool} {i : Int} {xs : List PyData} : inD ng (.int i) xs m = .ok (.d (.bool (if ng then !xs.any (fun y => PyData.eqv y (.int i)) else xs.any (fun y => PyData.eqv y (.int i))))) m := if_pos (.inl rfl)
theorem inD_s {ng : Bool} {i : Str} {xs : List PyData} : inD ng (.str i) xs m = .ok (.d (.bool (if ng then !xs.any (fun y => PyData.eqv y (.str i)) else xs.any (fun y => PyData.eqv y (.str i))))) m := if_pos (.inl rfl)
theorem c_inT {x : PyData} {xs : List PyData} : cmp .inn (.d x) (.d (.tuple xs)) m = inD false x xs m := rfl
theorem c_inL {x : PyData} {xs : List PyData} : cmp .inn (.d x) (.d (.list xs)) m = inD false x xs m := rfl
theorem c_niT {x : PyData} {xs : List PyData} : cmp .notin (.d x) (.d (.tuple xs)) m = inD true x xs m := rfl
theorem c_niL {x : PyData} {xs : List PyData} : cmp .notin (.d x) (.d (.list xs)) m = inD true x xs m := rfl
theorem any_ints {i : Int} : ∀ {ns : List Int}, (ns.map PyData.int).any (fun y => PyData.eqv y (.int i)) = decide (i ∈ ns)
  | [] => rfl
  | j :: ns => by
    rw [List.map_cons, List.any_cons, any_ints, eqv_ii]
    by_cases h : j = i
    · subst h; simp
    · have h2 : ¬ i = j := fun z => h z.symm
      simp [h, h2]
theorem words_ne : ((("send" : Str) = "take") = False) ∧ ((("send" : Str) = "wait") = False) ∧ ((("send" : Str) = "sends") = False) ∧ ((("send" : Str) = "takes") = False) ∧ ((("send" : Str) = "alike") = False) ∧ ((("send" : Str) = "unlike") = False) ∧ ((("send" : Str) = "one") = False) ∧ ((("send" : Str) = "beside") = False) ∧ ((("send" : Str) = "new") = False) ∧ ((("send" : Str) = "call") = False) ∧ ((("send" : Str) = "hole") = False) ∧ ((("take" : Str) = "send") = False) ∧ ((("take" : Str) = "wait") = False) ∧ ((("take" : Str) = "sends") = False) ∧ ((("take" : Str) = "takes") = False) ∧ ((("take" : Str) = "alike") = False) ∧ ((("take" : Str) = "unlike") = False) ∧ ((("take" : Str) = "one") = False) ∧ ((("take" : Str) = "beside") = False) ∧ ((("take" : Str) = "new") = False) ∧ ((("take" : Str) = "call") = False) ∧ ((("take" : Str) = "hole") = False) ∧ ((("wait" : Str) = "send") = False) ∧ ((("wait" : Str) = "take") = False) ∧ ((("wait" : Str) = "sends") = False) ∧ ((("wait" : Str) = "takes") = False) ∧ ((("wait" : Str) = "alike") = False) ∧ ((("wait" : Str) = "unlike") = False) ∧ ((("wait" : Str) = "one") = False) ∧ ((("wait" : Str) = "beside") = False) ∧ ((("wait" : Str) = "new") = False) ∧ ((("wait" : Str) = "call") = False) ∧ ((("wait" : Str) = "hole") = False) ∧ ((("sends" : Str) = "send") = False) ∧ ((("sends" : Str) = "take") = False) ∧ ((("sends" : Str) = "wait") = False) ∧ ((("sends" : Str) = "takes") = False) ∧ ((("sends" : Str) = "alike") = False) ∧ ((("sends" : Str) = "unlike") = False) ∧ ((("sends" : Str) = "one") = False) ∧ ((("sends" : Str) = "beside") = False) ∧ ((("sends" : Str) = "new") = False) ∧ ((("sends" : Str) = "call") = False) ∧ ((("sends" : Str) = "hole") = False) ∧ ((("takes" : Str) = "send") = False) ∧ ((("takes" : Str) = "take") = False) ∧ ((("takes" : Str) = "wait") = False) ∧ ((("takes" : Str) = "sends") = False) ∧ ((("takes" : Str) = "alike") = False) ∧ ((("takes" : Str) = "unlike") = False) ∧ ((("takes" : Str) = "one") = False) ∧ ((("takes" : Str) = "beside") = False) ∧ ((("takes" : Str) = "new") = False) ∧ ((("takes" : Str) = "call") = False) ∧ ((("takes" : Str) = "hole") = False) ∧ ((("alike" : Str) = "send") = False) ∧ ((("alike" : Str) = "take") = False) ∧ ((("alike" : Str) = "wait") = False) ∧ ((("alike" : Str) = "sends") = False) ∧ ((("alike" : Str) = "takes") = False) ∧ ((("alike" : Str) = "unlike") = False) ∧ ((("alike" : Str) = "one") = False) ∧ ((("alike" : Str) = "beside") = False) ∧ ((("alike" : Str) = "new") = False) ∧ ((("alike" : Str) = "call") = False) ∧ ((("alike" : Str) = "hole") = False) ∧ ((("unlike" : Str) = "send") = False) ∧ ((("unlike" : Str) = "take") = False) ∧ ((("unlike" : Str) = "wait") = False) ∧ ((("unlike" : Str) = "sends") = False) ∧ ((("unlike" : Str) = "takes") = False) ∧ ((("unlike" : Str) = "alike") = False) ∧ ((("unlike" : Str) = "one") = False) ∧ ((("unlike" : Str) = "beside") = False) ∧ ((("unlike" : Str) = "new") = False) ∧ ((("unlike" : Str) = "call") = False) ∧ ((("unlike" : Str) = "hole") = False) ∧ ((("one" : Str) = "send") = False) ∧ ((("one" : Str) = "take") = False) ∧ ((("one" : Str) = "wait") = False) ∧ ((("one" : Str) = "sends") = False) ∧ ((("one" : Str) = "takes") = False) ∧ ((("one" : Str) = "alike") = False) ∧ ((("one" : Str) = "unlike") = False) ∧ ((("one" : Str) = "beside") = False) ∧ ((("one" : Str) = "new") = False) ∧ ((("one" : Str) = "call") = False) ∧ ((("one" : Str) = "hole") = False) ∧ ((("beside" : Str) = "send") = False) ∧ ((("beside" : Str) = "take") = False) ∧ ((("beside" : Str) = "wait") = False) ∧ ((("beside" : Str) = "sends") = False) ∧ ((("beside" : Str) = "takes") = False) ∧ ((("beside" : Str) = "alike") = False) ∧ ((("beside" : Str) = "unlike") = False) ∧ ((("beside" : Str) = "one") = False) ∧ ((("beside" : Str) = "new") = False) ∧ ((("beside" : Str) = "call") = False) ∧ ((("beside" : Str) = "hole") = False) ∧ ((("new" : Str) = "send") = False) ∧ ((("new" : Str) = "take") = False) ∧ ((("new" : Str) = "wait") = False) ∧ ((("new" : Str) = "sends") = False) ∧ ((("new" : Str) = "takes") = False) ∧ ((("new" : Str) = "alike") = False) ∧ ((("new" : Str) = "unlike") = False) ∧ ((("new" : Str) = "one") = False) ∧ ((("new" : Str) = "beside") = False) ∧ ((("new" : Str) = "call") = False) ∧ ((("new" : Str) = "hole") = False) ∧ ((("call" : Str) = "send") = False) ∧ ((("call" : Str) = "take") = False) ∧ ((("call" : Str) = "wait") = False) ∧ ((("call" : Str) = "sends") = False) ∧ ((("call" : Str) = "takes") = False) ∧ ((("call" : Str) = "alike") = False) ∧ ((("call" : Str) = "unlike") = False) ∧ ((("call" : Str) = "one") = False) ∧ ((("call" : Str) = "beside") = False) ∧ ((("call" : Str) = "new") = False) ∧ ((("call" : Str) = "hole") = False) ∧ ((("hole" : Str) = "send") = False) ∧ ((("hole" : Str) = "take") = False) ∧ ((("hole" : Str) = "wait") = False) ∧ ((("hole" : Str) = "sends") = False) ∧ ((("hole" : Str) = "takes") = False) ∧ ((("hole" : Str) = "alike") = False) ∧ ((("hole" : Str) = "unlike") = False) ∧ ((("hole" : Str) = "one") = False) ∧ ((("hole" : Str) = "beside") = False) ∧ ((("hole" : Str) = "new") = False) ∧ ((("hole" : Str) = "call") = False) := ⟨eq_false (by decide +kernel), eq_false (by decide +kernel), eq_false (by decide +kernel), eq_false (by decide +kernel), eq_false (by decide +kernel), eq_false (by decide +kernel), eq_false (by decide +kernel), eq_false (by decide +kernel), eq_false (by decide +kernel), eq_false (by decide +kernel), eq_false (by decide +kernel), eq_false (by decide +kernel), eq_false (by decide +kernel), eq_false (by decide +kernel), eq_false (by decide +kernel), eq_false (by decide +kernel), eq_false (by decide +kernel), eq_false (by decide +kernel), eq_false (by decide +kernel), eq_false (by decide +kernel), eq_false (by decide +kernel), eq_false (by decide +kernel), eq_false (by decide +kernel), eq_false (by decide +kernel), eq_false (by decide +kernel), eq_false (by decide +kernel), eq_false (by decide +kernel), eq_false (by decide +kernel), eq_false (by decide +kernel), eq_false (by decide +kernel), eq_false (by decide +kernel), eq_false (by decide +kernel), eq_false (by decide +kernel), eq_false (by decide +kernel), eq_false (by decide +kernel), eq_false (by decide +kernel), eq_false (by decide +kernel), eq_false (by decide +kernel), eq_false (by decide +kernel), eq_false (by decide +kernel), eq_false (by decide +kernel), eq_false (by decide +kernel), eq_false (by decide +kernel), eq_false (by decide +kernel), eq_false (by decide +kernel), eq_false (by decide +kernel), eq_false (by decide +kernel), eq_false (by decide +kernel), eq_false (by decide +kernel), eq_false (by decide +kernel), eq_false (by decide +kernel), eq_false (by decide +kernel), eq_false (by decide +kernel), eq_false (by decide +kernel), eq_false (by decide +kernel), eq_false (by decide +kernel), eq_false (by decide +kernel), eq_false (by decide +kernel), eq_false (by decide +kernel), eq_false (by decide +kernel), eq_false (by decide +kernel), eq_false (by decide +kernel), eq_false (by decide +kernel), eq_false (by decide +kernel), eq_false (by decide +kernel), eq_false (by decide +kernel), eq_false (by decide +kernel), eq_false (by decide +kernel), eq_false (by decide +kernel), eq_false (by decide +kernel), eq_false (by decide +kernel), eq_false (by decide +kernel), eq_false (by decide +kernel), eq_false (by decide +kernel), eq_false (by decide +kernel), eq_false (by decide +kernel), eq_false (by decide +kernel), eq_false (by decide +kernel), eq_false (by decide +kernel), eq_false (by decide +kernel), eq_false (by decide +kernel), eq_false (by decide +kernel), eq_false (by decide +kernel), eq_false (by decide +kernel), eq_false (by decide +kernel), eq_false (by decide +kernel), eq_false (by decide +kernel), eq_false (by decide +kernel), eq_false (by decide +kernel), eq_false (by decide +kernel), eq_false (by decide +kernel), eq_false (by decide +kernel), eq_false (by decide +kernel), eq_false (by decide +kernel), eq_false (by decide +kernel), eq_false (by decide +kernel), eq_false (by decide +kernel), eq_false (by decide +kernel), eq_false (by decide +kernel), eq_false (by decide +kernel), eq_false (by decide +kernel), eq_false (by decide +kernel), eq_false (by decide +kernel), eq_false (by decide +kernel), eq_false (by decide +kernel), eq_false (by decide +kernel), eq_false (by decide +kernel), eq_false (by decide +kernel), eq_false (by decide +kernel), eq_false (by decide +kernel), eq_false (by decide +kernel), eq_false (by decide +kernel), eq_false (by decide +kernel), eq_false (by decide +kernel), eq_false (by decide +kernel), eq_false (by decide +kernel), eq_false (by decide +kernel), eq_false (by decide +kernel), eq_false (by decide +kernel), eq_false (by decide +kernel), eq_false (by decide +kernel), eq_false (by decide +kernel), eq_false (by decide +kernel), eq_false (by decide +kernel), eq_false (by decide +kernel), eq_false (by decide +kernel), eq_false (by decide +kernel), eq_false (by decide +kernel), eq_false (by decide +kernel), eq_false (by decide +kernel), eq_false (by decide +kernel), eq_false (by decide +kernel)⟩
theorem eqv_st {x : Str} {ys : List PyData} : PyData.eqv (.str x) (.tuple ys) = false := rfl
theorem eqv_si {x : Str} {i : Int} : PyData.eqv (.str x) (.int i) = false := rfl
theorem eqv_ts {x : Str} {ys : List PyData} : PyData.eqv (.tuple ys) (.str x) = false := rfl
theorem eqv_it {i : Int} {ys : List PyData} : PyData.eqv (.int i) (.tuple ys) = false := rfl
theorem eqv_is {i : Int} {x : Str} : PyData.eqv (.int i) (.str x) = false := rfl
theorem eqv_ti {i : Int} {ys : List PyData} : PyData.eqv (.tuple ys) (.int i) = false := rfl
theorem eqv_nt {ys : List PyData} : PyData.eqv .none (.tuple ys) = false := rfl
theorem eqv_ns {x : Str} : PyData.eqv .none (.str x) = false := rfl
theorem eqv_lt {xs ys : List PyData} : PyData.eqv (.list xs) (.tuple ys) = false := rfl
theorem eqv_tt {xs ys : List PyData} : PyData.eqv (.tuple xs) (.tuple ys) = PyData.eqvAll xs ys := rfl
theorem eqv_ll {xs ys : List PyData} : PyData.eqv (.list xs) (.list ys) = PyData.eqvAll xs ys := rfl
theorem eqvA_nn : PyData.eqvAll [] [] = true := rfl
theorem eqvA_cc {x y : PyData} {xs ys : List PyData} : PyData.eqvAll (x :: xs) (y :: ys) = (PyData.eqv x y && PyData.eqvAll xs ys) := rfl
theorem eqvA_nc {y : PyData} {ys : List PyData} : PyData.eqvAll [] (y :: ys) = false := rfl
theorem eqvA_cn {y : PyData} {ys : List PyData} : PyData.eqvAll (y :: ys) [] = false := rfl
theorem brV_or {b c : Bool} : brV (.d (.bool b)) m (.ok (.d (.bool true)) m) (.ok (.d (.bool c)) m) = .ok (.d (.bool (b || c))) m := by cases b <;> rfl
theorem brV_and {b c : Bool} : brV (.d (.bool b)) m (.ok (.d (.bool c)) m) (.ok (.d (.bool false)) m) = .ok (.d (.bool (b && c))) m := by cases b <;> rfl
theorem eqvA_xn {xs : List PyData} : PyData.eqvAll xs [] = xs.isEmpty := by cases xs <;> rfl
end
end MN

set_option maxRecDepth 100000
set_option maxHeartbeats 4000000
/-! MnPl: plain laws about the evaluator: a call, a draw. -/
namespace MN
open PySem

section
variable {T : Tbl}
theorem call_run {f : Str} {fd : FD} {n : Nat} {vs : List Val} {m : Store} (h : T.fn f = some fd) (he : fd.exc = none) (hd : fd.dfl = []) (hl : vs.length = fd.np) :
    (cxt T (n + 1)).call f vs m = ret fd.keep m.length (evSs (cxt T n) fd.body (vs.map (fun v => some (.v v)) ++ List.replicate (fd.nl - vs.length) none) m) := by
  show run T (cxt T n) f vs m = _
  unfold run
  rw [h]
  simp only [he]
  have e : fill fd.np fd.dfl vs = some vs := by
    unfold fill
    rw [hd]
    simp [hl]
  rw [e]
end

theorem call_exc {T : Tbl} {f g : Str} {fd : FD} {n : Nat} {x : PyData} {m : Store} (h : T.fn f = some fd) (he : fd.exc = some [g]) :
    (cxt T (n + 1)).call f [.d x] m = .ex ⟨f, [(g, x)]⟩ m := by
  show run T (cxt T n) f [.d x] m = _
  unfold run
  rw [h]
  simp only [he]
  rfl
theorem rangeD_0 (n : Nat) : rangeD 0 (n : Int) = (List.range n).map fun (i : Nat) => PyData.int (i : Int) := by
  unfold rangeD
  have e : ((n : Int) - 0).toNat = n := by omega
  rw [e]
  refine List.map_congr_left fun i _ => ?_
  rw [Int.zero_add]
theorem rgOk_n {n : Nat} (h : n ≤ 1000000) : rgOk 0 (n : Int) = true := by
  unfold rgOk
  have h1 : -1000000 ≤ (n : Int) := by omega
  have h2 : (n : Int) ≤ 1000000 := by omega
  simp [h1, h2]
/-! ### the drawn state -/
structure DS where
  cells : List Int
  lefts : List Int
  at_ : Nat
def DS.st (s : DS) (r : Store) : Store := .lst (s.lefts.map .int) :: .dic [(.inr "cells", .d (.list (s.cells.map .int))), (.inr "lefts", .loc 0), (.inr "at", .d (.int s.at_))] :: r
structure DS.Ok (s : DS) (B : Nat) : Prop where
  ne : s.cells ≠ []
  len : s.lefts.length = s.cells.length
  at_ : s.at_ ≤ B
theorem DS.Ok.mono {s : DS} {B C : Nat} (h : s.Ok B) (l : B ≤ C) : s.Ok C := ⟨h.ne, h.len, Nat.le_trans h.at_ l⟩
def fd_mixed : FD := ⟨2, 2, [], [.asg (.v 0) (.op .mod (.bi .int [(.var 0)]) (.cst (.int 2147483647))), .ret (.op .mod (.op .mul (.op .mod (.op .add (.op .add (.op .mul (.var 0) (.op .add (.cst (.int 48271)) (.op .mul (.op .mul (.cst (.int 2)) (.var 1)) (.var 1)))) (.op .mul (.cst (.int 69621)) (.var 1))) (.cst (.int 11))) (.cst (.int 2147483647))) (.cst (.int 69621))) (.cst (.int 2147483629)))], false, none⟩
theorem mulOk_l {i j : Int} (h1 : -Bits < i) (h2 : i < Bits) : mulOk i j = true := by
  unfold mulOk
  simp [h1, h2]
theorem mulOk_r {i j : Int} (h1 : -Bits < j) (h2 : j < Bits) : mulOk i j = true := by
  unfold mulOk
  simp [h1, h2]
theorem mixed_ok {T : Tbl} (h : T.fn "_law_mixed" = some fd_mixed) (n : Nat) (c k : Int) (hk : 0 ≤ k) (hk2 : k < 1000000000) (m : Store) :
    ∃ v : Int, 0 ≤ v ∧ v < 2147483629 ∧ (cxt T (n + 1)).call "_law_mixed" [.d (.int c), .d (.int k)] m = .ok (.d (.int v)) m := by
  have hm := Int.emod_nonneg c (show (2147483647 : Int) ≠ 0 by decide)
  have hm2 := Int.emod_lt_of_pos c (show (0 : Int) < 2147483647 by decide)
  refine ⟨((c % 2147483647 * (48271 + 2 * k * k) + 69621 * k + 11) % 2147483647 * 69621) % 2147483629, Int.emod_nonneg _ (by decide), Int.emod_lt_of_pos _ (by decide), ?_⟩
  rw [call_run h rfl rfl rfl]
  have m1 : mulOk 2 k = true := mulOk_l (by decide) (by decide)
  have m2 : mulOk (2 * k) k = true := mulOk_r (by unfold Bits; omega) (by unfold Bits; omega)
  have m3 : mulOk (c % 2147483647) (48271 + 2 * k * k) = true := mulOk_l (by unfold Bits; omega) (by unfold Bits; omega)
  have m4 : mulOk 69621 k = true := mulOk_l (by decide) (by decide)
  have m5 : mulOk ((c % 2147483647 * (48271 + 2 * k * k) + 69621 * k + 11) % 2147483647) 69621 = true := mulOk_r (by decide) (by decide)
  have p1 : (0 : Int) < 2147483647 := by decide
  have p2 : (0 : Int) < 2147483629 := by decide
  simp only [fd_mixed, b_ok, b_ex, s_nx, s_rt, s_ex, s_bk, s_ct, o_ok, o_ex, t_nx, t_ct, t_bk, t_rt, t_ex, ofO_s, ofV_s, ofB_s, getV_s, okTup_s, okLst_s, datas_nil, cons_s, datas_cons, e_var, e_cst, e_tup, e_lst, e_nlst, e_op, negV_i, e_neg, e_cmp, brV_t, brV_f, e_chain, e_and, e_or, notV_b, e_not, e_ite, e_call, e_bi, e_bloc, e_mt, e_idx, e_gidx, e_gin, e_sl, part_0, part_1, compW_items, compZ_t, compZ_f, e_comp, optD_d, noEx_ok, p_and, p_or, p_not, boolV_b, p_cmp, p_chain, p_gin, p_tst, es_nil, es_cons, ts_nil, ts_cons, nxO_s, k_asg, k_par, k_set, k_ex, k_ret, k_ret0, k_ifs, forW_items, k_for, k_whl, k_raise, try_ex, try_nx, try_rt, k_try, k_brk, k_cnt, k_pass, ks_nil, ks_cons, v_add, v_sub, v_mul, v_fdiv, v_mod, v_pow, v_tt, v_ll, v_ss, v_tm, v_lm, c_eq, c_ne, c_lt, c_ltt, c_le, c_gt, c_ge, c_isN, c_notN, i_list, i_tup, i_loc, im_l, im_s, im_i, g_idx, g_in, g_nin, sl_t, sl_l, tr_b, tr_n, tr_i, tr_l, tr_t, f_lenl, f_lent, f_int, f_tupl, f_tupt, f_lstl, f_lstt, f_lr, f_lr2, f_trg, ofI_s, max_s, ofM_s, f_max, f_min1, f_max2, f_min2, f_repr, f_isInt, f_isBool, f_isStr, f_isTup, f_isList, a_v, a_t, as_nil, as_cons, w_l, w_t, rgW_t, w_r, w_r2, w_r3, r_rt, r_nx, r_ex, r_keep, Option.bind_some, List.length_cons, List.length_nil, List.getElem?_cons_zero, List.getElem?_cons_succ, List.set_cons_zero, List.set_cons_succ, if_true, if_false, ite_true, ite_false, eq_self, Bool.not_true, Bool.not_false, Bool.true_eq_false, Bool.false_eq_true, decide_true, decide_false, Nat.zero_add, Nat.reduceAdd, Nat.reduceLT, Nat.reduceSub, Nat.sub_self, List.map_cons, List.map_nil, List.nil_append, List.cons_append, List.replicate, and_self, and_true, true_and, setL_s, set_loc, so_l, so_s, so_i, eqv_ii, eqv_ss, eqv_ln, eqv_tn, eqv_ni, eqv_in, eqv_nn, okIf_eqi, okIf_eqs, okIf_eqb, okIf_eqn, okIf_eqln, okIf_eqtn, at_0, at_1, at_2, n0, n1, n2, n3, n4, n5, n6, n7, n8, n9, n10, Int.reduceEq, Int.reduceLT, Int.reduceLE, Int.reduceSub, Int.reduceAdd, Int.reduceNeg, Int.reduceMul, decide_not, okIf_T, Nat.reduceLeDiff, Nat.zero_le, wipe_nil, wipe_cons, e_ndic, e_fld2, fldV_s, look_1, hs_rt, hh_no, hh_yes, at_3, at_4, e_act, getA_s, e_isx, e_callL, pf_nil, pf_v, pf_n, ne_nil, ne_v, ne_l, ne_n, e_nadd, py_d, k_par3, w_el, w_et, f_sset, f_setLen, f_lstEnum, f_sum, ints_nil, ints_cons, consI_s, ints_map, hs_nx, inD_i, inD_s, c_inT, c_inL, c_niT, c_niL, any_ints, words_ne, eqv_st, eqv_si, eqv_ts, eqv_it, eqv_is, eqv_ti, eqv_nt, eqv_ns, eqv_lt, eqv_tt, eqv_ll, eqvA_nn, eqvA_cc, eqvA_nc, eqvA_cn, List.any_cons, List.any_nil, Bool.or_false, Bool.false_or, Bool.or_true, Bool.true_or, Bool.and_false, Bool.false_and, Bool.and_true, Bool.true_and, brV_or, brV_and, eqvA_xn, List.isEmpty_cons, List.isEmpty_nil, f_sortD, hs0_rt, hs0_nx, hh_yes0, okIf_t m1, okIf_t m2, okIf_t m3, okIf_t m4, okIf_t m5, okIf_t p1, okIf_t p2, List.take_length]
def fd_draw : FD := ⟨2, 6, [], [.asg (.v 2) (.idx (.var 0) (.cst (.str ("at" : Str)))), .set (.var 0) (.cst (.str ("at" : Str))) (.op .add (.var 2) (.cst (.int 1))), .asg (.v 3) (.op .mod (.bi .int [(.var 2)]) (.bi .len [(.idx (.var 0) (.cst (.str ("cells" : Str))))])), .asg (.v 4) (.idx (.idx (.var 0) (.cst (.str ("lefts" : Str)))) (.var 3)), .ifs (.cmp .gt (.var 4) (.cst (.int 0))) [.set (.idx (.var 0) (.cst (.str ("lefts" : Str)))) (.var 3) (.op .fdiv (.var 4) (.var 1)), .ret (.op .mod (.bi .int [(.var 4)]) (.var 1))] [], .asg (.v 5) (.call ("_law_mixed" : Str) [(.call ("_law_mixed" : Str) [(.idx (.idx (.var 0) (.cst (.str ("cells" : Str)))) (.var 3)), (.var 2)]), (.op .add (.cst (.int 40)) (.var 2))]), .ret (.op .mod (.op .fdiv (.bi .int [(.op .add (.op .mul (.var 5) (.cst (.int 2147483647))) (.call ("_law_mixed" : Str) [(.var 5), (.op .add (.cst (.int 7)) (.var 2))]))]) (.cst (.int 64))) (.var 1))], false, none⟩
theorem atI_nat {xs : List PyData} {k : Nat} (h : k < xs.length) : atI xs (k : Int) = xs[k]? := by
  unfold atI ixN
  have h1 : (0 : Int) ≤ (k : Int) := Int.natCast_nonneg k
  have h2 : (k : Int) < (xs.length : Int) := Int.ofNat_lt.mpr h
  simp only [h1, h2, if_true, Option.bind_some, Int.toNat_natCast]
theorem ixN_nat {n k : Nat} (h : k < n) : ixN n (k : Int) = some k := by
  unfold ixN
  have h1 : (0 : Int) ≤ (k : Int) := Int.natCast_nonneg k
  have h2 : (k : Int) < (n : Int) := Int.ofNat_lt.mpr h
  simp only [h1, h2, if_true, Int.toNat_natCast]
theorem lookK_cells {c l a : Val} : lookK [((.inr "cells" : Ky), c), (.inr "lefts", l), (.inr "at", a)] (.inr "cells") = some c := rfl
theorem lookK_lefts {c l a : Val} : lookK [((.inr "cells" : Ky), c), (.inr "lefts", l), (.inr "at", a)] (.inr "lefts") = some l := rfl
theorem lookK_at {c l a : Val} : lookK [((.inr "cells" : Ky), c), (.inr "lefts", l), (.inr "at", a)] (.inr "at") = some a := rfl
theorem setK_at {c l a : Val} {b : PyData} {n : Nat} {m : Store} : setK (some (.inr "at")) [((.inr "cells" : Ky), c), (.inr "lefts", l), (.inr "at", a)] b n m = .ok () (m.set n (.dic [((.inr "cells" : Ky), c), (.inr "lefts", l), (.inr "at", .d b)])) := rfl
theorem putK_at {c l a b : Val} : putK [((.inr "cells" : Ky), c), (.inr "lefts", l), (.inr "at", a)] (.inr "at") b = [((.inr "cells" : Ky), c), (.inr "lefts", l), (.inr "at", b)] := rfl
theorem take2 {a b : MO} {r : Store} : (a :: b :: r).take (r.length + 1 + 1) = a :: b :: r := by
  rw [List.take_of_length_le]
  exact Nat.le_refl _
theorem DS.take {s : DS} {r : Store} {k : Nat} (h : k = r.length + 2) : (s.st r).take k = s.st r := by
  subst h
  rw [List.take_of_length_le]
  exact Nat.le_refl _
theorem draw_ok {T : Tbl} (h : T.fn "_law_draw" = some fd_draw) (h2 : T.fn "_law_mixed" = some fd_mixed) (n : Nat) {s : DS} {B : Nat} (ok : s.Ok B) (hB : B < 900000000) {lim : Int} (l1 : 0 < lim) (l2 : lim < 1073741824) (r : Store) :
    ∃ (v : Nat) (s' : DS), (v : Int) < lim ∧ s'.Ok (B + 1) ∧ (cxt T (n + 2)).call "_law_draw" [.loc 1, .d (.int lim)] (s.st r) = .ok (.d (.int v)) (s'.st r) := by
  have hl : 0 < s.cells.length := List.length_pos_iff.mpr ok.ne
  have hle := ok.len
  have hat := ok.at_
  have hp : s.at_ % s.cells.length < s.cells.length := Nat.mod_lt _ hl
  have hpl : s.at_ % s.cells.length < s.lefts.length := by omega
  have e1 : atI (s.lefts.map PyData.int) ((s.at_ % s.cells.length : Nat) : Int) = some (.int s.lefts[s.at_ % s.cells.length]) := by
    rw [atI_nat (by rw [List.length_map]; exact hpl), List.getElem?_map, List.getElem?_eq_getElem hpl]
    rfl
  have e2 : atI (s.cells.map PyData.int) ((s.at_ % s.cells.length : Nat) : Int) = some (.int s.cells[s.at_ % s.cells.length]) := by
    rw [atI_nat (by rw [List.length_map]; exact hp), List.getElem?_map, List.getElem?_eq_getElem hp]
    rfl
  have e3 : ((s.at_ : Int) % (s.cells.length : Int)) = ((s.at_ % s.cells.length : Nat) : Int) := rfl
  have e4 : ixN s.lefts.length ((s.at_ % s.cells.length : Nat) : Int) = some (s.at_ % s.cells.length) := ixN_nat hpl
  have hl' : (0 : Int) < (s.cells.length : Int) := by omega
  rw [call_run h rfl rfl rfl]
  generalize hq : s.at_ % s.cells.length = q at *
  by_cases hz : (0 : Int) < s.lefts[q]
  · refine ⟨(s.lefts[q] % lim).toNat, ⟨s.cells, s.lefts.set q (s.lefts[q] / lim), s.at_ + 1⟩, ?_, ⟨ok.ne, by rw [List.length_set]; exact ok.len, by show s.at_ + 1 ≤ B + 1; omega⟩, ?_⟩
    · have a := Int.emod_nonneg s.lefts[q] (show lim ≠ 0 by omega)
      have b := Int.emod_lt_of_pos s.lefts[q] l1
      omega
    · have a := Int.emod_nonneg s.lefts[q] (show lim ≠ 0 by omega)
      have hc : ((s.lefts[q] % lim).toNat : Int) = s.lefts[q] % lim := Int.toNat_of_nonneg a
      have hd : 0 < lim ∧ lim < 1073741824 := ⟨l1, l2⟩
      simp only [fd_draw, DS.st, b_ok, b_ex, s_nx, s_rt, s_ex, s_bk, s_ct, o_ok, o_ex, t_nx, t_ct, t_bk, t_rt, t_ex, ofO_s, ofV_s, ofB_s, getV_s, okTup_s, okLst_s, datas_nil, cons_s, datas_cons, e_var, e_cst, e_tup, e_lst, e_nlst, e_op, negV_i, e_neg, e_cmp, brV_t, brV_f, e_chain, e_and, e_or, notV_b, e_not, e_ite, e_call, e_bi, e_bloc, e_mt, e_idx, e_gidx, e_gin, e_sl, part_0, part_1, compW_items, compZ_t, compZ_f, e_comp, optD_d, noEx_ok, p_and, p_or, p_not, boolV_b, p_cmp, p_chain, p_gin, p_tst, es_nil, es_cons, ts_nil, ts_cons, nxO_s, k_asg, k_par, k_set, k_ex, k_ret, k_ret0, k_ifs, forW_items, k_for, k_whl, k_raise, try_ex, try_nx, try_rt, k_try, k_brk, k_cnt, k_pass, ks_nil, ks_cons, v_add, v_sub, v_mul, v_fdiv, v_mod, v_pow, v_tt, v_ll, v_ss, v_tm, v_lm, c_eq, c_ne, c_lt, c_ltt, c_le, c_gt, c_ge, c_isN, c_notN, i_list, i_tup, i_loc, im_l, im_s, im_i, g_idx, g_in, g_nin, sl_t, sl_l, tr_b, tr_n, tr_i, tr_l, tr_t, f_lenl, f_lent, f_int, f_tupl, f_tupt, f_lstl, f_lstt, f_lr, f_lr2, f_trg, ofI_s, max_s, ofM_s, f_max, f_min1, f_max2, f_min2, f_repr, f_isInt, f_isBool, f_isStr, f_isTup, f_isList, a_v, a_t, as_nil, as_cons, w_l, w_t, rgW_t, w_r, w_r2, w_r3, r_rt, r_nx, r_ex, r_keep, Option.bind_some, List.length_cons, List.length_nil, List.getElem?_cons_zero, List.getElem?_cons_succ, List.set_cons_zero, List.set_cons_succ, if_true, if_false, ite_true, ite_false, eq_self, Bool.not_true, Bool.not_false, Bool.true_eq_false, Bool.false_eq_true, decide_true, decide_false, Nat.zero_add, Nat.reduceAdd, Nat.reduceLT, Nat.reduceSub, Nat.sub_self, List.map_cons, List.map_nil, List.nil_append, List.cons_append, List.replicate, and_self, and_true, true_and, setL_s, set_loc, so_l, so_s, so_i, eqv_ii, eqv_ss, eqv_ln, eqv_tn, eqv_ni, eqv_in, eqv_nn, okIf_eqi, okIf_eqs, okIf_eqb, okIf_eqn, okIf_eqln, okIf_eqtn, at_0, at_1, at_2, n0, n1, n2, n3, n4, n5, n6, n7, n8, n9, n10, Int.reduceEq, Int.reduceLT, Int.reduceLE, Int.reduceSub, Int.reduceAdd, Int.reduceNeg, Int.reduceMul, decide_not, okIf_T, Nat.reduceLeDiff, Nat.zero_le, wipe_nil, wipe_cons, e_ndic, e_fld2, fldV_s, look_1, hs_rt, hh_no, hh_yes, at_3, at_4, e_act, getA_s, e_isx, e_callL, pf_nil, pf_v, pf_n, ne_nil, ne_v, ne_l, ne_n, e_nadd, py_d, k_par3, w_el, w_et, f_sset, f_setLen, f_lstEnum, f_sum, ints_nil, ints_cons, consI_s, ints_map, hs_nx, inD_i, inD_s, c_inT, c_inL, c_niT, c_niL, any_ints, words_ne, eqv_st, eqv_si, eqv_ts, eqv_it, eqv_is, eqv_ti, eqv_nt, eqv_ns, eqv_lt, eqv_tt, eqv_ll, eqvA_nn, eqvA_cc, eqvA_nc, eqvA_cn, List.any_cons, List.any_nil, Bool.or_false, Bool.false_or, Bool.or_true, Bool.true_or, Bool.and_false, Bool.false_and, Bool.and_true, Bool.true_and, brV_or, brV_and, eqvA_xn, List.isEmpty_cons, List.isEmpty_nil, f_sortD, hs0_rt, hs0_nx, hh_yes0, lookK_cells, lookK_lefts, lookK_at, setK_at, List.length_map, e3, okIf_t hl', okIf_t hd, okIf_t l1, e1, e2, e4, hz, hc, List.map_set, take2, Int.natCast_add, Int.natCast_one]
  · obtain ⟨v1, a1, b1, c1⟩ := mixed_ok h2 n s.cells[q] s.at_ (by omega) (by omega) (.lst (s.lefts.map .int) :: .dic [(.inr "cells", .d (.list (s.cells.map .int))), (.inr "lefts", .loc 0), (.inr "at", .d (.int ((s.at_ : Int) + 1)))] :: r)
    obtain ⟨v2, a2, b2, c2⟩ := mixed_ok h2 n v1 (40 + s.at_) (by omega) (by omega) (.lst (s.lefts.map .int) :: .dic [(.inr "cells", .d (.list (s.cells.map .int))), (.inr "lefts", .loc 0), (.inr "at", .d (.int ((s.at_ : Int) + 1)))] :: r)
    obtain ⟨v3, a3, b3, c3⟩ := mixed_ok h2 n v2 (7 + s.at_) (by omega) (by omega) (.lst (s.lefts.map .int) :: .dic [(.inr "cells", .d (.list (s.cells.map .int))), (.inr "lefts", .loc 0), (.inr "at", .d (.int ((s.at_ : Int) + 1)))] :: r)
    refine ⟨((v2 * 2147483647 + v3) / 64 % lim).toNat, ⟨s.cells, s.lefts, s.at_ + 1⟩, ?_, ⟨ok.ne, ok.len, by show s.at_ + 1 ≤ B + 1; omega⟩, ?_⟩
    · have a := Int.emod_nonneg ((v2 * 2147483647 + v3) / 64) (show lim ≠ 0 by omega)
      have b := Int.emod_lt_of_pos ((v2 * 2147483647 + v3) / 64) l1
      omega
    · have a := Int.emod_nonneg ((v2 * 2147483647 + v3) / 64) (show lim ≠ 0 by omega)
      have hc : (((v2 * 2147483647 + v3) / 64 % lim).toNat : Int) = (v2 * 2147483647 + v3) / 64 % lim := Int.toNat_of_nonneg a
      have m1 : mulOk v2 2147483647 = true := mulOk_r (by decide) (by decide)
      have d1 : (0 : Int) < 64 ∧ (64 : Int) < 1073741824 := by decide
      simp only [fd_draw, DS.st, b_ok, b_ex, s_nx, s_rt, s_ex, s_bk, s_ct, o_ok, o_ex, t_nx, t_ct, t_bk, t_rt, t_ex, ofO_s, ofV_s, ofB_s, getV_s, okTup_s, okLst_s, datas_nil, cons_s, datas_cons, e_var, e_cst, e_tup, e_lst, e_nlst, e_op, negV_i, e_neg, e_cmp, brV_t, brV_f, e_chain, e_and, e_or, notV_b, e_not, e_ite, e_call, e_bi, e_bloc, e_mt, e_idx, e_gidx, e_gin, e_sl, part_0, part_1, compW_items, compZ_t, compZ_f, e_comp, optD_d, noEx_ok, p_and, p_or, p_not, boolV_b, p_cmp, p_chain, p_gin, p_tst, es_nil, es_cons, ts_nil, ts_cons, nxO_s, k_asg, k_par, k_set, k_ex, k_ret, k_ret0, k_ifs, forW_items, k_for, k_whl, k_raise, try_ex, try_nx, try_rt, k_try, k_brk, k_cnt, k_pass, ks_nil, ks_cons, v_add, v_sub, v_mul, v_fdiv, v_mod, v_pow, v_tt, v_ll, v_ss, v_tm, v_lm, c_eq, c_ne, c_lt, c_ltt, c_le, c_gt, c_ge, c_isN, c_notN, i_list, i_tup, i_loc, im_l, im_s, im_i, g_idx, g_in, g_nin, sl_t, sl_l, tr_b, tr_n, tr_i, tr_l, tr_t, f_lenl, f_lent, f_int, f_tupl, f_tupt, f_lstl, f_lstt, f_lr, f_lr2, f_trg, ofI_s, max_s, ofM_s, f_max, f_min1, f_max2, f_min2, f_repr, f_isInt, f_isBool, f_isStr, f_isTup, f_isList, a_v, a_t, as_nil, as_cons, w_l, w_t, rgW_t, w_r, w_r2, w_r3, r_rt, r_nx, r_ex, r_keep, Option.bind_some, List.length_cons, List.length_nil, List.getElem?_cons_zero, List.getElem?_cons_succ, List.set_cons_zero, List.set_cons_succ, if_true, if_false, ite_true, ite_false, eq_self, Bool.not_true, Bool.not_false, Bool.true_eq_false, Bool.false_eq_true, decide_true, decide_false, Nat.zero_add, Nat.reduceAdd, Nat.reduceLT, Nat.reduceSub, Nat.sub_self, List.map_cons, List.map_nil, List.nil_append, List.cons_append, List.replicate, and_self, and_true, true_and, setL_s, set_loc, so_l, so_s, so_i, eqv_ii, eqv_ss, eqv_ln, eqv_tn, eqv_ni, eqv_in, eqv_nn, okIf_eqi, okIf_eqs, okIf_eqb, okIf_eqn, okIf_eqln, okIf_eqtn, at_0, at_1, at_2, n0, n1, n2, n3, n4, n5, n6, n7, n8, n9, n10, Int.reduceEq, Int.reduceLT, Int.reduceLE, Int.reduceSub, Int.reduceAdd, Int.reduceNeg, Int.reduceMul, decide_not, okIf_T, Nat.reduceLeDiff, Nat.zero_le, wipe_nil, wipe_cons, e_ndic, e_fld2, fldV_s, look_1, hs_rt, hh_no, hh_yes, at_3, at_4, e_act, getA_s, e_isx, e_callL, pf_nil, pf_v, pf_n, ne_nil, ne_v, ne_l, ne_n, e_nadd, py_d, k_par3, w_el, w_et, f_sset, f_setLen, f_lstEnum, f_sum, ints_nil, ints_cons, consI_s, ints_map, hs_nx, inD_i, inD_s, c_inT, c_inL, c_niT, c_niL, any_ints, words_ne, eqv_st, eqv_si, eqv_ts, eqv_it, eqv_is, eqv_ti, eqv_nt, eqv_ns, eqv_lt, eqv_tt, eqv_ll, eqvA_nn, eqvA_cc, eqvA_nc, eqvA_cn, List.any_cons, List.any_nil, Bool.or_false, Bool.false_or, Bool.or_true, Bool.true_or, Bool.and_false, Bool.false_and, Bool.and_true, Bool.true_and, brV_or, brV_and, eqvA_xn, List.isEmpty_cons, List.isEmpty_nil, f_sortD, hs0_rt, hs0_nx, hh_yes0, lookK_cells, lookK_lefts, lookK_at, setK_at, List.length_map, e3, okIf_t hl', okIf_t d1, okIf_t m1, okIf_t l1, e1, e2, e4, hz, c1, c2, c3, hc, take2, Int.natCast_add, Int.natCast_one]
end MN

set_option maxRecDepth 100000
set_option maxHeartbeats 4000000
/-! MnShow: how long a shown value is at most; _law_like. -/
namespace MN
open PySem
mutual
/-- a bound of the length of what repr tells -/
def wt : PyData → Nat
  | .none => 4
  | .bool _ => 5
  | .int i => (Str.ofString (toString i)).length
  | .str x => (reprText x).length
  | .list xs => 2 + wts xs
  | .tuple xs => 3 + wts xs
  | .dict kvs => (PyData.dict kvs).shown.length
def wts : List PyData → Nat
  | [] => 0
  | x :: xs => wt x + 2 + wts xs
end
theorem listText_le (ts : List Str) : (listText ts).length ≤ 2 + piled ts := by
  match ts with
  | [] => exact Nat.le_refl 2
  | t :: r =>
    have z1 : (listText (t :: r)).length = (textFrom 1 ((("[" : Str) ++ ("" : String)) ++ t) r).length + 1 := strLen_append _ _
    have z2 : (((("[" : Str) ++ ("" : String)) ++ t) : Str).length = 1 + t.length := by
      simp only [strLen_append]
      rfl
    have z3 := piled_cons t r
    rw [textFrom_length_pos _ _ _ Nat.one_pos, z2] at z1
    omega
theorem tupleText_le (ts : List Str) : (tupleText ts).length ≤ 3 + piled ts := by
  have z1 : (tupleText ts).length = 1 + (Str.join ", " ts).length + (((if ts.length == 1 then ",)" else ")" : String) : Str)).length := by
    simp only [tupleText, strLen_append]
    rfl
  have z2 : (((if ts.length == 1 then ",)" else ")" : String) : Str)).length ≤ 2 := by
    cases ts.length == 1 <;> decide
  match ts, z1, z2 with
  | [], z1, z2 =>
    have z3 : (Str.join ", " ([] : List Str)).length = 0 := rfl
    omega
  | t :: r, z1, z2 =>
    have z3 := join_length_add (t :: r) (by simp)
    omega
mutual
theorem shown_le : ∀ x : PyData, x.shown.length ≤ wt x
  | .none => by
    rw [PyData.shown, wt]
    exact Nat.le_refl 4
  | .bool b => by
    rw [PyData.shown, wt]
    cases b <;> decide
  | .int i => by
    rw [PyData.shown, wt]
    exact Nat.le_refl _
  | .str x => by
    rw [PyData.shown, wt]
    exact Nat.le_refl _
  | .list xs => by
    rw [PyData.shown, wt]
    have := listText_le (PyData.shownAll xs)
    have := shownAll_le xs
    omega
  | .tuple xs => by
    rw [PyData.shown, wt]
    have := tupleText_le (PyData.shownAll xs)
    have := shownAll_le xs
    omega
  | .dict kvs => by
    rw [wt]
    exact Nat.le_refl _
theorem shownAll_le : ∀ xs : List PyData, piled (PyData.shownAll xs) ≤ wts xs
  | [] => by
    rw [PyData.shownAll]
    exact Nat.zero_le _
  | x :: xs => by
    rw [PyData.shownAll, piled_cons, wts]
    have := shown_le x
    have := shownAll_le xs
    omega
end
theorem wt_int {i : Int} {k : Nat} (h0 : 0 ≤ i) (hk : 0 < k) (h : i < 10 ^ k) : wt (.int i) ≤ k := by
  rw [wt]
  exact PyProof.Rows.toString_length_le h0 hk h
theorem wt_nat {i k : Nat} (hk : 0 < k) (h : i < 10 ^ k) : wt (.int (i : Int)) ≤ k := wt_int (Int.natCast_nonneg i) hk (by
  have : ((i : Nat) : Int) < ((10 ^ k : Nat) : Int) := Int.ofNat_lt.mpr h
  simpa using this)
theorem wts_le {α : Type} {d : α → PyData} {c : Nat} : ∀ {as : List α}, (∀ a ∈ as, wt (d a) ≤ c) → wts (as.map d) ≤ as.length * (c + 2)
  | [], _ => by
    rw [List.map_nil, wts]
    exact Nat.zero_le _
  | a :: as, h => by
    rw [List.map_cons, wts, List.length_cons, Nat.succ_mul]
    have := h a List.mem_cons_self
    have := wts_le (d := d) (c := c) fun x hx => h x (List.mem_cons_of_mem a hx)
    omega
theorem wts_cons {x : PyData} {xs : List PyData} : wts (x :: xs) = wt x + 2 + wts xs := by rw [wts]
theorem wts_nil : wts [] = 0 := by rw [wts]
theorem wt_tup {xs : List PyData} : wt (.tuple xs) = 3 + wts xs := by rw [wt]
theorem wt_lst {xs : List PyData} : wt (.list xs) = 2 + wts xs := by rw [wt]
theorem wt_bool {b : Bool} : wt (.bool b) = 5 := by rw [wt]
theorem wt_none : wt .none = 4 := by rw [wt]
/-! what can be shown, and how deep it is -/
theorem sh_all {α : Type} {d : α → PyData} : ∀ {as : List α}, (∀ a ∈ as, (d a).showable = true) → PyData.showableAll (as.map d) = true
  | [], _ => by rw [List.map_nil, PyData.showableAll]
  | a :: as, h => by
    rw [List.map_cons, PyData.showableAll, h a List.mem_cons_self, sh_all fun x hx => h x (List.mem_cons_of_mem a hx)]
    rfl
theorem sh_tup {xs : List PyData} : (PyData.tuple xs).showable = PyData.showableAll xs := by rw [PyData.showable]
theorem sh_lst {xs : List PyData} : (PyData.list xs).showable = PyData.showableAll xs := by rw [PyData.showable]
theorem sh_cons {x : PyData} {xs : List PyData} : PyData.showableAll (x :: xs) = (x.showable && PyData.showableAll xs) := by rw [PyData.showableAll]
theorem sh_nil : PyData.showableAll [] = true := by rw [PyData.showableAll]
theorem sh_bool {b : Bool} : (PyData.bool b).showable = true := by rw [PyData.showable]
theorem sh_none : PyData.none.showable = true := by rw [PyData.showable]
theorem sh_str {x : Str} : (PyData.str x).showable = true := by rw [PyData.showable]
theorem sh_nat {i : Nat} (h : i < 1000000) : (PyData.int (i : Int)).showable = true := by
  rw [PyData.showable]
  refine decide_eq_true ?_
  have e : ((i : Nat) : Int).natAbs = i := Int.natAbs_natCast i
  rw [e]
  by_cases z : i = 0
  · subst z
    decide
  · exact (Nat.log2_lt z).mpr (Nat.lt_of_lt_of_le h (by
      refine Nat.le_trans ?_ (Nat.pow_le_pow_right (n := 2) (by decide) (show 20 ≤ 1920 by decide))
      decide))
theorem dp_all {α : Type} {d : α → PyData} {k : Nat} : ∀ {as : List α}, (∀ a ∈ as, (d a).depth ≤ k) → PyData.depthAll (as.map d) ≤ k
  | [], _ => by
    rw [List.map_nil, PyData.depthAll]
    exact Nat.zero_le _
  | a :: as, h => by
    rw [List.map_cons, PyData.depthAll]
    exact Nat.max_le.mpr ⟨h a List.mem_cons_self, dp_all fun x hx => h x (List.mem_cons_of_mem a hx)⟩
theorem dp_tup {xs : List PyData} : (PyData.tuple xs).depth = PyData.depthAll xs + 1 := by rw [PyData.depth]
theorem dp_lst {xs : List PyData} : (PyData.list xs).depth = PyData.depthAll xs + 1 := by rw [PyData.depth]
theorem dp_cons {x : PyData} {xs : List PyData} : PyData.depthAll (x :: xs) = max x.depth (PyData.depthAll xs) := by rw [PyData.depthAll]
theorem dp_nil : PyData.depthAll [] = 0 := by rw [PyData.depthAll]
theorem dp_int {i : Int} : (PyData.int i).depth = 0 := by rw [PyData.depth]
theorem dp_str {i : Str} : (PyData.str i).depth = 0 := by rw [PyData.depth]
theorem dp_bool {i : Bool} : (PyData.bool i).depth = 0 := by rw [PyData.depth]
theorem dp_none : PyData.none.depth = 0 := by rw [PyData.depth]
theorem shOk_of {x : PyData} (h : x.showable = true) (hw : wt x ≤ 1000000) (hd : x.depth ≤ 64) : shOk x = true := by
  unfold shOk
  have := shown_le x
  rw [h, decide_eq_true hd, decide_eq_true (show x.shown.length ≤ SZ by unfold SZ; omega)]
  rfl
def b__law_like : List CS := [.ret (.cmp .eq (.bi .repr [(.var 0)]) (.bi .repr [(.var 1)]))]
def fd__law_like : FD := ⟨2, 2, [], b__law_like, false, none⟩
theorem like_ok {T : Tbl} (L : T.fn "_law_like" = some fd__law_like) (n : Nat) {x : PyData} (h : shOk x = true) (m : Store) : (cxt T (n + 1)).call "_law_like" [.d x, .d x] m = .ok (.d (.bool true)) m := by
  rw [call_run L rfl rfl rfl]
  simp only [fd__law_like, b__law_like, b_ok, b_ex, s_nx, s_rt, s_ex, s_bk, s_ct, o_ok, o_ex, t_nx, t_ct, t_bk, t_rt, t_ex, ofO_s, ofV_s, ofB_s, getV_s, okTup_s, okLst_s, datas_nil, cons_s, datas_cons, e_var, e_cst, e_tup, e_lst, e_nlst, e_op, negV_i, e_neg, e_cmp, brV_t, brV_f, e_chain, e_and, e_or, notV_b, e_not, e_ite, e_call, e_bi, e_bloc, e_mt, e_idx, e_gidx, e_gin, e_sl, part_0, part_1, compW_items, compZ_t, compZ_f, e_comp, optD_d, noEx_ok, p_and, p_or, p_not, boolV_b, p_cmp, p_chain, p_gin, p_tst, es_nil, es_cons, ts_nil, ts_cons, nxO_s, k_asg, k_par, k_set, k_ex, k_ret, k_ret0, k_ifs, forW_items, k_for, k_whl, k_raise, try_ex, try_nx, try_rt, k_try, k_brk, k_cnt, k_pass, ks_nil, ks_cons, v_add, v_sub, v_mul, v_fdiv, v_mod, v_pow, v_tt, v_ll, v_ss, v_tm, v_lm, c_eq, c_ne, c_lt, c_ltt, c_le, c_gt, c_ge, c_isN, c_notN, i_list, i_tup, i_loc, im_l, im_s, im_i, g_idx, g_in, g_nin, sl_t, sl_l, tr_b, tr_n, tr_i, tr_l, tr_t, f_lenl, f_lent, f_int, f_tupl, f_tupt, f_lstl, f_lstt, f_lr, f_lr2, f_trg, ofI_s, max_s, ofM_s, f_max, f_min1, f_max2, f_min2, f_repr, f_isInt, f_isBool, f_isStr, f_isTup, f_isList, a_v, a_t, as_nil, as_cons, w_l, w_t, rgW_t, w_r, w_r2, w_r3, r_rt, r_nx, r_ex, r_keep, Option.bind_some, List.length_cons, List.length_nil, List.getElem?_cons_zero, List.getElem?_cons_succ, List.set_cons_zero, List.set_cons_succ, if_true, if_false, ite_true, ite_false, eq_self, Bool.not_true, Bool.not_false, Bool.true_eq_false, Bool.false_eq_true, decide_true, decide_false, Nat.zero_add, Nat.reduceAdd, Nat.reduceLT, Nat.reduceSub, Nat.sub_self, List.map_cons, List.map_nil, List.nil_append, List.cons_append, List.replicate, and_self, and_true, true_and, setL_s, set_loc, so_l, so_s, so_i, eqv_ii, eqv_ss, eqv_ln, eqv_tn, eqv_ni, eqv_in, eqv_nn, okIf_eqi, okIf_eqs, okIf_eqb, okIf_eqn, okIf_eqln, okIf_eqtn, at_0, at_1, at_2, n0, n1, n2, n3, n4, n5, n6, n7, n8, n9, n10, Int.reduceEq, Int.reduceLT, Int.reduceLE, Int.reduceSub, Int.reduceAdd, Int.reduceNeg, Int.reduceMul, decide_not, okIf_T, Nat.reduceLeDiff, Nat.zero_le, wipe_nil, wipe_cons, e_ndic, e_fld2, fldV_s, look_1, hs_rt, hh_no, hh_yes, at_3, at_4, e_act, getA_s, e_isx, e_callL, pf_nil, pf_v, pf_n, ne_nil, ne_v, ne_l, ne_n, e_nadd, py_d, k_par3, w_el, w_et, f_sset, f_setLen, f_lstEnum, f_sum, ints_nil, ints_cons, consI_s, ints_map, hs_nx, inD_i, inD_s, c_inT, c_inL, c_niT, c_niL, any_ints, words_ne, eqv_st, eqv_si, eqv_ts, eqv_it, eqv_is, eqv_ti, eqv_nt, eqv_ns, eqv_lt, eqv_tt, eqv_ll, eqvA_nn, eqvA_cc, eqvA_nc, eqvA_cn, List.any_cons, List.any_nil, Bool.or_false, Bool.false_or, Bool.or_true, Bool.true_or, Bool.and_false, Bool.false_and, Bool.and_true, Bool.true_and, brV_or, brV_and, eqvA_xn, List.isEmpty_cons, List.isEmpty_nil, f_sortD, hs0_rt, hs0_nx, hh_yes0, okIf_t h, List.take_length]
end MN

set_option maxRecDepth 100000
set_option maxHeartbeats 4000000
/-! MnLp: loops, draws: general. -/
namespace MN
open PySem
section
variable {m : Store} {α : Type}
theorem loopC_filter {f : PyData → Store → R (Option PyData)} {d g : α → PyData} {q : α → Bool} : ∀ {as : List α} {acc : List PyData}, (∀ a ∈ as, f (d a) m = .ok (if q a = true then some (g a) else none) m) → acc.length + as.length ≤ SZ → loopC f (as.map d) acc m = .ok (acc ++ (as.filter q).map g) m
  | [], acc, _, _ => by
    show R.ok acc m = _
    rw [List.filter_nil, List.map_nil, List.append_nil]
  | a :: as, acc, h, hl => by
    rw [List.length_cons] at hl
    rw [List.map_cons]
    unfold loopC
    rw [h a List.mem_cons_self]
    cases e : q a with
    | true =>
      have hs : acc.length < SZ := by omega
      simp only [if_true, R.bind, hs]
      rw [loopC_filter (fun x hx => h x (List.mem_cons_of_mem _ hx)) (by rw [List.length_append, List.length_singleton]; omega), List.filter_cons_of_pos e, List.map_cons, List.append_assoc]
      rfl
    | false =>
      simp only [Bool.false_eq_true, if_false, R.bind]
      rw [loopC_filter (fun x hx => h x (List.mem_cons_of_mem _ hx)) (by omega), List.filter_cons_of_neg (by rw [e]; decide)]
theorem loopC_map {f : PyData → Store → R (Option PyData)} {d g : α → PyData} {as : List α} {acc : List PyData} (h : ∀ a ∈ as, f (d a) m = .ok (some (g a)) m) (hl : acc.length + as.length ≤ SZ) : loopC f (as.map d) acc m = .ok (acc ++ as.map g) m := by
  have e := loopC_filter (m := m) (f := f) (d := d) (q := fun _ => true) (g := g) (acc := acc) (fun a ha => by rw [h a ha]; rfl) hl
  rw [e, List.filter_eq_self.mpr fun _ _ => rfl]
theorem loopL_pre {F : PyData → Fr → Store → RS} {d : α → PyData} {all : List α} (I : List α → Fr → Store → Prop) (step : ∀ (pre : List α) (a : α) (post : List α) (ρ : Fr) (m : Store), all = pre ++ a :: post → I pre ρ m → ∃ ρ' m', I (pre ++ [a]) ρ' m' ∧ F (d a) ρ m = .nx ρ' m') {ρ : Fr} (h : I [] ρ m) :
    ∃ ρ' m', I all ρ' m' ∧ loopL F (all.map d) ρ m = .nx ρ' m' := by
  have key : ∀ (as pre : List α) (ρ : Fr) (m : Store), all = pre ++ as → I pre ρ m → ∃ ρ' m', I all ρ' m' ∧ loopL F (as.map d) ρ m = .nx ρ' m' := by
    intro as
    induction as with
    | nil =>
      intro pre ρ m e h
      rw [List.append_nil] at e
      subst e
      exact ⟨ρ, m, h, rfl⟩
    | cons a as ih =>
      intro pre ρ m e h
      obtain ⟨ρ1, m1, h1, r1⟩ := step pre a as ρ m e h
      obtain ⟨ρ2, m2, h2, r2⟩ := ih (pre ++ [a]) ρ1 m1 (by rw [e, List.append_assoc]; rfl) h1
      refine ⟨ρ2, m2, h2, ?_⟩
      rw [List.map_cons]
      unfold loopL
      rw [r1]
      exact r2
  exact key all [] ρ m rfl h
theorem loop_allT {F : PyData → Fr → Store → RS} {d : α → PyData} {p : α → Bool} (I : Fr → Prop) : ∀ {as : List α} {ρ : Fr}, I ρ → (∀ a ∈ as, ∀ ρ, I ρ → p a = true → ∃ ρ', I ρ' ∧ F (d a) ρ m = .nx ρ' m) → (∀ a ∈ as, ∀ ρ, I ρ → p a = false → F (d a) ρ m = .rt (.d (.bool false)) m) →
    (as.all p = true → ∃ ρ', I ρ' ∧ loopL F (as.map d) ρ m = .nx ρ' m) ∧ (as.all p = false → loopL F (as.map d) ρ m = .rt (.d (.bool false)) m)
  | [], ρ, h, _, _ => ⟨fun _ => ⟨ρ, h, rfl⟩, fun z => absurd z (by simp)⟩
  | a :: as, ρ, h, h1, h2 => by
    rw [List.all_cons, List.map_cons]
    unfold loopL
    cases q : p a with
    | false =>
      rw [h2 a List.mem_cons_self ρ h q]
      exact ⟨fun z => absurd z (by simp), fun _ => rfl⟩
    | true =>
      obtain ⟨ρ', i, r⟩ := h1 a List.mem_cons_self ρ h q
      rw [r, Bool.true_and]
      exact loop_allT I i (fun x hx => h1 x (List.mem_cons_of_mem _ hx)) (fun x hx => h2 x (List.mem_cons_of_mem _ hx))
end
theorem ints_nat : ∀ (ns : List Nat), ints? (ns.map fun (i : Nat) => PyData.int (i : Int)) = some (ns.map fun (i : Nat) => (i : Int))
  | [] => rfl
  | n :: ns => by
    rw [List.map_cons, List.map_cons]
    unfold ints?
    rw [ints_nat ns]
def mx (a : Nat) : List Nat → Nat
  | [] => a
  | b :: r => mx (if b > a then b else a) r
theorem maxL_nat : ∀ (ns : List Nat) (a : Nat), maxL (a : Int) (ns.map fun (i : Nat) => (i : Int)) = (mx a ns : Nat)
  | [], a => rfl
  | b :: r, a => by
    rw [List.map_cons]
    unfold maxL mx
    by_cases h : b > a
    · have h2 : (b : Int) > (a : Int) := by omega
      simp only [h, h2, if_true]
      exact maxL_nat r b
    · have h2 : ¬ (b : Int) > (a : Int) := by omega
      simp only [h, h2, if_false]
      exact maxL_nat r a
theorem mx_le : ∀ (ns : List Nat) (a b : Nat), a ≤ b → (∀ i ∈ ns, i ≤ b) → mx a ns ≤ b
  | [], a, b, h, _ => h
  | n :: ns, a, b, h, hn => by
    unfold mx
    have := hn n List.mem_cons_self
    refine mx_le ns _ b ?_ fun i hi => hn i (List.mem_cons_of_mem _ hi)
    split <;> omega
theorem le_mx0 : ∀ (ns : List Nat) (a : Nat), a ≤ mx a ns
  | [], a => Nat.le_refl _
  | n :: ns, a => by
    unfold mx
    refine Nat.le_trans ?_ (le_mx0 ns _)
    split <;> omega
theorem le_mx : ∀ (ns : List Nat) (a i : Nat), i ∈ ns → i ≤ mx a ns
  | [], a, i, h => by cases h
  | n :: ns, a, i, h => by
    unfold mx
    rcases List.mem_cons.mp h with h | h
    · subst h
      refine Nat.le_trans ?_ (le_mx0 ns _)
      split <;> omega
    · exact le_mx ns _ i h
end MN
namespace MN
open PySem
section
variable {α β : Type} {r : Store} {c M : Nat}
theorem loopC_draw {f : PyData → Store → R (Option PyData)} {d : α → PyData} {e : β → PyData} {Q : α → β → Prop} : ∀ {as : List α} {acc : List PyData} {s : DS} {B : Nat},
    (∀ a ∈ as, ∀ (s : DS) (B : Nat), s.Ok B → B ≤ M → ∃ (b : β) (s' : DS), Q a b ∧ s'.Ok (B + c) ∧ f (d a) (s.st r) = .ok (some (e b)) (s'.st r)) → s.Ok B → B + c * as.length ≤ M → acc.length + as.length ≤ SZ →
    ∃ (bs : List β) (s' : DS), bs.length = as.length ∧ (∀ b ∈ bs, ∃ a ∈ as, Q a b) ∧ s'.Ok (B + c * as.length) ∧ loopC f (as.map d) acc (s.st r) = .ok (acc ++ bs.map e) (s'.st r)
  | [], acc, s, B, _, ok, _, _ => ⟨[], s, rfl, fun b hb => absurd hb (by simp), ok, by rw [List.map_nil, List.map_nil, List.append_nil]; rfl⟩
  | a :: as, acc, s, B, h, ok, hM, hl => by
    rw [List.length_cons] at hM hl
    rw [Nat.mul_succ] at hM
    obtain ⟨b, s1, q, ok1, e1⟩ := h a List.mem_cons_self s B ok (by omega)
    obtain ⟨bs, s2, l2, q2, ok2, e2⟩ := loopC_draw (acc := acc ++ [e b]) (fun x hx => h x (List.mem_cons_of_mem _ hx)) ok1 (by omega) (by rw [List.length_append, List.length_singleton]; omega)
    refine ⟨b :: bs, s2, by rw [List.length_cons, List.length_cons, l2], fun x hx => ?_, ok2.mono (by rw [List.length_cons, Nat.mul_succ]; omega), ?_⟩
    · rcases List.mem_cons.mp hx with hx | hx
      · subst hx
        exact ⟨a, List.mem_cons_self, q⟩
      · obtain ⟨y, hy, qy⟩ := q2 x hx
        exact ⟨y, List.mem_cons_of_mem _ hy, qy⟩
    · rw [List.map_cons]
      unfold loopC
      rw [e1]
      have hs : acc.length < SZ := by omega
      simp only [R.bind, hs, if_true]
      rw [e2, List.append_assoc]
      rfl
theorem loopL_draw {F : PyData → Fr → Store → RS} {I : Nat → Fr → Prop} {n : Nat} {ρ : Fr} {s : DS} {B : Nat}
    (step : ∀ (i : Nat) (ρ : Fr) (s : DS) (B : Nat), i < n → I i ρ → s.Ok B → B ≤ M → ∃ (ρ' : Fr) (s' : DS), I (i + 1) ρ' ∧ s'.Ok (B + c) ∧ F (.int (i : Int)) ρ (s.st r) = .nx ρ' (s'.st r)) (h : I 0 ρ) (ok : s.Ok B) (hM : B + c * n ≤ M) :
    ∃ (ρ' : Fr) (s' : DS), I n ρ' ∧ s'.Ok (B + c * n) ∧ loopL F ((List.range n).map fun (i : Nat) => PyData.int (i : Int)) ρ (s.st r) = .nx ρ' (s'.st r) := by
  have key : ∀ (len k : Nat) (ρ : Fr) (s : DS) (B : Nat), k + len = n → I k ρ → s.Ok B → B + c * len ≤ M → ∃ (ρ' : Fr) (s' : DS), I n ρ' ∧ s'.Ok (B + c * len) ∧ loopL F ((List.range' k len).map fun (i : Nat) => PyData.int (i : Int)) ρ (s.st r) = .nx ρ' (s'.st r) := by
    intro len
    induction len with
    | zero =>
      intro k ρ s B e h ok _
      have e : k = n := e
      subst e
      exact ⟨ρ, s, h, ok, rfl⟩
    | succ len ih =>
      intro k ρ s B e h ok hM
      rw [Nat.mul_succ] at hM
      obtain ⟨ρ1, s1, h1, ok1, e1⟩ := step k ρ s B (by omega) h ok (by omega)
      obtain ⟨ρ2, s2, h2, ok2, e2⟩ := ih (k + 1) ρ1 s1 (B + c) (by omega) h1 ok1 (by omega)
      refine ⟨ρ2, s2, h2, ok2.mono (by rw [Nat.mul_succ]; omega), ?_⟩
      rw [List.range'_succ, List.map_cons]
      unfold loopL
      rw [e1]
      exact e2
  rw [List.range_eq_range']
  exact key n 0 ρ s B (Nat.zero_add n) h ok hM
end
def b__law_of : List CS := [.ret (.idx (.var 1) (.call ("_law_draw" : Str) [(.var 0), (.bi .len [(.var 1)])]))]
def fd__law_of : FD := ⟨2, 2, [], b__law_of, false, none⟩
def b__law_begin : List CS := [.asg (.v 1) (.ite (.cmp .ne (.var 0) (.lst [])) (.bi .list [(.var 0)]) (.lst [(.cst (.int 0))])), .ret (.ndic [.inr ("cells" : Str), .inr ("lefts" : Str), .inr ("at" : Str)] [(.var 1), (.comp true .seq [(.var 1)] (.v 2) [2] [] (.ite (.cmp .ge (.var 2) (.op .pow (.cst (.int 10)) (.cst (.int 18)))) (.var 2) (.cst (.int 0)))), (.cst (.int 0))])]
def fd__law_begin : FD := ⟨1, 3, [], b__law_begin, true, none⟩
theorem DS.take2 {s s' : DS} {r : Store} : (s'.st r).take (s.st r).length = s'.st r := DS.take rfl
theorem begin_dic {a b c : Val} {m : Store} : mkDic [.inr "cells", .inr "lefts", .inr "at"] [a, b, c] m = .ok (.loc m.length) (m ++ [.dic [(.inr "cells", a), (.inr "lefts", b), (.inr "at", c)]]) := rfl
structure DrawT (T : Tbl) : Prop where
  mixed : T.fn "_law_mixed" = some fd_mixed
  draw : T.fn "_law_draw" = some fd_draw
  of_ : T.fn "_law_of" = some fd__law_of
section
variable {T : Tbl} (D : DrawT T)
include D
/-- a draw by a written limit -/
theorem drawK (n : Nat) {s : DS} {B : Nat} (ok : s.Ok B) (hB : B < 900000000) {lim : Nat} (l1 : 0 < lim) (l2 : lim < 1073741824) (r : Store) :
    ∃ (v : Nat) (s' : DS), v < lim ∧ s'.Ok (B + 1) ∧ (cxt T (n + 2)).call "_law_draw" [.loc 1, .d (.int (lim : Int))] (s.st r) = .ok (.d (.int v)) (s'.st r) := by
  obtain ⟨v, s', h1, h2, h3⟩ := draw_ok D.draw D.mixed n ok hB (lim := (lim : Int)) (by omega) (by omega) r
  exact ⟨v, s', by omega, h2, h3⟩
theorem drawC (n : Nat) {s : DS} {B : Nat} (ok : s.Ok B) (hB : B < 900000000) (k : Nat) {lim : Int} (e : (k : Int) = lim) (l1 : 0 < k) (l2 : k < 1073741824) (r : Store) :
    ∃ (v : Nat) (s' : DS), v < k ∧ s'.Ok (B + 1) ∧ (cxt T (n + 2)).call "_law_draw" [.loc 1, .d (.int lim)] (s.st r) = .ok (.d (.int v)) (s'.st r) := by
  subst e
  exact drawK D n ok hB l1 l2 r
theorem of_ok (n : Nat) {s : DS} {B : Nat} (ok : s.Ok B) (hB : B < 900000000) {xs : List PyData} (l1 : xs ≠ []) (l2 : xs.length < 1073741824) (r : Store) :
    ∃ (x : PyData) (s' : DS), x ∈ xs ∧ s'.Ok (B + 1) ∧ (cxt T (n + 3)).call "_law_of" [.loc 1, .d (.list xs)] (s.st r) = .ok (.d x) (s'.st r) := by
  obtain ⟨v, s', h1, h2, h3⟩ := drawK D n ok hB (List.length_pos_iff.mpr l1) l2 r
  refine ⟨xs[v], s', List.getElem_mem h1, h2, ?_⟩
  rw [call_run D.of_ rfl rfl rfl]
  have e : atI xs (v : Int) = some xs[v] := by rw [atI_nat h1, List.getElem?_eq_getElem h1]
  simp only [fd__law_of, b__law_of, b_ok, b_ex, s_nx, s_rt, s_ex, s_bk, s_ct, o_ok, o_ex, t_nx, t_ct, t_bk, t_rt, t_ex, ofO_s, ofV_s, ofB_s, getV_s, okTup_s, okLst_s, datas_nil, cons_s, datas_cons, e_var, e_cst, e_tup, e_lst, e_nlst, e_op, negV_i, e_neg, e_cmp, brV_t, brV_f, e_chain, e_and, e_or, notV_b, e_not, e_ite, e_call, e_bi, e_bloc, e_mt, e_idx, e_gidx, e_gin, e_sl, part_0, part_1, compW_items, compZ_t, compZ_f, e_comp, optD_d, noEx_ok, p_and, p_or, p_not, boolV_b, p_cmp, p_chain, p_gin, p_tst, es_nil, es_cons, ts_nil, ts_cons, nxO_s, k_asg, k_par, k_set, k_ex, k_ret, k_ret0, k_ifs, forW_items, k_for, k_whl, k_raise, try_ex, try_nx, try_rt, k_try, k_brk, k_cnt, k_pass, ks_nil, ks_cons, v_add, v_sub, v_mul, v_fdiv, v_mod, v_pow, v_tt, v_ll, v_ss, v_tm, v_lm, c_eq, c_ne, c_lt, c_ltt, c_le, c_gt, c_ge, c_isN, c_notN, i_list, i_tup, i_loc, im_l, im_s, im_i, g_idx, g_in, g_nin, sl_t, sl_l, tr_b, tr_n, tr_i, tr_l, tr_t, f_lenl, f_lent, f_int, f_tupl, f_tupt, f_lstl, f_lstt, f_lr, f_lr2, f_trg, ofI_s, max_s, ofM_s, f_max, f_min1, f_max2, f_min2, f_repr, f_isInt, f_isBool, f_isStr, f_isTup, f_isList, a_v, a_t, as_nil, as_cons, w_l, w_t, rgW_t, w_r, w_r2, w_r3, r_rt, r_nx, r_ex, r_keep, Option.bind_some, List.length_cons, List.length_nil, List.getElem?_cons_zero, List.getElem?_cons_succ, List.set_cons_zero, List.set_cons_succ, if_true, if_false, ite_true, ite_false, eq_self, Bool.not_true, Bool.not_false, Bool.true_eq_false, Bool.false_eq_true, decide_true, decide_false, Nat.zero_add, Nat.reduceAdd, Nat.reduceLT, Nat.reduceSub, Nat.sub_self, List.map_cons, List.map_nil, List.nil_append, List.cons_append, List.replicate, and_self, and_true, true_and, setL_s, set_loc, so_l, so_s, so_i, eqv_ii, eqv_ss, eqv_ln, eqv_tn, eqv_ni, eqv_in, eqv_nn, okIf_eqi, okIf_eqs, okIf_eqb, okIf_eqn, okIf_eqln, okIf_eqtn, at_0, at_1, at_2, n0, n1, n2, n3, n4, n5, n6, n7, n8, n9, n10, Int.reduceEq, Int.reduceLT, Int.reduceLE, Int.reduceSub, Int.reduceAdd, Int.reduceNeg, Int.reduceMul, decide_not, okIf_T, Nat.reduceLeDiff, Nat.zero_le, wipe_nil, wipe_cons, e_ndic, e_fld2, fldV_s, look_1, hs_rt, hh_no, hh_yes, at_3, at_4, e_act, getA_s, e_isx, e_callL, pf_nil, pf_v, pf_n, ne_nil, ne_v, ne_l, ne_n, e_nadd, py_d, k_par3, w_el, w_et, f_sset, f_setLen, f_lstEnum, f_sum, ints_nil, ints_cons, consI_s, ints_map, hs_nx, inD_i, inD_s, c_inT, c_inL, c_niT, c_niL, any_ints, words_ne, eqv_st, eqv_si, eqv_ts, eqv_it, eqv_is, eqv_ti, eqv_nt, eqv_ns, eqv_lt, eqv_tt, eqv_ll, eqvA_nn, eqvA_cc, eqvA_nc, eqvA_cn, List.any_cons, List.any_nil, Bool.or_false, Bool.false_or, Bool.or_true, Bool.true_or, Bool.and_false, Bool.false_and, Bool.and_true, Bool.true_and, brV_or, brV_and, eqvA_xn, List.isEmpty_cons, List.isEmpty_nil, f_sortD, hs0_rt, hs0_nx, hh_yes0, h3, e, DS.take2]
end
theorem begin_ok {T : Tbl} (h : T.fn "_law_begin" = some fd__law_begin) (n : Nat) {ns : List Int} (hl : ns.length ≤ 63) : ∃ s : DS, s.Ok 0 ∧ (cxt T (n + 1)).call "_law_begin" [.d (.list (ns.map PyData.int))] [] = .ok (.loc 1) (s.st []) := by
  rw [call_run h rfl rfl rfl]
  have e1 : ∀ ns : List Int, ((ns.map PyData.int).isEmpty) = ns.isEmpty := fun ns => by cases ns <;> rfl
  have lc : ∀ (cs : List Int) (ρ0 : Option SV) , cs.length ≤ 63 → loopC (compF (cxt T n) (CT.v 2) [2] [] ((CE.cmp CmpO.ge (CE.var 2) (CE.op BinOp.pow (CE.cst (PyData.int 10)) (CE.cst (PyData.int 18)))).ite (CE.var 2) (CE.cst (PyData.int 0)))
      [ρ0, some (SV.v (Val.d (.list (cs.map PyData.int)))), none]) (cs.map PyData.int) [] [] = .ok ([] ++ cs.map fun c => PyData.int (if 10 ^ 18 ≤ c then c else 0)) [] := fun cs ρ0 hc => loopC_map (d := PyData.int) (fun c _ => by
    rw [compF_eq rfl]
    by_cases hq : (10 : Int) ^ (18 : Int).toNat ≤ c
    · have hq2 : (10 : Int) ^ 18 ≤ c := hq
      simp only [b_ok, b_ex, s_nx, s_rt, s_ex, s_bk, s_ct, o_ok, o_ex, t_nx, t_ct, t_bk, t_rt, t_ex, ofO_s, ofV_s, ofB_s, getV_s, okTup_s, okLst_s, datas_nil, cons_s, datas_cons, e_var, e_cst, e_tup, e_lst, e_nlst, e_op, negV_i, e_neg, e_cmp, brV_t, brV_f, e_chain, e_and, e_or, notV_b, e_not, e_ite, e_call, e_bi, e_bloc, e_mt, e_idx, e_gidx, e_gin, e_sl, part_0, part_1, compW_items, compZ_t, compZ_f, e_comp, optD_d, noEx_ok, p_and, p_or, p_not, boolV_b, p_cmp, p_chain, p_gin, p_tst, es_nil, es_cons, ts_nil, ts_cons, nxO_s, k_asg, k_par, k_set, k_ex, k_ret, k_ret0, k_ifs, forW_items, k_for, k_whl, k_raise, try_ex, try_nx, try_rt, k_try, k_brk, k_cnt, k_pass, ks_nil, ks_cons, v_add, v_sub, v_mul, v_fdiv, v_mod, v_pow, v_tt, v_ll, v_ss, v_tm, v_lm, c_eq, c_ne, c_lt, c_ltt, c_le, c_gt, c_ge, c_isN, c_notN, i_list, i_tup, i_loc, im_l, im_s, im_i, g_idx, g_in, g_nin, sl_t, sl_l, tr_b, tr_n, tr_i, tr_l, tr_t, f_lenl, f_lent, f_int, f_tupl, f_tupt, f_lstl, f_lstt, f_lr, f_lr2, f_trg, ofI_s, max_s, ofM_s, f_max, f_min1, f_max2, f_min2, f_repr, f_isInt, f_isBool, f_isStr, f_isTup, f_isList, a_v, a_t, as_nil, as_cons, w_l, w_t, rgW_t, w_r, w_r2, w_r3, r_rt, r_nx, r_ex, r_keep, Option.bind_some, List.length_cons, List.length_nil, List.getElem?_cons_zero, List.getElem?_cons_succ, List.set_cons_zero, List.set_cons_succ, if_true, if_false, ite_true, ite_false, eq_self, Bool.not_true, Bool.not_false, Bool.true_eq_false, Bool.false_eq_true, decide_true, decide_false, Nat.zero_add, Nat.reduceAdd, Nat.reduceLT, Nat.reduceSub, Nat.sub_self, List.map_cons, List.map_nil, List.nil_append, List.cons_append, List.replicate, and_self, and_true, true_and, setL_s, set_loc, so_l, so_s, so_i, eqv_ii, eqv_ss, eqv_ln, eqv_tn, eqv_ni, eqv_in, eqv_nn, okIf_eqi, okIf_eqs, okIf_eqb, okIf_eqn, okIf_eqln, okIf_eqtn, at_0, at_1, at_2, n0, n1, n2, n3, n4, n5, n6, n7, n8, n9, n10, Int.reduceEq, Int.reduceLT, Int.reduceLE, Int.reduceSub, Int.reduceAdd, Int.reduceNeg, Int.reduceMul, decide_not, okIf_T, Nat.reduceLeDiff, Nat.zero_le, wipe_nil, wipe_cons, e_ndic, e_fld2, fldV_s, look_1, hs_rt, hh_no, hh_yes, at_3, at_4, e_act, getA_s, e_isx, e_callL, pf_nil, pf_v, pf_n, ne_nil, ne_v, ne_l, ne_n, e_nadd, py_d, k_par3, w_el, w_et, f_sset, f_setLen, f_lstEnum, f_sum, ints_nil, ints_cons, consI_s, ints_map, hs_nx, inD_i, inD_s, c_inT, c_inL, c_niT, c_niL, any_ints, words_ne, eqv_st, eqv_si, eqv_ts, eqv_it, eqv_is, eqv_ti, eqv_nt, eqv_ns, eqv_lt, eqv_tt, eqv_ll, eqvA_nn, eqvA_cc, eqvA_nc, eqvA_cn, List.any_cons, List.any_nil, Bool.or_false, Bool.false_or, Bool.or_true, Bool.true_or, Bool.and_false, Bool.false_and, Bool.and_true, Bool.true_and, brV_or, brV_and, eqvA_xn, List.isEmpty_cons, List.isEmpty_nil, f_sortD, hs0_rt, hs0_nx, hh_yes0, hq, hq2]
    · have hq2 : ¬ (10 : Int) ^ 18 ≤ c := hq
      simp only [b_ok, b_ex, s_nx, s_rt, s_ex, s_bk, s_ct, o_ok, o_ex, t_nx, t_ct, t_bk, t_rt, t_ex, ofO_s, ofV_s, ofB_s, getV_s, okTup_s, okLst_s, datas_nil, cons_s, datas_cons, e_var, e_cst, e_tup, e_lst, e_nlst, e_op, negV_i, e_neg, e_cmp, brV_t, brV_f, e_chain, e_and, e_or, notV_b, e_not, e_ite, e_call, e_bi, e_bloc, e_mt, e_idx, e_gidx, e_gin, e_sl, part_0, part_1, compW_items, compZ_t, compZ_f, e_comp, optD_d, noEx_ok, p_and, p_or, p_not, boolV_b, p_cmp, p_chain, p_gin, p_tst, es_nil, es_cons, ts_nil, ts_cons, nxO_s, k_asg, k_par, k_set, k_ex, k_ret, k_ret0, k_ifs, forW_items, k_for, k_whl, k_raise, try_ex, try_nx, try_rt, k_try, k_brk, k_cnt, k_pass, ks_nil, ks_cons, v_add, v_sub, v_mul, v_fdiv, v_mod, v_pow, v_tt, v_ll, v_ss, v_tm, v_lm, c_eq, c_ne, c_lt, c_ltt, c_le, c_gt, c_ge, c_isN, c_notN, i_list, i_tup, i_loc, im_l, im_s, im_i, g_idx, g_in, g_nin, sl_t, sl_l, tr_b, tr_n, tr_i, tr_l, tr_t, f_lenl, f_lent, f_int, f_tupl, f_tupt, f_lstl, f_lstt, f_lr, f_lr2, f_trg, ofI_s, max_s, ofM_s, f_max, f_min1, f_max2, f_min2, f_repr, f_isInt, f_isBool, f_isStr, f_isTup, f_isList, a_v, a_t, as_nil, as_cons, w_l, w_t, rgW_t, w_r, w_r2, w_r3, r_rt, r_nx, r_ex, r_keep, Option.bind_some, List.length_cons, List.length_nil, List.getElem?_cons_zero, List.getElem?_cons_succ, List.set_cons_zero, List.set_cons_succ, if_true, if_false, ite_true, ite_false, eq_self, Bool.not_true, Bool.not_false, Bool.true_eq_false, Bool.false_eq_true, decide_true, decide_false, Nat.zero_add, Nat.reduceAdd, Nat.reduceLT, Nat.reduceSub, Nat.sub_self, List.map_cons, List.map_nil, List.nil_append, List.cons_append, List.replicate, and_self, and_true, true_and, setL_s, set_loc, so_l, so_s, so_i, eqv_ii, eqv_ss, eqv_ln, eqv_tn, eqv_ni, eqv_in, eqv_nn, okIf_eqi, okIf_eqs, okIf_eqb, okIf_eqn, okIf_eqln, okIf_eqtn, at_0, at_1, at_2, n0, n1, n2, n3, n4, n5, n6, n7, n8, n9, n10, Int.reduceEq, Int.reduceLT, Int.reduceLE, Int.reduceSub, Int.reduceAdd, Int.reduceNeg, Int.reduceMul, decide_not, okIf_T, Nat.reduceLeDiff, Nat.zero_le, wipe_nil, wipe_cons, e_ndic, e_fld2, fldV_s, look_1, hs_rt, hh_no, hh_yes, at_3, at_4, e_act, getA_s, e_isx, e_callL, pf_nil, pf_v, pf_n, ne_nil, ne_v, ne_l, ne_n, e_nadd, py_d, k_par3, w_el, w_et, f_sset, f_setLen, f_lstEnum, f_sum, ints_nil, ints_cons, consI_s, ints_map, hs_nx, inD_i, inD_s, c_inT, c_inL, c_niT, c_niL, any_ints, words_ne, eqv_st, eqv_si, eqv_ts, eqv_it, eqv_is, eqv_ti, eqv_nt, eqv_ns, eqv_lt, eqv_tt, eqv_ll, eqvA_nn, eqvA_cc, eqvA_nc, eqvA_cn, List.any_cons, List.any_nil, Bool.or_false, Bool.false_or, Bool.or_true, Bool.true_or, Bool.and_false, Bool.false_and, Bool.and_true, Bool.true_and, brV_or, brV_and, eqvA_xn, List.isEmpty_cons, List.isEmpty_nil, f_sortD, hs0_rt, hs0_nx, hh_yes0, hq, hq2]) (by rw [List.length_nil, Nat.zero_add]; unfold SZ; omega)
  cases ns with
  | nil =>
    refine ⟨⟨[0], [0].map fun c => if 10 ^ 18 ≤ c then c else 0, 0⟩, ⟨by simp, rfl, Nat.le_refl _⟩, ?_⟩
    have z := lc [0] (some (SV.v (Val.d (.list [])))) (by decide)
    rw [List.map_cons, List.map_nil] at z
    simp only [fd__law_begin, b__law_begin, b_ok, b_ex, s_nx, s_rt, s_ex, s_bk, s_ct, o_ok, o_ex, t_nx, t_ct, t_bk, t_rt, t_ex, ofO_s, ofV_s, ofB_s, getV_s, okTup_s, okLst_s, datas_nil, cons_s, datas_cons, e_var, e_cst, e_tup, e_lst, e_nlst, e_op, negV_i, e_neg, e_cmp, brV_t, brV_f, e_chain, e_and, e_or, notV_b, e_not, e_ite, e_call, e_bi, e_bloc, e_mt, e_idx, e_gidx, e_gin, e_sl, part_0, part_1, compW_items, compZ_t, compZ_f, e_comp, optD_d, noEx_ok, p_and, p_or, p_not, boolV_b, p_cmp, p_chain, p_gin, p_tst, es_nil, es_cons, ts_nil, ts_cons, nxO_s, k_asg, k_par, k_set, k_ex, k_ret, k_ret0, k_ifs, forW_items, k_for, k_whl, k_raise, try_ex, try_nx, try_rt, k_try, k_brk, k_cnt, k_pass, ks_nil, ks_cons, v_add, v_sub, v_mul, v_fdiv, v_mod, v_pow, v_tt, v_ll, v_ss, v_tm, v_lm, c_eq, c_ne, c_lt, c_ltt, c_le, c_gt, c_ge, c_isN, c_notN, i_list, i_tup, i_loc, im_l, im_s, im_i, g_idx, g_in, g_nin, sl_t, sl_l, tr_b, tr_n, tr_i, tr_l, tr_t, f_lenl, f_lent, f_int, f_tupl, f_tupt, f_lstl, f_lstt, f_lr, f_lr2, f_trg, ofI_s, max_s, ofM_s, f_max, f_min1, f_max2, f_min2, f_repr, f_isInt, f_isBool, f_isStr, f_isTup, f_isList, a_v, a_t, as_nil, as_cons, w_l, w_t, rgW_t, w_r, w_r2, w_r3, r_rt, r_nx, r_ex, r_keep, Option.bind_some, List.length_cons, List.length_nil, List.getElem?_cons_zero, List.getElem?_cons_succ, List.set_cons_zero, List.set_cons_succ, if_true, if_false, ite_true, ite_false, eq_self, Bool.not_true, Bool.not_false, Bool.true_eq_false, Bool.false_eq_true, decide_true, decide_false, Nat.zero_add, Nat.reduceAdd, Nat.reduceLT, Nat.reduceSub, Nat.sub_self, List.map_cons, List.map_nil, List.nil_append, List.cons_append, List.replicate, and_self, and_true, true_and, setL_s, set_loc, so_l, so_s, so_i, eqv_ii, eqv_ss, eqv_ln, eqv_tn, eqv_ni, eqv_in, eqv_nn, okIf_eqi, okIf_eqs, okIf_eqb, okIf_eqn, okIf_eqln, okIf_eqtn, at_0, at_1, at_2, n0, n1, n2, n3, n4, n5, n6, n7, n8, n9, n10, Int.reduceEq, Int.reduceLT, Int.reduceLE, Int.reduceSub, Int.reduceAdd, Int.reduceNeg, Int.reduceMul, decide_not, okIf_T, Nat.reduceLeDiff, Nat.zero_le, wipe_nil, wipe_cons, e_ndic, e_fld2, fldV_s, look_1, hs_rt, hh_no, hh_yes, at_3, at_4, e_act, getA_s, e_isx, e_callL, pf_nil, pf_v, pf_n, ne_nil, ne_v, ne_l, ne_n, e_nadd, py_d, k_par3, w_el, w_et, f_sset, f_setLen, f_lstEnum, f_sum, ints_nil, ints_cons, consI_s, ints_map, hs_nx, inD_i, inD_s, c_inT, c_inL, c_niT, c_niL, any_ints, words_ne, eqv_st, eqv_si, eqv_ts, eqv_it, eqv_is, eqv_ti, eqv_nt, eqv_ns, eqv_lt, eqv_tt, eqv_ll, eqvA_nn, eqvA_cc, eqvA_nc, eqvA_cn, List.any_cons, List.any_nil, Bool.or_false, Bool.false_or, Bool.or_true, Bool.true_or, Bool.and_false, Bool.false_and, Bool.and_true, Bool.true_and, brV_or, brV_and, eqvA_xn, List.isEmpty_cons, List.isEmpty_nil, f_sortD, hs0_rt, hs0_nx, hh_yes0, List.isEmpty_nil, z, begin_dic]
    rfl
  | cons i ns =>
    refine ⟨⟨i :: ns, (i :: ns).map fun c => if 10 ^ 18 ≤ c then c else 0, 0⟩, ⟨by simp, by rw [List.length_map], Nat.le_refl _⟩, ?_⟩
    have z := lc (i :: ns) (some (SV.v (Val.d (.list ((i :: ns).map PyData.int))))) hl
    rw [List.map_cons] at z
    simp only [fd__law_begin, b__law_begin, b_ok, b_ex, s_nx, s_rt, s_ex, s_bk, s_ct, o_ok, o_ex, t_nx, t_ct, t_bk, t_rt, t_ex, ofO_s, ofV_s, ofB_s, getV_s, okTup_s, okLst_s, datas_nil, cons_s, datas_cons, e_var, e_cst, e_tup, e_lst, e_nlst, e_op, negV_i, e_neg, e_cmp, brV_t, brV_f, e_chain, e_and, e_or, notV_b, e_not, e_ite, e_call, e_bi, e_bloc, e_mt, e_idx, e_gidx, e_gin, e_sl, part_0, part_1, compW_items, compZ_t, compZ_f, e_comp, optD_d, noEx_ok, p_and, p_or, p_not, boolV_b, p_cmp, p_chain, p_gin, p_tst, es_nil, es_cons, ts_nil, ts_cons, nxO_s, k_asg, k_par, k_set, k_ex, k_ret, k_ret0, k_ifs, forW_items, k_for, k_whl, k_raise, try_ex, try_nx, try_rt, k_try, k_brk, k_cnt, k_pass, ks_nil, ks_cons, v_add, v_sub, v_mul, v_fdiv, v_mod, v_pow, v_tt, v_ll, v_ss, v_tm, v_lm, c_eq, c_ne, c_lt, c_ltt, c_le, c_gt, c_ge, c_isN, c_notN, i_list, i_tup, i_loc, im_l, im_s, im_i, g_idx, g_in, g_nin, sl_t, sl_l, tr_b, tr_n, tr_i, tr_l, tr_t, f_lenl, f_lent, f_int, f_tupl, f_tupt, f_lstl, f_lstt, f_lr, f_lr2, f_trg, ofI_s, max_s, ofM_s, f_max, f_min1, f_max2, f_min2, f_repr, f_isInt, f_isBool, f_isStr, f_isTup, f_isList, a_v, a_t, as_nil, as_cons, w_l, w_t, rgW_t, w_r, w_r2, w_r3, r_rt, r_nx, r_ex, r_keep, Option.bind_some, List.length_cons, List.length_nil, List.getElem?_cons_zero, List.getElem?_cons_succ, List.set_cons_zero, List.set_cons_succ, if_true, if_false, ite_true, ite_false, eq_self, Bool.not_true, Bool.not_false, Bool.true_eq_false, Bool.false_eq_true, decide_true, decide_false, Nat.zero_add, Nat.reduceAdd, Nat.reduceLT, Nat.reduceSub, Nat.sub_self, List.map_cons, List.map_nil, List.nil_append, List.cons_append, List.replicate, and_self, and_true, true_and, setL_s, set_loc, so_l, so_s, so_i, eqv_ii, eqv_ss, eqv_ln, eqv_tn, eqv_ni, eqv_in, eqv_nn, okIf_eqi, okIf_eqs, okIf_eqb, okIf_eqn, okIf_eqln, okIf_eqtn, at_0, at_1, at_2, n0, n1, n2, n3, n4, n5, n6, n7, n8, n9, n10, Int.reduceEq, Int.reduceLT, Int.reduceLE, Int.reduceSub, Int.reduceAdd, Int.reduceNeg, Int.reduceMul, decide_not, okIf_T, Nat.reduceLeDiff, Nat.zero_le, wipe_nil, wipe_cons, e_ndic, e_fld2, fldV_s, look_1, hs_rt, hh_no, hh_yes, at_3, at_4, e_act, getA_s, e_isx, e_callL, pf_nil, pf_v, pf_n, ne_nil, ne_v, ne_l, ne_n, e_nadd, py_d, k_par3, w_el, w_et, f_sset, f_setLen, f_lstEnum, f_sum, ints_nil, ints_cons, consI_s, ints_map, hs_nx, inD_i, inD_s, c_inT, c_inL, c_niT, c_niL, any_ints, words_ne, eqv_st, eqv_si, eqv_ts, eqv_it, eqv_is, eqv_ti, eqv_nt, eqv_ns, eqv_lt, eqv_tt, eqv_ll, eqvA_nn, eqvA_cc, eqvA_nc, eqvA_cn, List.any_cons, List.any_nil, Bool.or_false, Bool.false_or, Bool.or_true, Bool.true_or, Bool.and_false, Bool.false_and, Bool.and_true, Bool.true_and, brV_or, brV_and, eqvA_xn, List.isEmpty_cons, List.isEmpty_nil, f_sortD, hs0_rt, hs0_nx, hh_yes0, List.isEmpty_cons, z, begin_dic]
    simp only [DS.st, List.map_cons, List.map_map]
    rfl
end MN
namespace MN
open PySem
section
variable {m : Store} {n : Nat} {xs : List PyData}
theorem f_lenloc (h : m[n]? = some (.lst xs)) : bi .len [.loc n] m = .ok (.d (.int xs.length)) m := by
  unfold bi
  simp only [h]
theorem f_tuploc (h : m[n]? = some (.lst xs)) : bi .tuple [.loc n] m = .ok (.d (.tuple xs)) m := by
  show (match Val.seq? m (.loc n) with
    | some xs => R.ok (Val.d (.tuple xs)) m
    | none => .no) = _
  unfold Val.seq? Val.py?
  simp only [h]
theorem f_lstloc (h : m[n]? = some (.lst xs)) : bi .list [.loc n] m = .ok (.d (.list xs)) m := by
  show (match Val.seq? m (.loc n) with
    | some xs => R.ok (Val.d (.list xs)) m
    | none => .no) = _
  unfold Val.seq? Val.py?
  simp only [h]
theorem f_reprloc (h : m[n]? = some (.lst xs)) : bi .repr [.loc n] m = okIf (shOk (.list xs) = true) (.d (.str (PyData.list xs).shown)) m := by
  show (match Val.py? m (.loc n) with
    | some x => if shOk x = true then R.ok (Val.d (.str x.shown)) m else .no
    | none => .no) = _
  unfold Val.py?
  simp only [h]
  rfl
end
theorem get_last {m : Store} {o : MO} : (m ++ [o])[m.length]? = some o := by simp
theorem mtOk_last {m : Store} {xs : List PyData} : mtOk .append (.loc m.length) (m ++ [.lst xs]) = true := mtOk_l get_last
theorem append_last {m : Store} {xs : List PyData} {x : PyData} (h : xs.length < SZ) : mt .append (.loc m.length) [.d x] (m ++ [.lst xs]) = .ok (.d .none) (m ++ [.lst (xs ++ [x])]) := by
  rw [append_l get_last h]
  congr 1
  simp
theorem rep_one {x : PyData} {n : Nat} : rep [x] (n : Int) = List.replicate n x := by
  unfold rep
  rw [Int.toNat_natCast]
  induction n with
  | zero => rfl
  | succ n ih => rw [List.replicate_succ, List.flatten_cons, ih, List.replicate_succ]; rfl
theorem rep_succ {x : PyData} {n : Nat} : rep [x] ((n : Int) + 1) = List.replicate (n + 1) x := rep_one (n := n + 1)
theorem DS.take3 {s s' : DS} {r x : Store} : (s'.st (r ++ x)).take (s.st r).length = s'.st r := by
  show List.take (r.length + 1 + 1) (_ :: _ :: (r ++ x)) = _
  rw [List.take_succ_cons, List.take_succ_cons, List.take_left]
  rfl
theorem DS.app {s : DS} {r x : Store} : s.st r ++ x = s.st (r ++ x) := rfl
theorem of_okL {T : Tbl} (D : DrawT T) (n : Nat) {s : DS} {B : Nat} (ok : s.Ok B) (hB : B < 900000000) {k : Nat} {xs : List PyData} {r : Store} (hk : ∀ s : DS, (s.st r)[k]? = some (.lst xs)) (l1 : xs ≠ []) (l2 : xs.length < 1073741824) :
    ∃ (x : PyData) (s' : DS), x ∈ xs ∧ s'.Ok (B + 1) ∧ (cxt T (n + 3)).call "_law_of" [.loc 1, .loc k] (s.st r) = .ok (.d x) (s'.st r) := by
  obtain ⟨v, s', h1, h2, h3⟩ := drawK D n ok hB (List.length_pos_iff.mpr l1) l2 r
  refine ⟨xs[v], s', List.getElem_mem h1, h2, ?_⟩
  rw [call_run D.of_ rfl rfl rfl]
  have e : atI xs (v : Int) = some xs[v] := by rw [atI_nat h1, List.getElem?_eq_getElem h1]
  simp only [fd__law_of, b__law_of, b_ok, b_ex, s_nx, s_rt, s_ex, s_bk, s_ct, o_ok, o_ex, t_nx, t_ct, t_bk, t_rt, t_ex, ofO_s, ofV_s, ofB_s, getV_s, okTup_s, okLst_s, datas_nil, cons_s, datas_cons, e_var, e_cst, e_tup, e_lst, e_nlst, e_op, negV_i, e_neg, e_cmp, brV_t, brV_f, e_chain, e_and, e_or, notV_b, e_not, e_ite, e_call, e_bi, e_bloc, e_mt, e_idx, e_gidx, e_gin, e_sl, part_0, part_1, compW_items, compZ_t, compZ_f, e_comp, optD_d, noEx_ok, p_and, p_or, p_not, boolV_b, p_cmp, p_chain, p_gin, p_tst, es_nil, es_cons, ts_nil, ts_cons, nxO_s, k_asg, k_par, k_set, k_ex, k_ret, k_ret0, k_ifs, forW_items, k_for, k_whl, k_raise, try_ex, try_nx, try_rt, k_try, k_brk, k_cnt, k_pass, ks_nil, ks_cons, v_add, v_sub, v_mul, v_fdiv, v_mod, v_pow, v_tt, v_ll, v_ss, v_tm, v_lm, c_eq, c_ne, c_lt, c_ltt, c_le, c_gt, c_ge, c_isN, c_notN, i_list, i_tup, i_loc, im_l, im_s, im_i, g_idx, g_in, g_nin, sl_t, sl_l, tr_b, tr_n, tr_i, tr_l, tr_t, f_lenl, f_lent, f_int, f_tupl, f_tupt, f_lstl, f_lstt, f_lr, f_lr2, f_trg, ofI_s, max_s, ofM_s, f_max, f_min1, f_max2, f_min2, f_repr, f_isInt, f_isBool, f_isStr, f_isTup, f_isList, a_v, a_t, as_nil, as_cons, w_l, w_t, rgW_t, w_r, w_r2, w_r3, r_rt, r_nx, r_ex, r_keep, Option.bind_some, List.length_cons, List.length_nil, List.getElem?_cons_zero, List.getElem?_cons_succ, List.set_cons_zero, List.set_cons_succ, if_true, if_false, ite_true, ite_false, eq_self, Bool.not_true, Bool.not_false, Bool.true_eq_false, Bool.false_eq_true, decide_true, decide_false, Nat.zero_add, Nat.reduceAdd, Nat.reduceLT, Nat.reduceSub, Nat.sub_self, List.map_cons, List.map_nil, List.nil_append, List.cons_append, List.replicate, and_self, and_true, true_and, setL_s, set_loc, so_l, so_s, so_i, eqv_ii, eqv_ss, eqv_ln, eqv_tn, eqv_ni, eqv_in, eqv_nn, okIf_eqi, okIf_eqs, okIf_eqb, okIf_eqn, okIf_eqln, okIf_eqtn, at_0, at_1, at_2, n0, n1, n2, n3, n4, n5, n6, n7, n8, n9, n10, Int.reduceEq, Int.reduceLT, Int.reduceLE, Int.reduceSub, Int.reduceAdd, Int.reduceNeg, Int.reduceMul, decide_not, okIf_T, Nat.reduceLeDiff, Nat.zero_le, wipe_nil, wipe_cons, e_ndic, e_fld2, fldV_s, look_1, hs_rt, hh_no, hh_yes, at_3, at_4, e_act, getA_s, e_isx, e_callL, pf_nil, pf_v, pf_n, ne_nil, ne_v, ne_l, ne_n, e_nadd, py_d, k_par3, w_el, w_et, f_sset, f_setLen, f_lstEnum, f_sum, ints_nil, ints_cons, consI_s, ints_map, hs_nx, inD_i, inD_s, c_inT, c_inL, c_niT, c_niL, any_ints, words_ne, eqv_st, eqv_si, eqv_ts, eqv_it, eqv_is, eqv_ti, eqv_nt, eqv_ns, eqv_lt, eqv_tt, eqv_ll, eqvA_nn, eqvA_cc, eqvA_nc, eqvA_cn, List.any_cons, List.any_nil, Bool.or_false, Bool.false_or, Bool.or_true, Bool.true_or, Bool.and_false, Bool.false_and, Bool.and_true, Bool.true_and, brV_or, brV_and, eqvA_xn, List.isEmpty_cons, List.isEmpty_nil, f_sortD, hs0_rt, hs0_nx, hh_yes0, f_lenloc (hk s), h3, hk s', e, DS.take2]
theorem cut_tk {xs : List PyData} {k : Nat} (h : k ≤ xs.length) : cut xs none (some (k : Int)) = xs.take k := by
  unfold cut sIx
  have h1 : ¬ ((k : Nat) : Int) < 0 := by omega
  simp only [h1, if_false, Int.toNat_natCast, Nat.min_eq_left h, List.drop_zero, Nat.sub_zero]
theorem cut_dr {xs : List PyData} {k : Nat} (h : k ≤ xs.length) : cut xs (some (k : Int)) none = xs.drop k := by
  unfold cut sIx
  have h1 : ¬ ((k : Nat) : Int) < 0 := by omega
  simp only [h1, if_false, Int.toNat_natCast, Nat.min_eq_left h]
  exact List.take_of_length_le (by rw [List.length_drop]; exact Nat.le_refl _)
section
variable {α β : Type} {r : Store} {m : Store}
theorem loopC_mapX {f : PyData → Store → R (Option PyData)} {d g : α → PyData} {as : List α} {acc : List PyData} {X : R (List PyData)} (hL : loopC f (as.map d) acc m = X) (h : ∀ a ∈ as, f (d a) m = .ok (some (g a)) m) (hl : acc.length + as.length ≤ SZ) : X = .ok (acc ++ as.map g) m := hL.symm.trans (loopC_map h hl)
theorem loopC_filterX {f : PyData → Store → R (Option PyData)} {d g : α → PyData} {q : α → Bool} {as : List α} {acc : List PyData} {X : R (List PyData)} (hL : loopC f (as.map d) acc m = X) (h : ∀ a ∈ as, f (d a) m = .ok (if q a = true then some (g a) else none) m) (hl : acc.length + as.length ≤ SZ) : X = .ok (acc ++ (as.filter q).map g) m := hL.symm.trans (loopC_filter h hl)
theorem loopC_drawX {c M : Nat} {f : PyData → Store → R (Option PyData)} {d : α → PyData} {e : β → PyData} (Q : α → β → Prop) {as : List α} {acc : List PyData} {s : DS} {B : Nat} {X : R (List PyData)} (hL : loopC f (as.map d) acc (s.st r) = X)
    (h : ∀ a ∈ as, ∀ (s : DS) (B : Nat), s.Ok B → B ≤ M → ∃ (b : β) (s' : DS), Q a b ∧ s'.Ok (B + c) ∧ f (d a) (s.st r) = .ok (some (e b)) (s'.st r)) (ok : s.Ok B) (hM : B + c * as.length ≤ M) (hl : acc.length + as.length ≤ SZ) :
    ∃ (bs : List β) (s' : DS), bs.length = as.length ∧ (∀ b ∈ bs, ∃ a ∈ as, Q a b) ∧ s'.Ok (B + c * as.length) ∧ X = .ok (acc ++ bs.map e) (s'.st r) := by
  obtain ⟨bs, s', h1, h2, h3, h4⟩ := loopC_draw h ok hM hl
  exact ⟨bs, s', h1, h2, h3, hL.symm.trans h4⟩
theorem loopL_drawX {c M : Nat} {F : PyData → Fr → Store → RS} (I : Nat → Fr → Prop) {n : Nat} {ρ : Fr} {s : DS} {B : Nat} {X : RS} (hL : loopL F ((List.range n).map fun (i : Nat) => PyData.int (i : Int)) ρ (s.st r) = X)
    (step : ∀ (i : Nat) (ρ : Fr) (s : DS) (B : Nat), i < n → I i ρ → s.Ok B → B ≤ M → ∃ (ρ' : Fr) (s' : DS), I (i + 1) ρ' ∧ s'.Ok (B + c) ∧ F (.int (i : Int)) ρ (s.st r) = .nx ρ' (s'.st r)) (h : I 0 ρ) (ok : s.Ok B) (hM : B + c * n ≤ M) :
    ∃ (ρ' : Fr) (s' : DS), I n ρ' ∧ s'.Ok (B + c * n) ∧ X = .nx ρ' (s'.st r) := by
  obtain ⟨ρ', s', h1, h2, h3⟩ := loopL_draw step h ok hM
  exact ⟨ρ', s', h1, h2, hL.symm.trans h3⟩
theorem loopL_preX {F : PyData → Fr → Store → RS} {d : α → PyData} {all : List α} {ρ : Fr} {X : RS} (I : List α → Fr → Store → Prop) (hL : loopL F (all.map d) ρ m = X) (h : I [] ρ m) (step : ∀ (pre : List α) (a : α) (post : List α) (ρ : Fr) (m : Store), all = pre ++ a :: post → I pre ρ m → ∃ ρ' m', I (pre ++ [a]) ρ' m' ∧ F (d a) ρ m = .nx ρ' m') :
    ∃ ρ' m', I all ρ' m' ∧ X = .nx ρ' m' := by
  obtain ⟨ρ', m', h1, h2⟩ := loopL_pre I step h
  exact ⟨ρ', m', h1, hL.symm.trans h2⟩
theorem loopL_allX {F : PyData → Fr → Store → RS} {d : α → PyData} {p : α → Bool} {as : List α} {ρ : Fr} {X : RS} (I : Fr → Prop) (hL : loopL F (as.map d) ρ m = X) (h : I ρ) (h1 : ∀ a ∈ as, ∀ ρ, I ρ → p a = true → ∃ ρ', I ρ' ∧ F (d a) ρ m = .nx ρ' m) (h2 : ∀ a ∈ as, ∀ ρ, I ρ → p a = false → F (d a) ρ m = .rt (.d (.bool false)) m) :
    (as.all p = true ∧ ∃ ρ', I ρ' ∧ X = .nx ρ' m) ∨ (as.all p = false ∧ X = .rt (.d (.bool false)) m) := by
  obtain ⟨a, b⟩ := loop_allT I h h1 h2
  cases q : as.all p with
  | true =>
    obtain ⟨ρ', i, e⟩ := a q
    exact .inl ⟨rfl, ρ', i, hL.symm.trans e⟩
  | false => exact .inr ⟨rfl, hL.symm.trans (b q)⟩
end
theorem ks_app {cx : Cxt} : ∀ {as bs : List CS} {ρ : Fr} {m : Store}, evSs cx (as ++ bs) ρ m = (evSs cx as ρ m).seq fun ρ m => evSs cx bs ρ m
  | [], bs, ρ, m => by
    rw [List.nil_append, ks_nil, s_nx]
  | a :: as, bs, ρ, m => by
    rw [List.cons_append, ks_cons, ks_cons]
    cases evS cx a ρ m with
    | nx ρ' m' =>
      rw [s_nx, s_nx]
      exact ks_app
    | _ => rfl
/-- a body in two parts -/
theorem ks_cut {cx : Cxt} {b : List CS} (k : Nat) {ρ ρ' : Fr} {m m' : Store} (h : evSs cx (b.take k) ρ m = .nx ρ' m') : evSs cx b ρ m = evSs cx (b.drop k) ρ' m' := by
  have e := ks_app (cx := cx) (as := b.take k) (bs := b.drop k) (ρ := ρ) (m := m)
  rw [List.take_append_drop, h] at e
  exact e
theorem call_cut {T : Tbl} {f : Str} {fd : FD} {n : Nat} {vs : List Val} {m m' : Store} {ρ' : Fr} {as bs : List CS} (hb : fd.body = as ++ bs) (h : T.fn f = some fd) (he : fd.exc = none) (hd : fd.dfl = []) (hl : vs.length = fd.np)
    (hc : evSs (cxt T n) as (vs.map (fun v => some (.v v)) ++ List.replicate (fd.nl - vs.length) none) m = .nx ρ' m') :
    (cxt T (n + 1)).call f vs m = ret fd.keep m.length (evSs (cxt T n) bs ρ' m') := by
  rw [call_run h he hd hl, hb, ks_app, hc]
  rfl
end MN

set_option maxRecDepth 100000
set_option maxHeartbeats 4000000
/-! K12A: what can be shown; what is caught; joinings. -/
namespace MN.J
open PySem
local macro_rules
  | `(tactic| simp! only [$xs,*]) => `(tactic| simp only [b_ok, b_ex, s_nx, s_rt, s_ex, s_bk, s_ct, o_ok, o_ex, t_nx, t_ct, t_bk, t_rt, t_ex, ofO_s, ofV_s, ofB_s, getV_s, okTup_s, okLst_s, datas_nil, cons_s, datas_cons, e_var, e_cst, e_tup, e_lst, e_nlst, e_op, negV_i, e_neg, e_cmp, brV_t, brV_f, e_chain, e_and, e_or, notV_b, e_not, e_ite, e_call, e_bi, e_bloc, e_mt, e_idx, e_gidx, e_gin, e_sl, part_0, part_1, compW_items, compZ_t, compZ_f, e_comp, optD_d, noEx_ok, p_and, p_or, p_not, boolV_b, p_cmp, p_chain, p_gin, p_tst, es_nil, es_cons, ts_nil, ts_cons, nxO_s, k_asg, k_par, k_set, k_ex, k_ret, k_ret0, k_ifs, forW_items, k_for, k_whl, k_raise, try_ex, try_nx, try_rt, k_try, k_brk, k_cnt, k_pass, ks_nil, ks_cons, v_add, v_sub, v_mul, v_fdiv, v_mod, v_pow, v_tt, v_ll, v_ss, v_tm, v_lm, c_eq, c_ne, c_lt, c_ltt, c_le, c_gt, c_ge, c_isN, c_notN, i_list, i_tup, i_loc, im_l, im_s, im_i, g_idx, g_in, g_nin, sl_t, sl_l, tr_b, tr_n, tr_i, tr_l, tr_t, f_lenl, f_lent, f_int, f_tupl, f_tupt, f_lstl, f_lstt, f_lr, f_lr2, f_trg, ofI_s, max_s, ofM_s, f_max, f_min1, f_max2, f_min2, f_repr, f_isInt, f_isBool, f_isStr, f_isTup, f_isList, a_v, a_t, as_nil, as_cons, w_l, w_t, rgW_t, w_r, w_r2, w_r3, r_rt, r_nx, r_ex, r_keep, Option.bind_some, List.length_cons, List.length_nil, List.getElem?_cons_zero, List.getElem?_cons_succ, List.set_cons_zero, List.set_cons_succ, if_true, if_false, ite_true, ite_false, eq_self, Bool.not_true, Bool.not_false, Bool.true_eq_false, Bool.false_eq_true, decide_true, decide_false, Nat.zero_add, Nat.reduceAdd, Nat.reduceLT, Nat.reduceSub, Nat.sub_self, List.map_cons, List.map_nil, List.nil_append, List.cons_append, List.replicate, and_self, and_true, true_and, setL_s, set_loc, so_l, so_s, so_i, eqv_ii, eqv_ss, eqv_ln, eqv_tn, eqv_ni, eqv_in, eqv_nn, okIf_eqi, okIf_eqs, okIf_eqb, okIf_eqn, okIf_eqln, okIf_eqtn, at_0, at_1, at_2, n0, n1, n2, n3, n4, n5, n6, n7, n8, n9, n10, Int.reduceEq, Int.reduceLT, Int.reduceLE, Int.reduceSub, Int.reduceAdd, Int.reduceNeg, Int.reduceMul, decide_not, okIf_T, Nat.reduceLeDiff, Nat.zero_le, wipe_nil, wipe_cons, e_ndic, e_fld2, fldV_s, look_1, hs_rt, hh_no, hh_yes, at_3, at_4, e_act, getA_s, e_isx, e_callL, pf_nil, pf_v, pf_n, ne_nil, ne_v, ne_l, ne_n, e_nadd, py_d, k_par3, w_el, w_et, f_sset, f_setLen, f_lstEnum, f_sum, ints_nil, ints_cons, consI_s, ints_map, hs_nx, inD_i, inD_s, c_inT, c_inL, c_niT, c_niL, any_ints, words_ne, eqv_st, eqv_si, eqv_ts, eqv_it, eqv_is, eqv_ti, eqv_nt, eqv_ns, eqv_lt, eqv_tt, eqv_ll, eqvA_nn, eqvA_cc, eqvA_nc, eqvA_cn, List.any_cons, List.any_nil, Bool.or_false, Bool.false_or, Bool.or_true, Bool.true_or, Bool.and_false, Bool.false_and, Bool.and_true, Bool.true_and, brV_or, brV_and, eqvA_xn, List.isEmpty_cons, List.isEmpty_nil, f_sortD, hs0_rt, hs0_nx, hh_yes0, $xs,*])
def b_is_from : List CS := [.ret (.and (.bi .isInt [(.var 0)]) (.and (.not (.bi .isBool [(.var 0)])) (.chain .le .le (.var 1) (.var 0) (.var 2))))]
def fd_is_from : FD := ⟨3, 3, [], b_is_from, false, none⟩
def b_is_natural : List CS := [.ret (.and (.bi .isInt [(.var 0)]) (.and (.not (.bi .isBool [(.var 0)])) (.cmp .ge (.var 0) (.cst (.int 0)))))]
def fd_is_natural : FD := ⟨1, 1, [], b_is_natural, false, none⟩
def b_is_joining : List CS := [.ifs (.or (.not (.tst (.bi .isTup [(.var 1)]))) (.cmp .ne (.bi .len [(.var 1)]) (.var 0))) [.ret (.cst (.bool false))] [], .for_ .enum [(.var 1)] (.t [(.v 2), (.v 3)]) [.ifs (.or (.not (.tst (.call ("is_from" : Str) [(.var 3), (.cst (.int 0)), (.var 2)]))) (.cmp .ne (.idx (.var 1) (.var 3)) (.var 3))) [.ret (.cst (.bool false))] []], .ret (.cst (.bool true))]
def fd_is_joining : FD := ⟨2, 4, [], b_is_joining, false, none⟩
def b_need_joining : List CS := [.ifs (.not (.tst (.call ("is_from" : Str) [(.var 0), (.cst (.int 0)), (.cst (.int 12))]))) [.raise ("BadParameter" : Str) [(.var 0)]] [], .ifs (.not (.tst (.call ("is_joining" : Str) [(.var 0), (.var 1)]))) [.raise ("BadJoining" : Str) [(.var 1)]] [], .ret (.var 1)]
def fd_need_joining : FD := ⟨2, 2, [], b_need_joining, false, none⟩
def b__law_is_joining : List CS := [.ifs (.or (.not (.tst (.bi .isTup [(.var 1)]))) (.cmp .ne (.bi .len [(.var 1)]) (.var 0))) [.ret (.cst (.bool false))] [], .for_ .enum [(.var 1)] (.t [(.v 2), (.v 3)]) [.ifs (.or (.not (.tst (.bi .isInt [(.var 3)]))) (.or (.tst (.bi .isBool [(.var 3)])) (.not (.chain .le .le (.cst (.int 0)) (.var 3) (.var 2))))) [.ret (.cst (.bool false))] []], .ret (.cmp .eq (.comp false .seq [(.var 1)] (.v 3) [3] [(.cmp .ne (.idx (.var 1) (.var 3)) (.var 3))] (.cst (.int 1))) (.lst []))]
def fd__law_is_joining : FD := ⟨2, 4, [], b__law_is_joining, false, none⟩
def b__law_caught : List CS := [.asg (.v 1) (.cst .none), .try_ [.asg (.v 1) (.lst [(.cst (.str ("told" : Str))), (.act 0)])] [(("BadJoining" : Str), (some 2), [.asg (.v 1) (.lst [(.cst (.str ("BadJoining" : Str))), (.fld 2 ("value" : Str)), (.isx 2 ("BadParameter" : Str))])]), (("BadParameter" : Str), (some 2), [.asg (.v 1) (.lst [(.cst (.str ("BadParameter" : Str))), (.fld 2 ("value" : Str)), (.isx 2 ("BadJoining" : Str))])]), (("BadStanding" : Str), (some 2), [.asg (.v 1) (.lst [(.cst (.str ("BadStanding" : Str))), (.fld 2 ("place" : Str)), (.isx 2 ("BadJoining" : Str))])]), (("TooGreat" : Str), (some 2), [.asg (.v 1) (.lst [(.cst (.str ("TooGreat" : Str))), (.fld 2 ("most" : Str)), (.isx 2 ("BadParameter" : Str))])]), (("PassError" : Str), none, [.asg (.v 1) (.lst [(.cst (.str ("another" : Str)))])])], .ret (.var 1)]
def fd__law_caught : FD := ⟨1, 3, [], b__law_caught, false, none⟩
/-! values that can be shown -/
structure Sh (x : PyData) (w d : Nat) : Prop where
  sh : x.showable = true
  wt : wt x ≤ w
  dp : x.depth ≤ d
theorem Sh.ok {x : PyData} {w d : Nat} (h : Sh x w d) (h1 : w ≤ 1000000) (h2 : d ≤ 64) : shOk x = true := shOk_of h.sh (Nat.le_trans h.wt h1) (Nat.le_trans h.dp h2)
structure Shs (xs : List PyData) (w d : Nat) : Prop where
  sh : PyData.showableAll xs = true
  wt : wts xs ≤ w
  dp : PyData.depthAll xs ≤ d
theorem shs_nil : Shs [] 0 0 := ⟨sh_nil, by rw [wts_nil]; exact Nat.le_refl 0, by rw [dp_nil]; exact Nat.le_refl 0⟩
theorem shs_cons {x : PyData} {xs : List PyData} {w d w2 d2 : Nat} (h : Sh x w d) (hs : Shs xs w2 d2) : Shs (x :: xs) (w + 2 + w2) (max d d2) :=
  ⟨by rw [sh_cons, h.sh, hs.sh]; rfl, by rw [wts_cons]; have := h.wt; have := hs.wt; omega, by rw [dp_cons]; have := h.dp; have := hs.dp; omega⟩
theorem sh_tuple {xs : List PyData} {w d : Nat} (h : Shs xs w d) : Sh (.tuple xs) (3 + w) (d + 1) :=
  ⟨by rw [sh_tup, h.sh], by rw [wt_tup]; have := h.wt; omega, by rw [dp_tup]; have := h.dp; omega⟩
theorem sh_list {xs : List PyData} {w d : Nat} (h : Shs xs w d) : Sh (.list xs) (2 + w) (d + 1) :=
  ⟨by rw [sh_lst, h.sh], by rw [wt_lst]; have := h.wt; omega, by rw [dp_lst]; have := h.dp; omega⟩
theorem shs_map {α : Type} {f : α → PyData} {as : List α} {w d : Nat} (h : ∀ a ∈ as, Sh (f a) w d) : Shs (as.map f) (as.length * (w + 2)) d :=
  ⟨sh_all fun a ha => (h a ha).sh, wts_le fun a ha => (h a ha).wt, dp_all fun a ha => (h a ha).dp⟩
theorem shs_of {as : List PyData} {w d : Nat} (h : ∀ a ∈ as, Sh a w d) : Shs as (as.length * (w + 2)) d := by
  have := shs_map (f := fun x : PyData => x) h
  rwa [List.map_id'] at this
theorem Sh.mono {x : PyData} {w d w2 d2 : Nat} (h : Sh x w d) (h1 : w ≤ w2) (h2 : d ≤ d2) : Sh x w2 d2 := ⟨h.sh, Nat.le_trans h.wt h1, Nat.le_trans h.dp h2⟩
theorem sh_natS {i : Nat} (h : i < 1000) : Sh (.int (i : Int)) 3 0 := ⟨sh_nat (by omega), wt_nat (by decide) (by simpa using h), by rw [dp_int]; exact Nat.le_refl 0⟩
theorem sh_boolS {b : Bool} : Sh (.bool b) 5 0 := ⟨sh_bool, by rw [wt_bool]; exact Nat.le_refl 5, by rw [dp_bool]; exact Nat.le_refl 0⟩
theorem sh_noneS : Sh .none 4 0 := ⟨sh_none, by rw [wt_none]; exact Nat.le_refl 4, by rw [dp_none]; exact Nat.le_refl 0⟩
theorem sh_strS {x : Str} {k : Nat} (h : (reprText x).length ≤ k) : Sh (.str x) k 0 := ⟨sh_str, by rw [MN.wt]; exact h, by rw [dp_str]; exact Nat.le_refl 0⟩
theorem sh_neg1 : Sh (.int (-1)) 2 0 := ⟨by decide +kernel, by decide +kernel, by decide +kernel⟩
theorem like_L {T : Tbl} (L : T.fn "_law_like" = some fd__law_like) {N : Nat} (hN : 1 ≤ N) {x : PyData} {w d : Nat} (h : Sh x w d) (h1 : w ≤ 1000000) (h2 : d ≤ 64) (m : Store) : (cxt T N).call "_law_like" [.d x, .d x] m = .ok (.d (.bool true)) m := by
  obtain ⟨n, rfl⟩ : ∃ n, N = n + 1 := ⟨N - 1, by omega⟩
  exact like_ok L n (h.ok h1 h2) m
/-! loops over a list that may change -/
theorem loopD_inv {F : PyData → Fr → Store → RS} {n : Nat} {m : Store} {xs : List PyData} (hm : m[n]? = some (.lst xs)) (I : Fr → Prop) (step : ∀ x ∈ xs, ∀ ρ, I ρ → ∃ ρ', I ρ' ∧ F x ρ m = .nx ρ' m) : ∀ (k i : Nat) (ρ : Fr), I ρ → xs.length + 1 ≤ k + i → i ≤ xs.length → ∃ ρ', I ρ' ∧ loopD F n k i ρ m = .nx ρ' m := by
  intro k
  induction k with
  | zero => intro i ρ _ h1 h2; omega
  | succ k ih =>
    intro i ρ h h1 h2
    unfold loopD
    simp only [hm]
    by_cases hi : i < xs.length
    · obtain ⟨ρ', i', e⟩ := step xs[i] (List.getElem_mem hi) ρ h
      rw [List.getElem?_eq_getElem hi]
      simp only [e, RS.turn]
      exact ih (i + 1) ρ' i' (by omega) (by omega)
    · rw [List.getElem?_eq_none (by omega)]
      exact ⟨ρ, h, rfl⟩
theorem enum_eq {α : Type} {d : α → PyData} : ∀ {as : List α} {i : Nat}, enumFrom i (as.map d) = (as.zipIdx i).map fun p => PyData.tuple [.int (p.2 : Int), d p.1]
  | [], _ => rfl
  | a :: as, i => by
    rw [List.zipIdx_cons, List.map_cons, List.map_cons]
    show _ :: enumFrom (i + 1) (as.map d) = _
    rw [enum_eq]
theorem enum_id {xs : List PyData} : enumFrom 0 xs = (xs.zipIdx 0).map fun p => PyData.tuple [.int (p.2 : Int), p.1] := by
  have := enum_eq (d := fun x : PyData => x) (as := xs) (i := 0)
  rwa [List.map_id'] at this
/-! exceptions -/
def eJoin (v : PyData) : Exc := ⟨"BadJoining", [("value", v)]⟩
def ePar (v : PyData) : Exc := ⟨"BadParameter", [("value", v)]⟩
def eStand (v : PyData) : Exc := ⟨"BadStanding", [("place", v)]⟩
def eGreat (v : PyData) : Exc := ⟨"TooGreat", [("most", v)]⟩
structure JT (T : Tbl) : Prop where
  is_from : T.fn "is_from" = some fd_is_from
  is_natural : T.fn "is_natural" = some fd_is_natural
  is_joining : T.fn "is_joining" = some fd_is_joining
  need_joining : T.fn "need_joining" = some fd_need_joining
  lis : T.fn "_law_is_joining" = some fd__law_is_joining
  bj : T.fn "BadJoining" = some ⟨1, 1, [], [], false, some ["value"]⟩
  bp : T.fn "BadParameter" = some ⟨1, 1, [], [], false, some ["value"]⟩
  tg : T.fn "TooGreat" = some ⟨1, 1, [], [], false, some ["most"]⟩
  caught : T.fn "_law_caught" = some fd__law_caught
  i1 : T.isE "BadJoining" "BadJoining" = some true
  i2 : T.isE "BadJoining" "BadParameter" = some false
  i3 : T.isE "BadParameter" "BadJoining" = some false
  i4 : T.isE "BadParameter" "BadParameter" = some true
  i5 : T.isE "BadStanding" "BadJoining" = some false
  i6 : T.isE "BadStanding" "BadParameter" = some false
  i7 : T.isE "BadStanding" "BadStanding" = some true
  i8 : T.isE "TooGreat" "BadJoining" = some false
  i9 : T.isE "TooGreat" "BadParameter" = some false
  i10 : T.isE "TooGreat" "BadStanding" = some false
  i11 : T.isE "TooGreat" "TooGreat" = some true
  f1 : T.ef "BadJoining" "value" = true
  f2 : T.ef "BadParameter" "value" = true
  f3 : T.ef "BadStanding" "place" = true
  f4 : T.ef "TooGreat" "most" = true
/-- is_from, of any value -/
def pFrom (v : PyData) (lo hi : Int) : Bool := match v with
  | .int i => decide (lo ≤ i) && decide (i ≤ hi)
  | _ => false
def pNat (v : PyData) : Bool := match v with
  | .int i => decide (0 ≤ i)
  | _ => false
/-- a number that stands for itself -/
def self (xs : List PyData) (x : PyData) : Bool := match x with
  | .int k => (match xs[k.toNat]? with
    | some y => PyData.eqv y x
    | none => false)
  | _ => false
def isJ (w : Int) (v : PyData) : Bool := match v with
  | .tuple xs => decide ((xs.length : Int) = w) && (xs.zipIdx 0).all fun p => pFrom p.1 0 p.2 && self xs p.1
  | _ => false
theorem isJ_tup {w : Int} {xs : List PyData} : isJ w (.tuple xs) = (decide ((xs.length : Int) = w) && (xs.zipIdx 0).all fun p => pFrom p.1 0 p.2 && self xs p.1) := rfl
theorem self_nat {xs : List PyData} {q : Nat} (h : q < xs.length) : self xs (.int (q : Int)) = PyData.eqv xs[q] (.int (q : Int)) := by
  show (match xs[(q : Int).toNat]? with
    | some y => PyData.eqv y (.int (q : Int))
    | none => false) = _
  rw [Int.toNat_natCast, List.getElem?_eq_getElem h]
theorem zip_mem {xs : List PyData} {p : PyData × Nat} (h : p ∈ xs.zipIdx 0) : p.2 < xs.length ∧ xs[p.2]? = some p.1 := by
  obtain ⟨h1, h2⟩ := List.mem_zipIdx' h
  exact ⟨h1, (List.getElem?_eq_getElem h1).trans (congrArg some h2.symm)⟩
theorem pFrom_is {v : PyData} {lo hi : Int} (h : pFrom v lo hi = true) : ∃ k : Int, v = .int k ∧ lo ≤ k ∧ k ≤ hi := by
  cases v with
  | int k =>
    unfold pFrom at h
    simp only [Bool.and_eq_true, decide_eq_true_iff] at h
    exact ⟨k, rfl, h⟩
  | _ => cases h
section
variable {T : Tbl} (J : JT T)
include J
theorem from_ok {N : Nat} (hN : 1 ≤ N) (v : PyData) (lo hi : Int) (m : Store) : (cxt T N).call "is_from" [.d v, .d (.int lo), .d (.int hi)] m = .ok (.d (.bool (pFrom v lo hi))) m := by
  obtain ⟨n, rfl⟩ : ∃ n, N = n + 1 := ⟨N - 1, by omega⟩
  rw [call_run J.is_from rfl rfl rfl]
  cases v with
  | int i =>
    by_cases h1 : lo ≤ i
    · by_cases h2 : i ≤ hi
      · simp! only [fd_is_from, b_is_from, pFrom, h1, h2, List.take_length]
      · simp! only [fd_is_from, b_is_from, pFrom, h1, h2, List.take_length]
    · simp! only [fd_is_from, b_is_from, pFrom, h1, List.take_length]
  | _ => simp! only [fd_is_from, b_is_from, pFrom, List.take_length]
theorem natural_ok {N : Nat} (hN : 1 ≤ N) (v : PyData) (m : Store) : (cxt T N).call "is_natural" [.d v] m = .ok (.d (.bool (pNat v))) m := by
  obtain ⟨n, rfl⟩ : ∃ n, N = n + 1 := ⟨N - 1, by omega⟩
  rw [call_run J.is_natural rfl rfl rfl]
  cases v with
  | int i => simp! only [fd_is_natural, b_is_natural, pNat, List.take_length]
  | _ => simp! only [fd_is_natural, b_is_natural, pNat, List.take_length]
theorem is_joining_ok {N : Nat} (hN : 2 ≤ N) (w : Int) (v : PyData) (m : Store) : (cxt T N).call "is_joining" [.d (.int w), .d v] m = .ok (.d (.bool (isJ w v))) m := by
  obtain ⟨n, rfl⟩ : ∃ n, N = n + 2 := ⟨N - 2, by omega⟩
  rw [call_run J.is_joining rfl rfl rfl]
  cases v with
  | tuple xs =>
    by_cases hw : (xs.length : Int) = w
    · have fr : ∀ (v : PyData) (hi : Int), (cxt T (n + 1)).call "is_from" [.d v, .d (.int 0), .d (.int hi)] m = .ok (.d (.bool (pFrom v 0 hi))) m := fun v hi => from_ok J (by omega) v 0 hi m
      simp! only [fd_is_joining, b_is_joining, hw, enum_id]
      generalize hL : loopL _ _ _ _ = L
      have key := loopL_allX (d := fun p : PyData × Nat => PyData.tuple [.int (p.2 : Int), p.1]) (p := fun p => pFrom p.1 0 p.2 && self xs p.1)
        (fun ρ => ∃ a b, ρ = [some (.v (.d (.int w))), some (.v (.d (.tuple xs))), a, b]) hL ⟨none, none, rfl⟩
        (fun p hp ρ ⟨a, b, e⟩ hq => by
          subst e
          rw [Bool.and_eq_true] at hq
          obtain ⟨h1, h2⟩ := zip_mem hp
          obtain ⟨k, ek, k0, k1⟩ := pFrom_is hq.1
          have hs := hq.2
          refine ⟨[some (.v (.d (.int w))), some (.v (.d (.tuple xs))), some (.v (.d (.int (p.2 : Int)))), some (.v (.d p.1))], ⟨_, _, rfl⟩, ?_⟩
          have ef := fr p.1 p.2
          rw [hq.1] at ef
          rw [ek] at ef hs ⊢
          obtain ⟨q, rfl⟩ : ∃ q : Nat, k = (q : Int) := ⟨k.toNat, by omega⟩
          rw [self_nat (show q < xs.length by omega)] at hs
          have e2 : atI xs (q : Int) = some xs[q] := by rw [atI_nat (show q < xs.length by omega), List.getElem?_eq_getElem]
          have hz : eqOk xs[q] (.int (q : Int)) = true := by unfold eqOk; rw [dp_int, Nat.min_zero]; rfl
          simp! only [forF, ef, e2, okIf_t hz, hs])
        (fun p hp ρ ⟨a, b, e⟩ hq => by
          subst e
          obtain ⟨h1, h2⟩ := zip_mem hp
          have ef := fr p.1 p.2
          cases hf : pFrom p.1 0 p.2 with
          | false =>
            rw [hf] at ef
            simp! only [forF, ef]
          | true =>
            obtain ⟨k, ek, k0, k1⟩ := pFrom_is hf
            rw [hf, Bool.true_and] at hq
            rw [hf] at ef
            have hs := hq
            rw [ek] at ef hs ⊢
            obtain ⟨q, rfl⟩ : ∃ q : Nat, k = (q : Int) := ⟨k.toNat, by omega⟩
            rw [self_nat (show q < xs.length by omega)] at hs
            have e2 : atI xs (q : Int) = some xs[q] := by rw [atI_nat (show q < xs.length by omega), List.getElem?_eq_getElem]
            have hz : eqOk xs[q] (.int (q : Int)) = true := by unfold eqOk; rw [dp_int, Nat.min_zero]; rfl
            simp! only [forF, ef, e2, okIf_t hz, hs])
      rw [isJ_tup, decide_eq_true hw, Bool.true_and]
      rcases key with ⟨ha, ρ', ⟨a, b, rfl⟩, e⟩ | ⟨ha, e⟩
      · subst e
        rw [ha]
        simp! only [List.take_length]
      · subst e
        rw [ha]
        simp! only [List.take_length]
    · simp! only [fd_is_joining, b_is_joining, isJ, hw, List.take_length]
  | _ => simp! only [fd_is_joining, b_is_joining, isJ, List.take_length]
end
end MN.J

set_option maxRecDepth 100000
set_option maxHeartbeats 4000000
/-! K12B: need_joining, _law_is_joining, _law_caught. -/
namespace MN.J
open PySem
local macro_rules
  | `(tactic| simp! only [$xs,*]) => `(tactic| simp only [b_ok, b_ex, s_nx, s_rt, s_ex, s_bk, s_ct, o_ok, o_ex, t_nx, t_ct, t_bk, t_rt, t_ex, ofO_s, ofV_s, ofB_s, getV_s, okTup_s, okLst_s, datas_nil, cons_s, datas_cons, e_var, e_cst, e_tup, e_lst, e_nlst, e_op, negV_i, e_neg, e_cmp, brV_t, brV_f, e_chain, e_and, e_or, notV_b, e_not, e_ite, e_call, e_bi, e_bloc, e_mt, e_idx, e_gidx, e_gin, e_sl, part_0, part_1, compW_items, compZ_t, compZ_f, e_comp, optD_d, noEx_ok, p_and, p_or, p_not, boolV_b, p_cmp, p_chain, p_gin, p_tst, es_nil, es_cons, ts_nil, ts_cons, nxO_s, k_asg, k_par, k_set, k_ex, k_ret, k_ret0, k_ifs, forW_items, k_for, k_whl, k_raise, try_ex, try_nx, try_rt, k_try, k_brk, k_cnt, k_pass, ks_nil, ks_cons, v_add, v_sub, v_mul, v_fdiv, v_mod, v_pow, v_tt, v_ll, v_ss, v_tm, v_lm, c_eq, c_ne, c_lt, c_ltt, c_le, c_gt, c_ge, c_isN, c_notN, i_list, i_tup, i_loc, im_l, im_s, im_i, g_idx, g_in, g_nin, sl_t, sl_l, tr_b, tr_n, tr_i, tr_l, tr_t, f_lenl, f_lent, f_int, f_tupl, f_tupt, f_lstl, f_lstt, f_lr, f_lr2, f_trg, ofI_s, max_s, ofM_s, f_max, f_min1, f_max2, f_min2, f_repr, f_isInt, f_isBool, f_isStr, f_isTup, f_isList, a_v, a_t, as_nil, as_cons, w_l, w_t, rgW_t, w_r, w_r2, w_r3, r_rt, r_nx, r_ex, r_keep, Option.bind_some, List.length_cons, List.length_nil, List.getElem?_cons_zero, List.getElem?_cons_succ, List.set_cons_zero, List.set_cons_succ, if_true, if_false, ite_true, ite_false, eq_self, Bool.not_true, Bool.not_false, Bool.true_eq_false, Bool.false_eq_true, decide_true, decide_false, Nat.zero_add, Nat.reduceAdd, Nat.reduceLT, Nat.reduceSub, Nat.sub_self, List.map_cons, List.map_nil, List.nil_append, List.cons_append, List.replicate, and_self, and_true, true_and, setL_s, set_loc, so_l, so_s, so_i, eqv_ii, eqv_ss, eqv_ln, eqv_tn, eqv_ni, eqv_in, eqv_nn, okIf_eqi, okIf_eqs, okIf_eqb, okIf_eqn, okIf_eqln, okIf_eqtn, at_0, at_1, at_2, n0, n1, n2, n3, n4, n5, n6, n7, n8, n9, n10, Int.reduceEq, Int.reduceLT, Int.reduceLE, Int.reduceSub, Int.reduceAdd, Int.reduceNeg, Int.reduceMul, decide_not, okIf_T, Nat.reduceLeDiff, Nat.zero_le, wipe_nil, wipe_cons, e_ndic, e_fld2, fldV_s, look_1, hs_rt, hh_no, hh_yes, at_3, at_4, e_act, getA_s, e_isx, e_callL, pf_nil, pf_v, pf_n, ne_nil, ne_v, ne_l, ne_n, e_nadd, py_d, k_par3, w_el, w_et, f_sset, f_setLen, f_lstEnum, f_sum, ints_nil, ints_cons, consI_s, ints_map, hs_nx, inD_i, inD_s, c_inT, c_inL, c_niT, c_niL, any_ints, words_ne, eqv_st, eqv_si, eqv_ts, eqv_it, eqv_is, eqv_ti, eqv_nt, eqv_ns, eqv_lt, eqv_tt, eqv_ll, eqvA_nn, eqvA_cc, eqvA_nc, eqvA_cn, List.any_cons, List.any_nil, Bool.or_false, Bool.false_or, Bool.or_true, Bool.true_or, Bool.and_false, Bool.false_and, Bool.and_true, Bool.true_and, brV_or, brV_and, eqvA_xn, List.isEmpty_cons, List.isEmpty_nil, f_sortD, hs0_rt, hs0_nx, hh_yes0, $xs,*])
theorem loopC_filtI {m : Store} {f : PyData → Store → R (Option PyData)} {g : PyData → PyData} {q : PyData → Bool} {xs acc : List PyData} {X : R (List PyData)} (hL : loopC f xs acc m = X) (h : ∀ a ∈ xs, f a m = .ok (if q a = true then some (g a) else none) m) (hl : acc.length + xs.length ≤ SZ) : X = .ok (acc ++ (xs.filter q).map g) m := by
  have := loopC_filter (m := m) (f := f) (d := fun x : PyData => x) (q := q) (g := g) (as := xs) (acc := acc) h hl
  rw [List.map_id'] at this
  exact hL.symm.trans this
section
variable {T : Tbl} (J : JT T)
include J
theorem need_ok {N : Nat} (hN : 3 ≤ N) {w : Int} (hw : 0 ≤ w ∧ w ≤ 12) {v : PyData} (h : isJ w v = true) (m : Store) : (cxt T N).call "need_joining" [.d (.int w), .d v] m = .ok (.d v) m := by
  obtain ⟨n, rfl⟩ : ∃ n, N = n + 1 := ⟨N - 1, by omega⟩
  have e1 := from_ok J (N := n) (by omega) (.int w) 0 12 m
  have e2 := is_joining_ok J (N := n) (by omega) w v m
  have q : pFrom (.int w) 0 12 = true := by
    show (decide (0 ≤ w) && decide (w ≤ 12)) = true
    rw [decide_eq_true hw.1, decide_eq_true hw.2]
    rfl
  rw [q] at e1
  rw [h] at e2
  rw [call_run J.need_joining rfl rfl rfl]
  simp! only [fd_need_joining, b_need_joining, e1, e2, List.take_length]
theorem need_no {N : Nat} (hN : 3 ≤ N) {w : Int} (hw : 0 ≤ w ∧ w ≤ 12) {v : PyData} (h : isJ w v = false) (m : Store) : (cxt T N).call "need_joining" [.d (.int w), .d v] m = .ex (eJoin v) m := by
  obtain ⟨n, rfl⟩ : ∃ n, N = n + 1 := ⟨N - 1, by omega⟩
  obtain ⟨k, rfl⟩ : ∃ k, n = k + 1 := ⟨n - 1, by omega⟩
  have e1 := from_ok J (N := k + 1) (by omega) (.int w) 0 12 m
  have e2 := is_joining_ok J (N := k + 1) (by omega) w v m
  have q : pFrom (.int w) 0 12 = true := by
    show (decide (0 ≤ w) && decide (w ≤ 12)) = true
    rw [decide_eq_true hw.1, decide_eq_true hw.2]
    rfl
  rw [q] at e1
  rw [h] at e2
  rw [call_run J.need_joining rfl rfl rfl]
  simp! only [fd_need_joining, b_need_joining, e1, e2, call_exc J.bj rfl, eJoin, List.take_length]
theorem need_bad {N : Nat} (hN : 3 ≤ N) {w v : PyData} (hw : pFrom w 0 12 = false) (m : Store) : (cxt T N).call "need_joining" [.d w, .d v] m = .ex (ePar w) m := by
  obtain ⟨n, rfl⟩ : ∃ n, N = n + 1 := ⟨N - 1, by omega⟩
  obtain ⟨k, rfl⟩ : ∃ k, n = k + 1 := ⟨n - 1, by omega⟩
  have e1 := from_ok J (N := k + 1) (by omega) w 0 12 m
  rw [hw] at e1
  rw [call_run J.need_joining rfl rfl rfl]
  simp! only [fd_need_joining, b_need_joining, e1, call_exc J.bp rfl, ePar, List.take_length]
/-! the law's own -/
omit J in
theorem all_zip {xs : List PyData} {f : PyData → Bool} : (xs.zipIdx 0).all (fun p => f p.1) = xs.all f := by
  have : ∀ (xs : List PyData) (i : Nat), (xs.zipIdx i).all (fun p => f p.1) = xs.all f := by
    intro xs
    induction xs with
    | nil => intro i; rfl
    | cons x xs ih =>
      intro i
      rw [List.zipIdx_cons, List.all_cons, List.all_cons, ih]
  exact this xs 0
omit J in
theorem all_and {α : Type} {f g : α → Bool} : ∀ {l : List α}, (l.all fun x => f x && g x) = (l.all f && l.all g)
  | [] => rfl
  | x :: l => by
    rw [List.all_cons, List.all_cons, List.all_cons, all_and]
    cases f x <;> cases g x <;> simp
omit J in
theorem filt_empty {α : Type} {q : α → Bool} : ∀ {l : List α}, (l.filter fun x => !q x).isEmpty = l.all q
  | [] => rfl
  | x :: l => by
    rw [List.all_cons]
    cases h : q x with
    | true => rw [List.filter_cons_of_neg (by rw [h]; decide), filt_empty, Bool.true_and]
    | false => rw [List.filter_cons_of_pos (by rw [h]; decide)]; rfl
theorem lis_ok {N : Nat} (hN : 2 ≤ N) (w : Int) {v : PyData} (hv : ∀ xs, v = .tuple xs → xs.length ≤ 1000) (m : Store) : (cxt T N).call "_law_is_joining" [.d (.int w), .d v] m = .ok (.d (.bool (isJ w v))) m := by
  obtain ⟨n, rfl⟩ : ∃ n, N = n + 2 := ⟨N - 2, by omega⟩
  rw [call_run J.lis rfl rfl rfl]
  cases v with
  | tuple xs =>
    have hx := hv xs rfl
    by_cases hw : (xs.length : Int) = w
    · simp! only [fd__law_is_joining, b__law_is_joining, hw, enum_id]
      generalize hL : loopL _ _ _ _ = L
      have key := loopL_allX (d := fun p : PyData × Nat => PyData.tuple [.int (p.2 : Int), p.1]) (p := fun p => pFrom p.1 0 p.2)
        (fun ρ => ∃ a b, ρ = [some (.v (.d (.int w))), some (.v (.d (.tuple xs))), a, b]) hL ⟨none, none, rfl⟩
        (fun p hp ρ ⟨a, b, e⟩ hq => by
          subst e
          obtain ⟨k, ek, k0, k1⟩ := pFrom_is hq
          refine ⟨[some (.v (.d (.int w))), some (.v (.d (.tuple xs))), some (.v (.d (.int (p.2 : Int)))), some (.v (.d p.1))], ⟨_, _, rfl⟩, ?_⟩
          rw [ek]
          simp! only [forF, k0, k1])
        (fun p hp ρ ⟨a, b, e⟩ hq => by
          subst e
          obtain ⟨x, i⟩ := p
          dsimp only at hq ⊢
          cases x with
          | int k =>
            by_cases k0 : 0 ≤ k
            · have k1 : ¬ k ≤ (i : Int) := fun z => by
                have : pFrom (.int k) 0 i = true := by
                  show (decide (0 ≤ k) && decide (k ≤ (i : Int))) = true
                  rw [decide_eq_true k0, decide_eq_true z]
                  rfl
                rw [this] at hq
                cases hq
              simp! only [forF, k0, k1]
            · simp! only [forF, k0]
          | _ => simp! only [forF])
      rw [isJ_tup, decide_eq_true hw, Bool.true_and, all_and, all_zip (f := self xs)]
      rcases key with ⟨ha, ρ', ⟨a, b, rfl⟩, e⟩ | ⟨ha, e⟩
      · subst e
        rw [ha, Bool.true_and]
        simp! only []
        generalize hC : loopC _ _ _ _ = C
        have hall : ∀ x ∈ xs, ∃ q : Nat, x = .int (q : Int) ∧ q < xs.length := fun x hx => by
          obtain ⟨i, hi, rfl⟩ := List.mem_iff_getElem.mp hx
          rw [List.all_eq_true] at ha
          have := ha (xs[i], i) (by rw [List.mk_mem_zipIdx_iff_getElem?]; exact List.getElem?_eq_getElem hi)
          obtain ⟨k, ek, k0, k1⟩ := pFrom_is this
          dsimp only at ek k1
          exact ⟨k.toNat, by rw [ek]; congr 1; omega, by omega⟩
        have hc := loopC_filtI (q := fun x => !self xs x) (g := fun _ => PyData.int 1) hC (fun x hx => by
          obtain ⟨q, rfl, hq⟩ := hall x hx
          have e2 : atI xs (q : Int) = some xs[q] := by rw [atI_nat hq, List.getElem?_eq_getElem]
          have hz : eqOk xs[q] (.int (q : Int)) = true := by unfold eqOk; rw [dp_int, Nat.min_zero]; rfl
          rw [compF_eq rfl]
          cases hs : self xs (.int (q : Int)) with
          | true =>
            rw [self_nat hq] at hs
            simp! only [e2, okIf_t hz, hs]
          | false =>
            rw [self_nat hq] at hs
            simp! only [e2, okIf_t hz, hs]) (by rw [List.length_nil, Nat.zero_add]; unfold SZ; omega)
        subst hc
        have hq : ((xs.filter fun x => !self xs x).map fun _ => PyData.int 1).isEmpty = xs.all (self xs) := by
          rw [List.isEmpty_map, filt_empty]
        simp! only [hq, List.take_length]
      · subst e
        rw [ha]
        simp! only [List.take_length]
    · simp! only [fd__law_is_joining, b__law_is_joining, isJ, hw, List.take_length]
  | _ => simp! only [fd__law_is_joining, b__law_is_joining, isJ, List.take_length]
/-! what is caught -/
theorem callL_c {n : Nat} {th : (Str → List Val → Store → R Val) → Store → R Val} {m : Store} : (cxt T (n + 3)).callL "_law_caught" th m = ret false m.length (evSs { cxt T (n + 2) with act := th (cxt T (n + 1)).call } b__law_caught [some .lam, none, none] m) := by
  show runL T (cxt T (n + 2)) "_law_caught" th m = _
  unfold runL
  rw [J.caught]
  rfl
theorem c_told {n : Nat} {th : (Str → List Val → Store → R Val) → Store → R Val} {m : Store} {v : PyData} (h : th (cxt T (n + 1)).call m = .ok (.d v) m) : (cxt T (n + 3)).callL "_law_caught" th m = .ok (.d (.list [.str "told", v])) m := by
  rw [callL_c J]
  generalize hcx : ({ cxt T (n + 2) with act := th (cxt T (n + 1)).call } : Cxt) = cx
  have ha : cx.act m = .ok (.d v) m := by rw [← hcx]; exact h
  simp! only [b__law_caught, ha, List.take_length]
theorem c_join {n : Nat} {th : (Str → List Val → Store → R Val) → Store → R Val} {m : Store} {v : PyData} (h : th (cxt T (n + 1)).call m = .ex (eJoin v) m) : (cxt T (n + 3)).callL "_law_caught" th m = .ok (.d (.list [.str "BadJoining", v, .bool false])) m := by
  rw [callL_c J]
  generalize hcx : ({ cxt T (n + 2) with act := th (cxt T (n + 1)).call } : Cxt) = cx
  have ha : cx.act m = .ex (eJoin v) m := by rw [← hcx]; exact h
  have hi : ∀ c d, cx.isE c d = T.isE c d := fun c d => by rw [← hcx]; rfl
  have hf : ∀ c d, cx.ef c d = T.ef c d := fun c d => by rw [← hcx]; rfl
  simp! only [b__law_caught, ha, eJoin, hh_yes ((hi _ _).trans J.i1), fldV_s ((hf _ _).trans J.f1), isxV_s ((hi _ _).trans J.i2), List.take_length]
theorem c_par {n : Nat} {th : (Str → List Val → Store → R Val) → Store → R Val} {m : Store} {v : PyData} (h : th (cxt T (n + 1)).call m = .ex (ePar v) m) : (cxt T (n + 3)).callL "_law_caught" th m = .ok (.d (.list [.str "BadParameter", v, .bool false])) m := by
  rw [callL_c J]
  generalize hcx : ({ cxt T (n + 2) with act := th (cxt T (n + 1)).call } : Cxt) = cx
  have ha : cx.act m = .ex (ePar v) m := by rw [← hcx]; exact h
  have hi : ∀ c d, cx.isE c d = T.isE c d := fun c d => by rw [← hcx]; rfl
  have hf : ∀ c d, cx.ef c d = T.ef c d := fun c d => by rw [← hcx]; rfl
  simp! only [b__law_caught, ha, ePar, hh_no ((hi _ _).trans J.i3), hh_yes ((hi _ _).trans J.i4), fldV_s ((hf _ _).trans J.f2), isxV_s ((hi _ _).trans J.i3), List.take_length]
theorem c_stand {n : Nat} {th : (Str → List Val → Store → R Val) → Store → R Val} {m : Store} {v : PyData} (h : th (cxt T (n + 1)).call m = .ex (eStand v) m) : (cxt T (n + 3)).callL "_law_caught" th m = .ok (.d (.list [.str "BadStanding", v, .bool false])) m := by
  rw [callL_c J]
  generalize hcx : ({ cxt T (n + 2) with act := th (cxt T (n + 1)).call } : Cxt) = cx
  have ha : cx.act m = .ex (eStand v) m := by rw [← hcx]; exact h
  have hi : ∀ c d, cx.isE c d = T.isE c d := fun c d => by rw [← hcx]; rfl
  have hf : ∀ c d, cx.ef c d = T.ef c d := fun c d => by rw [← hcx]; rfl
  simp! only [b__law_caught, ha, eStand, hh_no ((hi _ _).trans J.i5), hh_no ((hi _ _).trans J.i6), hh_yes ((hi _ _).trans J.i7), fldV_s ((hf _ _).trans J.f3), isxV_s ((hi _ _).trans J.i5), List.take_length]
theorem c_great {n : Nat} {th : (Str → List Val → Store → R Val) → Store → R Val} {m : Store} {v : PyData} (h : th (cxt T (n + 1)).call m = .ex (eGreat v) m) : (cxt T (n + 3)).callL "_law_caught" th m = .ok (.d (.list [.str "TooGreat", v, .bool false])) m := by
  rw [callL_c J]
  generalize hcx : ({ cxt T (n + 2) with act := th (cxt T (n + 1)).call } : Cxt) = cx
  have ha : cx.act m = .ex (eGreat v) m := by rw [← hcx]; exact h
  have hi : ∀ c d, cx.isE c d = T.isE c d := fun c d => by rw [← hcx]; rfl
  have hf : ∀ c d, cx.ef c d = T.ef c d := fun c d => by rw [← hcx]; rfl
  simp! only [b__law_caught, ha, eGreat, hh_no ((hi _ _).trans J.i8), hh_no ((hi _ _).trans J.i9), hh_no ((hi _ _).trans J.i10), hh_yes ((hi _ _).trans J.i11), fldV_s ((hf _ _).trans J.f4), isxV_s ((hi _ _).trans J.i9), List.take_length]
end
end MN.J

set_option maxRecDepth 100000
set_option maxHeartbeats 4000000
/-! K12C: _law_needed_right. -/
namespace MN.J
open PySem
local macro_rules
  | `(tactic| simp! only [$xs,*]) => `(tactic| simp only [b_ok, b_ex, s_nx, s_rt, s_ex, s_bk, s_ct, o_ok, o_ex, t_nx, t_ct, t_bk, t_rt, t_ex, ofO_s, ofV_s, ofB_s, getV_s, okTup_s, okLst_s, datas_nil, cons_s, datas_cons, e_var, e_cst, e_tup, e_lst, e_nlst, e_op, negV_i, e_neg, e_cmp, brV_t, brV_f, e_chain, e_and, e_or, notV_b, e_not, e_ite, e_call, e_bi, e_bloc, e_mt, e_idx, e_gidx, e_gin, e_sl, part_0, part_1, compW_items, compZ_t, compZ_f, e_comp, optD_d, noEx_ok, p_and, p_or, p_not, boolV_b, p_cmp, p_chain, p_gin, p_tst, es_nil, es_cons, ts_nil, ts_cons, nxO_s, k_asg, k_par, k_set, k_ex, k_ret, k_ret0, k_ifs, forW_items, k_for, k_whl, k_raise, try_ex, try_nx, try_rt, k_try, k_brk, k_cnt, k_pass, ks_nil, ks_cons, v_add, v_sub, v_mul, v_fdiv, v_mod, v_pow, v_tt, v_ll, v_ss, v_tm, v_lm, c_eq, c_ne, c_lt, c_ltt, c_le, c_gt, c_ge, c_isN, c_notN, i_list, i_tup, i_loc, im_l, im_s, im_i, g_idx, g_in, g_nin, sl_t, sl_l, tr_b, tr_n, tr_i, tr_l, tr_t, f_lenl, f_lent, f_int, f_tupl, f_tupt, f_lstl, f_lstt, f_lr, f_lr2, f_trg, ofI_s, max_s, ofM_s, f_max, f_min1, f_max2, f_min2, f_repr, f_isInt, f_isBool, f_isStr, f_isTup, f_isList, a_v, a_t, as_nil, as_cons, w_l, w_t, rgW_t, w_r, w_r2, w_r3, r_rt, r_nx, r_ex, r_keep, Option.bind_some, List.length_cons, List.length_nil, List.getElem?_cons_zero, List.getElem?_cons_succ, List.set_cons_zero, List.set_cons_succ, if_true, if_false, ite_true, ite_false, eq_self, Bool.not_true, Bool.not_false, Bool.true_eq_false, Bool.false_eq_true, decide_true, decide_false, Nat.zero_add, Nat.reduceAdd, Nat.reduceLT, Nat.reduceSub, Nat.sub_self, List.map_cons, List.map_nil, List.nil_append, List.cons_append, List.replicate, and_self, and_true, true_and, setL_s, set_loc, so_l, so_s, so_i, eqv_ii, eqv_ss, eqv_ln, eqv_tn, eqv_ni, eqv_in, eqv_nn, okIf_eqi, okIf_eqs, okIf_eqb, okIf_eqn, okIf_eqln, okIf_eqtn, at_0, at_1, at_2, n0, n1, n2, n3, n4, n5, n6, n7, n8, n9, n10, Int.reduceEq, Int.reduceLT, Int.reduceLE, Int.reduceSub, Int.reduceAdd, Int.reduceNeg, Int.reduceMul, decide_not, okIf_T, Nat.reduceLeDiff, Nat.zero_le, wipe_nil, wipe_cons, e_ndic, e_fld2, fldV_s, look_1, hs_rt, hh_no, hh_yes, at_3, at_4, e_act, getA_s, e_isx, e_callL, pf_nil, pf_v, pf_n, ne_nil, ne_v, ne_l, ne_n, e_nadd, py_d, k_par3, w_el, w_et, f_sset, f_setLen, f_lstEnum, f_sum, ints_nil, ints_cons, consI_s, ints_map, hs_nx, inD_i, inD_s, c_inT, c_inL, c_niT, c_niL, any_ints, words_ne, eqv_st, eqv_si, eqv_ts, eqv_it, eqv_is, eqv_ti, eqv_nt, eqv_ns, eqv_lt, eqv_tt, eqv_ll, eqvA_nn, eqvA_cc, eqvA_nc, eqvA_cn, List.any_cons, List.any_nil, Bool.or_false, Bool.false_or, Bool.or_true, Bool.true_or, Bool.and_false, Bool.false_and, Bool.and_true, Bool.true_and, brV_or, brV_and, eqvA_xn, List.isEmpty_cons, List.isEmpty_nil, f_sortD, hs0_rt, hs0_nx, hh_yes0, $xs,*])
def b__law_needed_right : List CS := [.asg (.v 2) (.bi .tuple [(.comp false .range1 [(.var 1)] (.v 6) [6] [] (.call ("_law_draw" : Str) [(.var 0), (.op .add (.var 6) (.cst (.int 2)))]))]), .asg (.v 3) (.nlst [(.var 2), (.op .add (.var 2) (.tup [(.cst (.int 0))])), (.bi .list [(.var 2)]), (.cst .none), (.bi .tuple [(.op .mul (.lst [(.cst (.bool true))]) (.var 1))]), (.op .add (.sl (.var 2) [] [(.neg (.cst (.int 1)))]) (.tup [(.neg (.cst (.int 1)))])), (.op .add (.sl (.var 2) [] [(.neg (.cst (.int 1)))]) (.tup [(.cst (.str ("0" : Str)))]))]), .ex (.mt .append (.var 3) [(.bi .tuple [(.comp false .enum [(.var 2)] (.t [(.v 6), (.v 7)]) [6, 7] [] (.bi .min2 [(.var 6), (.var 7)]))])]), .for_ .seq [(.var 3)] (.v 4) [.asg (.v 5) (.ite (.tst (.call ("_law_is_joining" : Str) [(.var 1), (.var 4)])) (.lst [(.cst (.str ("told" : Str))), (.var 4)]) (.lst [(.cst (.str ("BadJoining" : Str))), (.var 4), (.cst (.bool false))])), .ifs (.not (.tst (.call ("_law_like" : Str) [(.callL ("_law_caught" : Str) (.call ("need_joining" : Str) [(.var 1), (.var 4)])), (.var 5)]))) [.ret (.cst (.bool false))] []], .ret (.cst (.bool true))]
def fd__law_needed_right : FD := ⟨2, 8, [], b__law_needed_right, false, none⟩
def b__law_needed_right_0 : List CS := [.asg (.v 2) (.bi .tuple [(.comp false .range1 [(.var 1)] (.v 6) [6] [] (.call ("_law_draw" : Str) [(.var 0), (.op .add (.var 6) (.cst (.int 2)))]))])]
def b__law_needed_right_1 : List CS := [.asg (.v 3) (.nlst [(.var 2), (.op .add (.var 2) (.tup [(.cst (.int 0))])), (.bi .list [(.var 2)]), (.cst .none), (.bi .tuple [(.op .mul (.lst [(.cst (.bool true))]) (.var 1))]), (.op .add (.sl (.var 2) [] [(.neg (.cst (.int 1)))]) (.tup [(.neg (.cst (.int 1)))])), (.op .add (.sl (.var 2) [] [(.neg (.cst (.int 1)))]) (.tup [(.cst (.str ("0" : Str)))]))])]
def b__law_needed_right_2 : List CS := [.ex (.mt .append (.var 3) [(.bi .tuple [(.comp false .enum [(.var 2)] (.t [(.v 6), (.v 7)]) [6, 7] [] (.bi .min2 [(.var 6), (.var 7)]))])])]
def b__law_needed_right_3 : List CS := [.for_ .seq [(.var 3)] (.v 4) [.asg (.v 5) (.ite (.tst (.call ("_law_is_joining" : Str) [(.var 1), (.var 4)])) (.lst [(.cst (.str ("told" : Str))), (.var 4)]) (.lst [(.cst (.str ("BadJoining" : Str))), (.var 4), (.cst (.bool false))])), .ifs (.not (.tst (.call ("_law_like" : Str) [(.callL ("_law_caught" : Str) (.call ("need_joining" : Str) [(.var 1), (.var 4)])), (.var 5)]))) [.ret (.cst (.bool false))] []], .ret (.cst (.bool true))]
theorem cut__law_needed_right : b__law_needed_right = b__law_needed_right_0 ++ (b__law_needed_right_1 ++ (b__law_needed_right_2 ++ (b__law_needed_right_3))) := rfl
theorem cut_last {xs : List PyData} : cut xs none (some (-1)) = xs.dropLast := by
  unfold cut sIx
  have h1 : (-1 : Int) < 0 := by decide
  have h2 : ((-1 : Int) + (xs.length : Int)).toNat = xs.length - 1 := by omega
  simp only [h1, if_true, h2, List.drop_zero, Nat.sub_zero, List.dropLast_eq_take]
def odd7 (xs : List PyData) (w : Nat) : List PyData := [.tuple xs, .tuple (xs ++ [.int 0]), .list xs, .none, .tuple (List.replicate w (.bool true)), .tuple (xs.dropLast ++ [.int (-1)]), .tuple (xs.dropLast ++ [.str "0"])]
structure KC (T : Tbl) : Prop extends DrawT T, JT T where
  needed : T.fn "_law_needed_right" = some fd__law_needed_right
  like : T.fn "_law_like" = some fd__law_like
theorem odd7_ok {xs : List PyData} {w : Nat} (hw : w ≤ 6) (hl : xs.length = w) (hx : ∀ x ∈ xs, Sh x 3 0) : ∀ v ∈ odd7 xs w, Sh v 200 5 ∧ ∀ ys, v = .tuple ys → ys.length ≤ 1000 := by
  have a := shs_of hx
  have dl : ∀ x ∈ xs.dropLast, Sh x 3 0 := fun x h => hx x ((List.dropLast_sublist xs).subset h)
  have ap : ∀ {ys : List PyData} {y : PyData}, (∀ x ∈ ys, Sh x 3 0) → Sh y 3 0 → ∀ x ∈ ys ++ [y], Sh x 3 0 := fun {ys y} h1 h2 x hx => by
    rcases List.mem_append.mp hx with h | h
    · exact h1 x h
    · rw [List.mem_singleton.mp h]
      exact h2
  have l1 : ∀ y : PyData, (xs ++ [y]).length = w + 1 := fun y => by rw [List.length_append, hl]; rfl
  have l2 : ∀ y : PyData, (xs.dropLast ++ [y]).length ≤ w + 1 := fun y => by rw [List.length_append, List.length_dropLast, hl, List.length_singleton]; omega
  have s0 : Sh (.int 0) 3 0 := sh_natS (i := 0) (by decide)
  have s1 : Sh (.int (-1)) 3 0 := sh_neg1.mono (by decide) (by decide)
  have s2 : Sh (.str "0") 3 0 := sh_strS (by decide +kernel)
  have e1 := sh_tuple (shs_of (ap hx s0))
  have e2 := sh_tuple (shs_of (ap dl s1))
  have e3 := sh_tuple (shs_of (ap dl s2))
  rw [l1] at e1
  have m2 := l2 (.int (-1))
  have m3 := l2 (.str "0")
  unfold odd7
  simp only [List.mem_cons, List.not_mem_nil, or_false]
  rintro v (rfl | rfl | rfl | rfl | rfl | rfl | rfl)
  · refine ⟨(sh_tuple a).mono (by omega) (by omega), fun ys e => by cases e; omega⟩
  · refine ⟨e1.mono (by omega) (by omega), fun ys e => by cases e; rw [l1]; omega⟩
  · exact ⟨(sh_list a).mono (by omega) (by omega), fun ys e => by cases e⟩
  · exact ⟨sh_noneS.mono (by omega) (by omega), fun ys e => by cases e⟩
  · have h5 := sh_tuple (shs_of (as := List.replicate w (.bool true)) (w := 5) (d := 0) fun x hx => by rw [(List.mem_replicate.mp hx).2]; exact sh_boolS)
    rw [List.length_replicate] at h5
    exact ⟨h5.mono (by omega) (by omega), fun ys e => by cases e; rw [List.length_replicate]; omega⟩
  · refine ⟨e2.mono ?_ (by omega), fun ys e => by cases e; omega⟩
    have : (xs.dropLast ++ [PyData.int (-1)]).length * (3 + 2) ≤ 7 * 5 := Nat.mul_le_mul (by omega) (by omega)
    omega
  · refine ⟨e3.mono ?_ (by omega), fun ys e => by cases e; omega⟩
    have : (xs.dropLast ++ [PyData.str "0"]).length * (3 + 2) ≤ 7 * 5 := Nat.mul_le_mul (by omega) (by omega)
    omega
section
variable {T : Tbl} (K : KC T)
include K
theorem nr0 {n : Nat} (hN : 3 ≤ n) {w : Nat} (hw : w ≤ 6) {s : DS} {B : Nat} (ok : s.Ok B) (hB : B ≤ 700000000) (r : Store) : ∃ (bs : List Nat) (s' : DS), bs.length = w ∧ (∀ b ∈ bs, b < 8) ∧ s'.Ok (B + w) ∧
    evSs (cxt T n) b__law_needed_right_0 [some (.v (.loc 1)), some (.v (.d (.int (w : Int)))), none, none, none, none, none, none] (s.st r) = .nx [some (.v (.loc 1)), some (.v (.d (.int (w : Int)))), some (.v (.d (.tuple (bs.map fun (i : Nat) => PyData.int (i : Int))))), none, none, none, none, none] (s'.st r) := by
  have rg := rgOk_n (n := w) (by omega)
  simp! only [b__law_needed_right_0, rg, rangeD_0]
  generalize hC : loopC _ _ _ _ = C
  obtain ⟨k, rfl⟩ : ∃ k, n = k + 2 := ⟨n - 2, by omega⟩
  obtain ⟨bs, s', h1, h2, h3, h4⟩ := loopC_drawX (c := 1) (M := 800000000) (e := fun (i : Nat) => PyData.int (i : Int)) (fun (i b : Nat) => b < i + 2) hC (fun i hi s B ok hB => by
    obtain ⟨v, s', a1, a2, a3⟩ := drawC K.toDrawT k ok (by omega) (i + 2) (lim := (i : Int) + 2) (by omega) (by omega) (by have := List.mem_range.mp hi; omega) r
    refine ⟨v, s', a1, a2, ?_⟩
    rw [compF_eq rfl]
    simp! only [a3]) ok (by rw [List.length_range]; omega) (by rw [List.length_nil, List.length_range, Nat.zero_add]; unfold SZ; omega)
  rw [List.length_range] at h1 h3
  subst h4
  refine ⟨bs, s', h1, fun b hb => ?_, h3.mono (by omega), ?_⟩
  · obtain ⟨i, hi, q⟩ := h2 b hb
    have := List.mem_range.mp hi
    omega
  · simp! only []
omit K in
theorem nr1 {cx : Cxt} {w : Nat} (hw : w ≤ 6) {xs : List PyData} (hl : xs.length = w) (M : Store) : evSs cx b__law_needed_right_1 [some (.v (.loc 1)), some (.v (.d (.int (w : Int)))), some (.v (.d (.tuple xs))), none, none, none, none, none] M =
    .nx [some (.v (.loc 1)), some (.v (.d (.int (w : Int)))), some (.v (.d (.tuple xs))), some (.v (.loc M.length)), none, none, none, none] (M ++ [.lst (odd7 xs w)]) := by
  have a1 : xs.length + 1 ≤ SZ := by unfold SZ; omega
  have a2 : xs.dropLast.length + 1 ≤ SZ := by rw [List.length_dropLast]; unfold SZ; omega
  have a3 : -100000 ≤ (w : Int) ∧ (w : Int) ≤ 100000 ∧ (1 : Nat) ≤ 100 := ⟨by omega, by omega, by omega⟩
  have a4 : -100000 ≤ (w : Int) ∧ (w : Int) ≤ 100000 := ⟨by omega, by omega⟩
  simp! only [b__law_needed_right_1, okIf_t a1, okIf_t a2, okIf_t a3, okIf_t a4, cut_last, rep_one, odd7, okNl_s]
omit K in
theorem w_dyn {n : Nat} {m : Store} {xs : List PyData} (h : m[n]? = some (.lst xs)) : walk .seq [.loc n] m = .dyn n (xs.length + 1) := by
  show (match m[n]? with
    | some (.lst xs) => Wk.dyn n (xs.length + 1)
    | _ => .no) = _
  rw [h]
omit K in
theorem forW_dyn {F : PyData → Fr → Store → RS} {n k : Nat} {ρ : Fr} {m : Store} : forW F (.dyn n k) ρ m = loopD F n k 0 ρ m := rfl
def mins (bs : List Nat) : List PyData := (bs.zipIdx 0).map fun p => PyData.int (if p.1 < p.2 then (p.1 : Int) else (p.2 : Int))
omit K in
theorem nr2 {cx : Cxt} {w : Nat} (hw : w ≤ 6) {bs : List Nat} (hl : bs.length = w) (M : Store) {ods : List PyData} (ho : ods.length = 7) :
    evSs cx b__law_needed_right_2 [some (.v (.loc 1)), some (.v (.d (.int (w : Int)))), some (.v (.d (.tuple (bs.map fun (i : Nat) => PyData.int (i : Int))))), some (.v (.loc M.length)), none, none, none, none] (M ++ [.lst ods]) =
    .nx [some (.v (.loc 1)), some (.v (.d (.int (w : Int)))), some (.v (.d (.tuple (bs.map fun (i : Nat) => PyData.int (i : Int))))), some (.v (.loc M.length)), none, none, none, none] (M ++ [.lst (ods ++ [.tuple (mins bs)])]) := by
  have ap := append_last (m := M) (xs := ods) (x := .tuple (mins bs)) (by rw [ho]; unfold SZ; omega)
  simp! only [b__law_needed_right_2, mtOk_last, enum_eq]
  generalize hC : loopC _ _ _ _ = C
  have hc := loopC_mapX (d := fun p : Nat × Nat => PyData.tuple [.int (p.2 : Int), .int (p.1 : Int)]) (g := fun p : Nat × Nat => PyData.int (if p.1 < p.2 then (p.1 : Int) else (p.2 : Int))) hC (fun p _ => by
    rw [compF_eq rfl]
    by_cases h : p.1 < p.2
    · have h2 : (p.1 : Int) < (p.2 : Int) := by omega
      simp! only [h, h2]
    · have h2 : ¬ (p.1 : Int) < (p.2 : Int) := by omega
      simp! only [h, h2]) (by rw [List.length_nil, List.length_zipIdx, Nat.zero_add, hl]; unfold SZ; omega)
  subst hc
  simp! only []
  rw [show (List.map (fun p : Nat × Nat => PyData.int (if p.1 < p.2 then (p.1 : Int) else (p.2 : Int))) (bs.zipIdx 0)) = mins bs from rfl, ap]
  simp! only []
omit K in
theorem mins_ok {bs : List Nat} {w : Nat} (hl : bs.length = w) (hw : w ≤ 6) (h : ∀ b ∈ bs, b < 8) : Sh (.tuple (mins bs)) 200 5 ∧ ∀ ys, PyData.tuple (mins bs) = .tuple ys → ys.length ≤ 1000 := by
  have l : (mins bs).length = w := by unfold mins; rw [List.length_map, List.length_zipIdx, hl]
  have a : Shs (mins bs) ((bs.zipIdx 0).length * (3 + 2)) 0 := shs_map fun p hp => by
    have h1 : p.1 < 8 := h p.1 (by
      obtain ⟨_, q⟩ := List.mem_zipIdx' hp
      rw [q]
      exact List.getElem_mem _)
    by_cases q : p.1 < p.2
    · rw [if_pos q]
      exact sh_natS (by omega)
    · rw [if_neg q]
      exact sh_natS (by omega)
  rw [List.length_zipIdx, hl] at a
  exact ⟨(sh_tuple a).mono (by omega) (by omega), fun ys e => by cases e; omega⟩
theorem step_ok {n : Nat} (hN : 10 ≤ n) {w : Nat} (hw : w ≤ 6) {v : PyData} (hs : Sh v 200 5) (hv : ∀ ys, v = .tuple ys → ys.length ≤ 1000) (m : Store) : ∃ d : PyData, (cxt T n).call "_law_is_joining" [.d (.int (w : Int)), .d v] m = .ok (.d (.bool (isJ w v))) m ∧
    (if isJ w v = true then d = .list [.str "told", v] else d = .list [.str "BadJoining", v, .bool false]) ∧ (cxt T n).callL "_law_caught" (fun call m => call "need_joining" [.d (.int (w : Int)), .d v] m) m = .ok (.d d) m ∧ (cxt T n).call "_law_like" [.d d, .d d] m = .ok (.d (.bool true)) m := by
  obtain ⟨k, rfl⟩ : ∃ k, n = k + 3 := ⟨n - 3, by omega⟩
  have e1 := lis_ok K.toJT (N := k + 3) (by omega) (w : Int) hv m
  have w1 : Sh (.str "told") 6 0 := sh_strS (by decide +kernel)
  have w2 : Sh (.str "BadJoining") 20 0 := sh_strS (by decide +kernel)
  cases h : isJ w v with
  | true =>
    rw [h] at e1
    refine ⟨_, e1, by rw [if_pos rfl], c_told K.toJT (need_ok K.toJT (N := k + 1) (by omega) (by omega) h m), like_L K.like (N := k + 3) (by omega) (sh_list (shs_cons w1 (shs_cons hs shs_nil))) (by omega) (by omega) m⟩
  | false =>
    rw [h] at e1
    refine ⟨_, e1, by rw [if_neg (by decide)], c_join K.toJT (need_no K.toJT (N := k + 1) (by omega) (by omega) h m), like_L K.like (N := k + 3) (by omega) (sh_list (shs_cons w2 (shs_cons hs (shs_cons (sh_boolS (b := false)) shs_nil)))) (by omega) (by omega) m⟩
theorem nr3 {n : Nat} (hN : 10 ≤ n) {w : Nat} (hw : w ≤ 6) {x : PyData} (M : Store) {ods : List PyData} (ho : ∀ v ∈ ods, Sh v 200 5 ∧ ∀ ys, v = .tuple ys → ys.length ≤ 1000) :
    evSs (cxt T n) b__law_needed_right_3 [some (.v (.loc 1)), some (.v (.d (.int (w : Int)))), some (.v (.d x)), some (.v (.loc M.length)), none, none, none, none] (M ++ [.lst ods]) = .rt (.d (.bool true)) (M ++ [.lst ods]) := by
  simp! only [b__law_needed_right_3, w_dyn get_last, forW_dyn]
  generalize hL : loopD _ _ _ _ _ _ = L
  obtain ⟨ρ', ⟨a, b, rfl⟩, e⟩ := loopD_inv (F := forF (cxt T n) (.v 4) [.asg (.v 5) (.ite (.tst (.call ("_law_is_joining" : Str) [(.var 1), (.var 4)])) (.lst [(.cst (.str ("told" : Str))), (.var 4)]) (.lst [(.cst (.str ("BadJoining" : Str))), (.var 4), (.cst (.bool false))])), .ifs (.not (.tst (.call ("_law_like" : Str) [(.callL ("_law_caught" : Str) (.call ("need_joining" : Str) [(.var 1), (.var 4)])), (.var 5)]))) [.ret (.cst (.bool false))] []]) (n := M.length) (m := M ++ [.lst ods]) (xs := ods) get_last
    (fun ρ => ∃ a b : Option Val, ρ = [some (.v (.loc 1)), some (.v (.d (.int (w : Int)))), some (.v (.d x)), some (.v (.loc M.length)), a.map SV.v, b.map SV.v, none, none]) (fun v hv ρ ⟨a, b, e⟩ => by
      subst e
      obtain ⟨hs, hv⟩ := ho v hv
      obtain ⟨d, e1, e2, e3, e4⟩ := step_ok K hN hw hs hv (M ++ [.lst ods])
      refine ⟨[some (.v (.loc 1)), some (.v (.d (.int (w : Int)))), some (.v (.d x)), some (.v (.loc M.length)), some (.v (.d v)), some (.v (.d d)), none, none], ⟨some (.d v), some (.d d), rfl⟩, ?_⟩
      rw [forF_eq rfl]
      cases h : isJ w v with
      | true =>
        rw [h, if_pos rfl] at e2
        rw [h] at e1
        subst e2
        cases a <;> cases b <;> simp! only [Option.map_none, Option.map_some, e1, e3, e4]
      | false =>
        rw [h, if_neg (by decide)] at e2
        rw [h] at e1
        subst e2
        cases a <;> cases b <;> simp! only [Option.map_none, Option.map_some, e1, e3, e4]) (ods.length + 1) 0 [some (.v (.loc 1)), some (.v (.d (.int (w : Int)))), some (.v (.d x)), some (.v (.loc M.length)), none, none, none, none] ⟨none, none, rfl⟩ (by omega) (by omega)
  rw [← hL, e]
  simp! only []
theorem needed_ok {N : Nat} (hN : 12 ≤ N) {w : Nat} (hw : w ≤ 6) {s : DS} {B : Nat} (ok : s.Ok B) (hB : B ≤ 600000000) (r : Store) : ∃ s' : DS, s'.Ok (B + 6) ∧ (cxt T N).call "_law_needed_right" [.loc 1, .d (.int (w : Int))] (s.st r) = .ok (.d (.bool true)) (s'.st r) := by
  obtain ⟨n, rfl⟩ : ∃ n, N = n + 1 := ⟨N - 1, by omega⟩
  obtain ⟨bs, s', h1, h2, ok', e1⟩ := nr0 K (n := n) (by omega) hw ok (by omega) r
  have hx : ∀ x ∈ bs.map fun (i : Nat) => PyData.int (i : Int), Sh x 3 0 := fun x hx => by
    obtain ⟨b, hb, rfl⟩ := List.mem_map.mp hx
    exact sh_natS (by have := h2 b hb; omega)
  have hl : (bs.map fun (i : Nat) => PyData.int (i : Int)).length = w := by rw [List.length_map, h1]
  have e2 := nr1 (cx := cxt T n) hw hl (s'.st r)
  have e3 := nr2 (cx := cxt T n) hw h1 (s'.st r) (ods := odd7 (bs.map fun (i : Nat) => PyData.int (i : Int)) w) rfl
  have e4 := nr3 K (n := n) (by omega) hw (x := .tuple (bs.map fun (i : Nat) => PyData.int (i : Int))) (s'.st r) (ods := odd7 (bs.map fun (i : Nat) => PyData.int (i : Int)) w ++ [.tuple (mins bs)]) fun v hv => by
    rcases List.mem_append.mp hv with h | h
    · exact odd7_ok hw hl hx v h
    · rw [List.mem_singleton.mp h]
      exact mins_ok h1 hw h2
  refine ⟨s', ok'.mono (by omega), ?_⟩
  rw [call_run K.needed rfl rfl rfl]
  show ret false (s.st r).length (evSs (cxt T n) b__law_needed_right [some (.v (.loc 1)), some (.v (.d (.int (w : Int)))), none, none, none, none, none, none] (s.st r)) = _
  rw [cut__law_needed_right, ks_app, e1, s_nx, ks_app, e2, s_nx, ks_app, e3, s_nx, e4, r_rt (m0 := [])]
  congr 1
  exact DS.take3 (r := r) (x := [MO.lst (odd7 (bs.map fun (i : Nat) => PyData.int (i : Int)) w ++ [.tuple (mins bs)])])
end
end MN.J

set_option maxRecDepth 100000
set_option maxHeartbeats 4000000
/-! K12D: drawn conditions. -/
namespace MN.J
open PySem
local macro_rules
  | `(tactic| simp! only [$xs,*]) => `(tactic| simp only [b_ok, b_ex, s_nx, s_rt, s_ex, s_bk, s_ct, o_ok, o_ex, t_nx, t_ct, t_bk, t_rt, t_ex, ofO_s, ofV_s, ofB_s, getV_s, okTup_s, okLst_s, datas_nil, cons_s, datas_cons, e_var, e_cst, e_tup, e_lst, e_nlst, e_op, negV_i, e_neg, e_cmp, brV_t, brV_f, e_chain, e_and, e_or, notV_b, e_not, e_ite, e_call, e_bi, e_bloc, e_mt, e_idx, e_gidx, e_gin, e_sl, part_0, part_1, compW_items, compZ_t, compZ_f, e_comp, optD_d, noEx_ok, p_and, p_or, p_not, boolV_b, p_cmp, p_chain, p_gin, p_tst, es_nil, es_cons, ts_nil, ts_cons, nxO_s, k_asg, k_par, k_set, k_ex, k_ret, k_ret0, k_ifs, forW_items, k_for, k_whl, k_raise, try_ex, try_nx, try_rt, k_try, k_brk, k_cnt, k_pass, ks_nil, ks_cons, v_add, v_sub, v_mul, v_fdiv, v_mod, v_pow, v_tt, v_ll, v_ss, v_tm, v_lm, c_eq, c_ne, c_lt, c_ltt, c_le, c_gt, c_ge, c_isN, c_notN, i_list, i_tup, i_loc, im_l, im_s, im_i, g_idx, g_in, g_nin, sl_t, sl_l, tr_b, tr_n, tr_i, tr_l, tr_t, f_lenl, f_lent, f_int, f_tupl, f_tupt, f_lstl, f_lstt, f_lr, f_lr2, f_trg, ofI_s, max_s, ofM_s, f_max, f_min1, f_max2, f_min2, f_repr, f_isInt, f_isBool, f_isStr, f_isTup, f_isList, a_v, a_t, as_nil, as_cons, w_l, w_t, rgW_t, w_r, w_r2, w_r3, r_rt, r_nx, r_ex, r_keep, Option.bind_some, List.length_cons, List.length_nil, List.getElem?_cons_zero, List.getElem?_cons_succ, List.set_cons_zero, List.set_cons_succ, if_true, if_false, ite_true, ite_false, eq_self, Bool.not_true, Bool.not_false, Bool.true_eq_false, Bool.false_eq_true, decide_true, decide_false, Nat.zero_add, Nat.reduceAdd, Nat.reduceLT, Nat.reduceSub, Nat.sub_self, List.map_cons, List.map_nil, List.nil_append, List.cons_append, List.replicate, and_self, and_true, true_and, setL_s, set_loc, so_l, so_s, so_i, eqv_ii, eqv_ss, eqv_ln, eqv_tn, eqv_ni, eqv_in, eqv_nn, okIf_eqi, okIf_eqs, okIf_eqb, okIf_eqn, okIf_eqln, okIf_eqtn, at_0, at_1, at_2, n0, n1, n2, n3, n4, n5, n6, n7, n8, n9, n10, Int.reduceEq, Int.reduceLT, Int.reduceLE, Int.reduceSub, Int.reduceAdd, Int.reduceNeg, Int.reduceMul, decide_not, okIf_T, Nat.reduceLeDiff, Nat.zero_le, wipe_nil, wipe_cons, e_ndic, e_fld2, fldV_s, look_1, hs_rt, hh_no, hh_yes, at_3, at_4, e_act, getA_s, e_isx, e_callL, pf_nil, pf_v, pf_n, ne_nil, ne_v, ne_l, ne_n, e_nadd, py_d, k_par3, w_el, w_et, f_sset, f_setLen, f_lstEnum, f_sum, ints_nil, ints_cons, consI_s, ints_map, hs_nx, inD_i, inD_s, c_inT, c_inL, c_niT, c_niL, any_ints, words_ne, eqv_st, eqv_si, eqv_ts, eqv_it, eqv_is, eqv_ti, eqv_nt, eqv_ns, eqv_lt, eqv_tt, eqv_ll, eqvA_nn, eqvA_cc, eqvA_nc, eqvA_cn, List.any_cons, List.any_nil, Bool.or_false, Bool.false_or, Bool.or_true, Bool.true_or, Bool.and_false, Bool.false_and, Bool.and_true, Bool.true_and, brV_or, brV_and, eqvA_xn, List.isEmpty_cons, List.isEmpty_nil, f_sortD, hs0_rt, hs0_nx, hh_yes0, $xs,*])
def b__law_condition : List CS := [.asg (.v 2) (.nlst []), .for_ .range1 [(.call ("_law_draw" : Str) [(.var 0), (.cst (.int 4))])] (.v 3) [.asg (.v 4) (.op .add (.cst (.int 1)) (.call ("_law_draw" : Str) [(.var 0), (.op .sub (.var 1) (.cst (.int 1)))])), .asg (.v 5) (.tup [(.call ("_law_of" : Str) [(.var 0), (.lst [(.cst (.str ("alike" : Str))), (.cst (.str ("unlike" : Str)))])]), (.call ("_law_draw" : Str) [(.var 0), (.var 4)]), (.var 4)]), .ifs (.cmp .notin (.var 5) (.var 2)) [.ex (.mt .append (.var 2) [(.var 5)])] []], .ret (.bi .tuple [(.bi .sortD [(.var 2)])])]
def fd__law_condition : FD := ⟨2, 6, [], b__law_condition, false, none⟩
abbrev Tt := Bool × Nat × Nat
def wd (b : Bool) : Str := if b = true then "alike" else "unlike"
def tD (t : Tt) : PyData := .tuple [.str (wd t.1), .int (t.2.1 : Int), .int (t.2.2 : Int)]
def tOk (w : Nat) (t : Tt) : Prop := t.2.1 < t.2.2 ∧ t.2.2 < w
def tests : List Tt := [true, false].flatMap fun b => (List.range 5).flatMap fun h => (List.range h).map fun l => (b, l, h)
theorem tests_mem {t : Tt} {w : Nat} (hw : w ≤ 5) (h : tOk w t) : t ∈ tests := by
  obtain ⟨b, l, u⟩ := t
  obtain ⟨h1, h2⟩ := h
  dsimp only at h1 h2
  unfold tests
  rw [List.mem_flatMap]
  refine ⟨b, by cases b <;> simp, List.mem_flatMap.mpr ⟨u, List.mem_range.mpr (by omega), List.mem_map.mpr ⟨l, List.mem_range.mpr h1, rfl⟩⟩⟩
theorem tri : ∀ a ∈ tests, ∀ b ∈ tests, a = b ∨ PySem.W.dataLt (tD a) (tD b) = true ∨ PySem.W.dataLt (tD b) (tD a) = true := by decide +kernel
theorem eqv_self : ∀ a ∈ tests, PyData.eqv (tD a) (tD a) = true := by decide +kernel
theorem alk (a b : Tt) : PySem.W.alike (tD a) (tD b) = true := rfl
theorem dep (a : Tt) : (tD a).depth = 1 := by
  unfold tD
  rw [dp_tup, dp_cons, dp_cons, dp_cons, dp_nil, dp_str, dp_int, dp_int]
  rfl
theorem ts_mm (ts : List Tt) : mmOk (ts.map tD) = true ∧ srtOk (ts.map tD) = true := by
  refine ⟨?_, ?_⟩
  · unfold mmOk
    rw [Bool.and_eq_true]
    refine ⟨?_, decide_eq_true ?_⟩
    · rw [List.all_eq_true]
      intro x hx
      obtain ⟨a, _, rfl⟩ := List.mem_map.mp hx
      rw [Bool.and_eq_true]
      refine ⟨?_, rfl⟩
      rw [List.all_eq_true]
      intro y hy
      obtain ⟨b, _, rfl⟩ := List.mem_map.mp hy
      exact alk a b
    · exact Nat.le_trans (dp_all (k := 1) fun a _ => by rw [dep]; exact Nat.le_refl 1) (by decide)
  · unfold srtOk
    rw [Bool.or_eq_true, Bool.or_eq_true]
    refine .inl (.inr ?_)
    rw [List.all_eq_true]
    intro x hx
    obtain ⟨a, _, rfl⟩ := List.mem_map.mp hx
    rfl
def tLe (a b : Tt) : Bool := PySem.W.dataLe false id (tD a) (tD b)
theorem dle_total : PySem.W.TotalLe (PySem.W.dataLe false (id : PyData → PyData)) := PySem.W.sortLe_total _ _ _
theorem tLe_total : PySem.W.TotalLe tLe where
  trans := fun a b c h1 h2 => dle_total.trans (tD a) (tD b) (tD c) h1 h2
  total := fun a b => dle_total.total (tD a) (tD b)
theorem ts_sort {ts : List Tt} {w : Nat} (hw : w ≤ 5) (h : ∀ t ∈ ts, tOk w t) (hn : ts.Nodup) : ∃ us : List Tt, us.Perm ts ∧ sortL (ts.map tD) = us.map tD ∧ us.Pairwise fun a b => PySem.W.dataLt (tD a) (tD b) = true := by
  have hp : (ts.mergeSort tLe).Perm ts := List.mergeSort_perm ts tLe
  refine ⟨ts.mergeSort tLe, hp, ?_, ?_⟩
  · unfold sortL
    exact (List.map_mergeSort (f := tD) (r := tLe) (s := PySem.W.dataLe false id) fun a _ b _ => rfl).symm
  · have h1 : (ts.mergeSort tLe).Pairwise fun a b => tLe a b = true := List.pairwise_mergeSort tLe_total.trans (fun a b => by
      rw [Bool.or_eq_true]
      exact tLe_total.total a b) ts
    have h2 : (ts.mergeSort tLe).Nodup := hp.nodup_iff.mpr hn
    have h3 : (ts.mergeSort tLe).Pairwise fun a b => a ∈ tests ∧ b ∈ tests := List.pairwise_of_forall_mem_list fun a ha b hb => ⟨tests_mem hw (h a (hp.mem_iff.mp ha)), tests_mem hw (h b (hp.mem_iff.mp hb))⟩
    refine (h1.and (h2.and h3)).imp fun {a b} q => ?_
    obtain ⟨q1, q2, q3, q4⟩ := q
    rcases tri a q3 b q4 with e | e | e
    · exact absurd e q2
    · exact e
    · have : (!PySem.W.dataLt (tD b) (tD a)) = true := q1
      rw [e] at this
      cases this
structure KD (T : Tbl) : Prop extends KC T where
  condition : T.fn "_law_condition" = some fd__law_condition
theorem c_niLoc {n : Nat} {m : Store} {xs : List PyData} {x : PyData} (h : m[n]? = some (.lst xs)) (hd : x.depth ≤ 64) : cmp .notin (.d x) (.loc n) m = .ok (.d (.bool (!xs.any fun y => PyData.eqv y x))) m := by
  show (match m[n]? with
    | some (.dic kvs) => _
    | some (.lst xs) => inD true x xs m
    | none => .no) = _
  rw [h]
  show inD true x xs m = _
  unfold inD
  rw [if_pos (.inl (decide_eq_true hd))]
  rfl
section
variable {T : Tbl} (K : KD T)
include K
theorem cond_ok {N : Nat} (hN : 8 ≤ N) {w : Nat} (hw : 2 ≤ w ∧ w ≤ 5) {s : DS} {B : Nat} (ok : s.Ok B) (hB : B ≤ 600000000) (r : Store) : ∃ (ts : List Tt) (s' : DS), (∀ t ∈ ts, tOk w t) ∧ (ts.Pairwise fun a b => PySem.W.dataLt (tD a) (tD b) = true) ∧ ts.length ≤ 3 ∧ s'.Ok (B + 10) ∧
    (cxt T N).call "_law_condition" [.loc 1, .d (.int (w : Int))] (s.st r) = .ok (.d (.tuple (ts.map tD))) (s'.st r) := by
  obtain ⟨n, rfl⟩ : ∃ n, N = n + 4 := ⟨N - 4, by omega⟩
  obtain ⟨k, s1, hk, ok1, e1⟩ := drawC K.toDrawT (n + 1) ok (by omega) 4 (lim := 4) rfl (by omega) (by omega) (r ++ [.lst []])
  have e1 : (cxt T (n + 3)).call "_law_draw" [.loc 1, .d (.int 4)] (s.st r ++ [.lst []]) = .ok (.d (.int (k : Int))) (s1.st r ++ [.lst []]) := e1
  have rg := rgOk_n (n := k) (by omega)
  have gl : ∀ (s : DS) (o : MO), (s.st r ++ [o])[r.length + 2]? = some o := fun s o => get_last (m := s.st r)
  have ls : (s.st r).length = r.length + 2 := rfl
  rw [call_run K.condition rfl rfl rfl]
  simp! only [fd__law_condition, b__law_condition, e1, rg, rangeD_0, okNl_s, ls]
  generalize hL : loopL _ _ _ _ = L
  obtain ⟨ρ', m', ⟨ts, s2, a, b, c, rfl, rfl, h1, h2, h3, ok2⟩, e⟩ := loopL_preX (d := fun (i : Nat) => PyData.int (i : Int)) (fun pre ρ m => ∃ (ts : List Tt) (s : DS) (a b c : Option Val), ρ = [some (.v (.loc 1)), some (.v (.d (.int (w : Int)))), some (.v (.loc (r.length + 2))), a.map SV.v, b.map SV.v, c.map SV.v] ∧ m = s.st r ++ [.lst (ts.map tD)] ∧
      (∀ t ∈ ts, tOk w t) ∧ ts.Nodup ∧ ts.length ≤ pre.length ∧ s.Ok (B + 1 + 3 * pre.length)) hL ⟨[], s1, none, none, none, rfl, rfl, fun _ h => absurd h List.not_mem_nil, List.nodup_nil, Nat.le_refl _, ok1.mono (by omega)⟩
      (fun pre i post ρ m he ⟨ts, s, a, b, c, hρ, hm, h1, h2, h3, ok⟩ => by
        subst hρ hm
        have hpl : pre.length < k := by
          have := congrArg List.length he
          rw [List.length_range, List.length_append, List.length_cons] at this
          omega
        obtain ⟨v, s2, hv, ok2, e2⟩ := drawC K.toDrawT (n + 1) ok (by omega) (w - 1) (lim := (w : Int) - 1) (by omega) (by omega) (by omega) (r ++ [.lst (ts.map tD)])
        obtain ⟨x, s3, hx, ok3, e3⟩ := of_ok K.toDrawT n ok2 (by omega) (xs := [.str "alike", .str "unlike"]) (by simp) (by decide) (r ++ [.lst (ts.map tD)])
        obtain ⟨u, s4, hu, ok4, e4⟩ := drawC K.toDrawT (n + 1) ok3 (by omega) (1 + v) (lim := 1 + (v : Int)) (by omega) (by omega) (by omega) (r ++ [.lst (ts.map tD)])
        have e2 : (cxt T (n + 3)).call "_law_draw" [.loc 1, .d (.int ((w : Int) - 1))] (s.st r ++ [.lst (ts.map tD)]) = .ok (.d (.int (v : Int))) (s2.st r ++ [.lst (ts.map tD)]) := e2
        have e3 : (cxt T (n + 3)).call "_law_of" [.loc 1, .d (.list [.str "alike", .str "unlike"])] (s2.st r ++ [.lst (ts.map tD)]) = .ok (.d x) (s3.st r ++ [.lst (ts.map tD)]) := e3
        have e4 : (cxt T (n + 3)).call "_law_draw" [.loc 1, .d (.int (1 + (v : Int)))] (s3.st r ++ [.lst (ts.map tD)]) = .ok (.d (.int (u : Int))) (s4.st r ++ [.lst (ts.map tD)]) := e4
        obtain ⟨bw, rfl⟩ : ∃ bw, x = .str (wd bw) := by
          simp only [List.mem_cons, List.not_mem_nil, or_false] at hx
          rcases hx with rfl | rfl
          · exact ⟨true, rfl⟩
          · exact ⟨false, rfl⟩
        have et : tD (bw, u, 1 + v) = .tuple [.str (wd bw), .int (u : Int), .int (1 + (v : Int))] := rfl
        have tok : tOk w (bw, u, 1 + v) := ⟨by show u < 1 + v; omega, by show 1 + v < w; omega⟩
        have ni := c_niLoc (m := s4.st r ++ [.lst (ts.map tD)]) (x := .tuple [.str (wd bw), .int (u : Int), .int (1 + (v : Int))]) (gl s4 _) (by rw [← et, dep]; decide)
        have ap := append_last (m := s4.st r) (xs := ts.map tD) (x := .tuple [.str (wd bw), .int (u : Int), .int (1 + (v : Int))]) (by rw [List.length_map]; unfold SZ; omega)
        have ap : mt .append (.loc (r.length + 2)) [.d (.tuple [.str (wd bw), .int (u : Int), .int (1 + (v : Int))])] (s4.st r ++ [.lst (ts.map tD)]) = .ok (.d .none) (s4.st r ++ [.lst (ts.map tD ++ [.tuple [.str (wd bw), .int (u : Int), .int (1 + (v : Int))]])]) := ap
        have mo : mtOk .append (.loc (r.length + 2)) (s4.st r ++ [.lst (ts.map tD)]) = true := mtOk_last (m := s4.st r)
        have len : (pre ++ [i]).length = pre.length + 1 := by rw [List.length_append]; rfl
        cases hq : (ts.map tD).any fun y => PyData.eqv y (.tuple [.str (wd bw), .int (u : Int), .int (1 + (v : Int))]) with
        | true =>
          rw [hq] at ni
          refine ⟨[some (.v (.loc 1)), some (.v (.d (.int (w : Int)))), some (.v (.loc (r.length + 2))), some (.v (.d (.int (i : Int)))), some (.v (.d (.int (1 + (v : Int))))), some (.v (.d (.tuple [.str (wd bw), .int (u : Int), .int (1 + (v : Int))])))], s4.st r ++ [.lst (ts.map tD)], ⟨ts, s4, some _, some _, some _, rfl, rfl, h1, h2, by omega, ok4.mono (by omega)⟩, ?_⟩
          rw [forF_eq rfl]
          cases a <;> cases b <;> cases c <;> simp! only [Option.map_none, Option.map_some, e2, e3, e4, ni]
        | false =>
          rw [hq] at ni
          refine ⟨[some (.v (.loc 1)), some (.v (.d (.int (w : Int)))), some (.v (.loc (r.length + 2))), some (.v (.d (.int (i : Int)))), some (.v (.d (.int (1 + (v : Int))))), some (.v (.d (.tuple [.str (wd bw), .int (u : Int), .int (1 + (v : Int))])))], s4.st r ++ [.lst (ts.map tD ++ [.tuple [.str (wd bw), .int (u : Int), .int (1 + (v : Int))]])], ⟨ts ++ [(bw, u, 1 + v)], s4, some _, some _, some _, rfl, by rw [List.map_append]; rfl, fun t ht => ?_, ?_, by rw [List.length_append, List.length_singleton]; omega, ok4.mono (by omega)⟩, ?_⟩
          · rcases List.mem_append.mp ht with h | h
            · exact h1 t h
            · rw [List.mem_singleton.mp h]
              exact tok
          · rw [List.nodup_append]
            refine ⟨h2, by simp, fun a ha b hb e => ?_⟩
            rw [List.mem_singleton.mp hb] at e
            subst e
            rw [List.any_eq_false] at hq
            exact hq _ (List.mem_map.mpr ⟨_, ha, rfl⟩) (eqv_self _ (tests_mem hw.2 tok))
          · rw [forF_eq rfl]
            cases a <;> cases b <;> cases c <;> simp! only [Option.map_none, Option.map_some, e2, e3, e4, ni, mo, ap])
  rw [List.length_range] at h3 ok2
  obtain ⟨us, p1, p2, p3⟩ := ts_sort hw.2 h1 h2
  have fs := f_sortL (gl s2 (.lst (ts.map tD)))
  rw [p2] at fs
  refine ⟨us, s2, fun t ht => h1 t (p1.mem_iff.mp ht), p3, by rw [p1.length_eq]; omega, ok2.mono (by omega), ?_⟩
  subst e
  simp! only [fs, okIf_t (ts_mm ts)]
  congr 1
  exact DS.take3 (s := s) (r := r) (x := [MO.lst (ts.map tD)])
end
end MN.J

set_option maxRecDepth 100000
set_option maxHeartbeats 4000000
/-! K12E: conditions at joinings. -/
namespace MN.J
open PySem
local macro_rules
  | `(tactic| simp! only [$xs,*]) => `(tactic| simp only [b_ok, b_ex, s_nx, s_rt, s_ex, s_bk, s_ct, o_ok, o_ex, t_nx, t_ct, t_bk, t_rt, t_ex, ofO_s, ofV_s, ofB_s, getV_s, okTup_s, okLst_s, datas_nil, cons_s, datas_cons, e_var, e_cst, e_tup, e_lst, e_nlst, e_op, negV_i, e_neg, e_cmp, brV_t, brV_f, e_chain, e_and, e_or, notV_b, e_not, e_ite, e_call, e_bi, e_bloc, e_mt, e_idx, e_gidx, e_gin, e_sl, part_0, part_1, compW_items, compZ_t, compZ_f, e_comp, optD_d, noEx_ok, p_and, p_or, p_not, boolV_b, p_cmp, p_chain, p_gin, p_tst, es_nil, es_cons, ts_nil, ts_cons, nxO_s, k_asg, k_par, k_set, k_ex, k_ret, k_ret0, k_ifs, forW_items, k_for, k_whl, k_raise, try_ex, try_nx, try_rt, k_try, k_brk, k_cnt, k_pass, ks_nil, ks_cons, v_add, v_sub, v_mul, v_fdiv, v_mod, v_pow, v_tt, v_ll, v_ss, v_tm, v_lm, c_eq, c_ne, c_lt, c_ltt, c_le, c_gt, c_ge, c_isN, c_notN, i_list, i_tup, i_loc, im_l, im_s, im_i, g_idx, g_in, g_nin, sl_t, sl_l, tr_b, tr_n, tr_i, tr_l, tr_t, f_lenl, f_lent, f_int, f_tupl, f_tupt, f_lstl, f_lstt, f_lr, f_lr2, f_trg, ofI_s, max_s, ofM_s, f_max, f_min1, f_max2, f_min2, f_repr, f_isInt, f_isBool, f_isStr, f_isTup, f_isList, a_v, a_t, as_nil, as_cons, w_l, w_t, rgW_t, w_r, w_r2, w_r3, r_rt, r_nx, r_ex, r_keep, Option.bind_some, List.length_cons, List.length_nil, List.getElem?_cons_zero, List.getElem?_cons_succ, List.set_cons_zero, List.set_cons_succ, if_true, if_false, ite_true, ite_false, eq_self, Bool.not_true, Bool.not_false, Bool.true_eq_false, Bool.false_eq_true, decide_true, decide_false, Nat.zero_add, Nat.reduceAdd, Nat.reduceLT, Nat.reduceSub, Nat.sub_self, List.map_cons, List.map_nil, List.nil_append, List.cons_append, List.replicate, and_self, and_true, true_and, setL_s, set_loc, so_l, so_s, so_i, eqv_ii, eqv_ss, eqv_ln, eqv_tn, eqv_ni, eqv_in, eqv_nn, okIf_eqi, okIf_eqs, okIf_eqb, okIf_eqn, okIf_eqln, okIf_eqtn, at_0, at_1, at_2, n0, n1, n2, n3, n4, n5, n6, n7, n8, n9, n10, Int.reduceEq, Int.reduceLT, Int.reduceLE, Int.reduceSub, Int.reduceAdd, Int.reduceNeg, Int.reduceMul, decide_not, okIf_T, Nat.reduceLeDiff, Nat.zero_le, wipe_nil, wipe_cons, e_ndic, e_fld2, fldV_s, look_1, hs_rt, hh_no, hh_yes, at_3, at_4, e_act, getA_s, e_isx, e_callL, pf_nil, pf_v, pf_n, ne_nil, ne_v, ne_l, ne_n, e_nadd, py_d, k_par3, w_el, w_et, f_sset, f_setLen, f_lstEnum, f_sum, ints_nil, ints_cons, consI_s, ints_map, hs_nx, inD_i, inD_s, c_inT, c_inL, c_niT, c_niL, any_ints, words_ne, eqv_st, eqv_si, eqv_ts, eqv_it, eqv_is, eqv_ti, eqv_nt, eqv_ns, eqv_lt, eqv_tt, eqv_ll, eqvA_nn, eqvA_cc, eqvA_nc, eqvA_cn, List.any_cons, List.any_nil, Bool.or_false, Bool.false_or, Bool.or_true, Bool.true_or, Bool.and_false, Bool.false_and, Bool.and_true, Bool.true_and, brV_or, brV_and, eqvA_xn, List.isEmpty_cons, List.isEmpty_nil, f_sortD, hs0_rt, hs0_nx, hh_yes0, $xs,*])
def b_is_condition : List CS := [.ifs (.not (.tst (.bi .isTup [(.var 1)]))) [.ret (.cst (.bool false))] [], .asg (.v 2) (.cst .none), .for_ .seq [(.var 1)] (.v 3) [.ifs (.or (.not (.tst (.bi .isTup [(.var 3)]))) (.or (.cmp .ne (.bi .len [(.var 3)]) (.cst (.int 3))) (.cmp .notin (.idx (.var 3) (.cst (.int 0))) (.tup [(.cst (.str ("alike" : Str))), (.cst (.str ("unlike" : Str)))])))) [.ret (.cst (.bool false))] [], .ifs (.or (.not (.tst (.call ("is_from" : Str) [(.idx (.var 3) (.cst (.int 2))), (.cst (.int 0)), (.op .sub (.var 0) (.cst (.int 1)))]))) (.not (.tst (.call ("is_from" : Str) [(.idx (.var 3) (.cst (.int 1))), (.cst (.int 0)), (.op .sub (.idx (.var 3) (.cst (.int 2))) (.cst (.int 1)))])))) [.ret (.cst (.bool false))] [], .ifs (.and (.cmp .notN (.var 2) (.cst .none)) (.not (.cmp .lt (.var 2) (.var 3)))) [.ret (.cst (.bool false))] [], .asg (.v 2) (.var 3)], .ret (.cst (.bool true))]
def fd_is_condition : FD := ⟨2, 4, [], b_is_condition, false, none⟩
def b_holds_joined : List CS := [.ifs (.or (.not (.tst (.bi .isTup [(.var 1)]))) (.not (.tst (.call ("is_joining" : Str) [(.bi .len [(.var 1)]), (.var 1)])))) [.raise ("BadJoining" : Str) [(.var 1)]] [], .ifs (.not (.tst (.call ("is_condition" : Str) [(.bi .len [(.var 1)]), (.var 0)]))) [.raise ("BadParameter" : Str) [(.var 0)]] [], .for_ .seq [(.var 0)] (.t [(.v 2), (.v 3), (.v 4)]) [.ifs (.cmp .ne (.cmp .eq (.idx (.var 1) (.var 3)) (.idx (.var 1) (.var 4))) (.cmp .eq (.var 2) (.cst (.str ("alike" : Str))))) [.ret (.cst (.bool false))] []], .ret (.cst (.bool true))]
def fd_holds_joined : FD := ⟨2, 5, [], b_holds_joined, false, none⟩
def b__law_holds : List CS := [.for_ .seq [(.var 0)] (.t [(.v 2), (.v 3), (.v 4)]) [.ifs (.cmp .ne (.cmp .eq (.idx (.var 1) (.var 3)) (.idx (.var 1) (.var 4))) (.cmp .eq (.var 2) (.cst (.str ("alike" : Str))))) [.ret (.cst (.bool false))] []], .ret (.cst (.bool true))]
def fd__law_holds : FD := ⟨2, 5, [], b__law_holds, false, none⟩
structure KE (T : Tbl) : Prop extends KD T where
  is_condition : T.fn "is_condition" = some fd_is_condition
  holds : T.fn "holds_joined" = some fd_holds_joined
  lholds : T.fn "_law_holds" = some fd__law_holds
def zsD (zs : List Nat) : List PyData := zs.map fun (i : Nat) => PyData.int (i : Int)
/-- whether a test is met -/
def met (zs : List Nat) (t : Tt) : Bool := decide (zs[t.2.1]? = zs[t.2.2]?) == t.1
section
variable {T : Tbl} (K : KE T)
include K
theorem iscond_ok {N : Nat} (hN : 3 ≤ N) {w : Nat} {ts : List Tt} (h : ∀ t ∈ ts, tOk w t) (hp : ts.Pairwise fun a b => PySem.W.dataLt (tD a) (tD b) = true) (m : Store) : (cxt T N).call "is_condition" [.d (.int (w : Int)), .d (.tuple (ts.map tD))] m = .ok (.d (.bool true)) m := by
  obtain ⟨n, rfl⟩ : ∃ n, N = n + 1 := ⟨N - 1, by omega⟩
  rw [call_run K.is_condition rfl rfl rfl]
  simp! only [fd_is_condition, b_is_condition]
  generalize hL : loopL _ _ _ _ = L
  obtain ⟨ρ', m', ⟨rfl, last, x, rfl, _⟩, e⟩ := loopL_preX (fun pre ρ m' => m' = m ∧ ∃ (last : PyData) (x : Option Val), ρ = [some (.v (.d (.int (w : Int)))), some (.v (.d (.tuple (ts.map tD)))), some (.v (.d last)), x.map SV.v] ∧ ((pre = [] ∧ last = .none) ∨ ∃ p t, pre = p ++ [t] ∧ last = tD t)) hL ⟨rfl, .none, none, rfl, .inl ⟨rfl, rfl⟩⟩
    (fun pre t post ρ m' he ⟨hm, last, x, hρ, hl⟩ => by
      subst hm hρ
      have ht : t ∈ ts := by rw [he]; exact List.mem_append_right _ List.mem_cons_self
      obtain ⟨t1, t2⟩ := h t ht
      have lt : ∀ q, last = tD q → PySem.W.dataLt (tD q) (tD t) = true := fun q hq => by
        rcases hl with ⟨_, z⟩ | ⟨p, u, z1, z2⟩
        · rw [z] at hq
          cases hq
        · have eu : tD u = tD q := z2.symm.trans hq
          rw [he, z1] at hp
          have := (List.pairwise_append.mp hp).2.2 u (List.mem_append_right _ (List.mem_singleton.mpr rfl)) t List.mem_cons_self
          rwa [eu] at this
      have isn : (∃ q, last = tD q) ∨ last = .none := by
        rcases hl with ⟨_, z⟩ | ⟨p, u, z1, z2⟩
        · exact .inr z
        · exact .inl ⟨u, z2⟩
      clear hl
      refine ⟨[some (.v (.d (.int (w : Int)))), some (.v (.d (.tuple (ts.map tD)))), some (.v (.d (tD t))), some (.v (.d (tD t)))], m', ⟨rfl, tD t, some (.d (tD t)), rfl, .inr ⟨pre, t, rfl, rfl⟩⟩, ?_⟩
      obtain ⟨b, l, u⟩ := t
      dsimp only at t1 t2
      have f1 := from_ok K.toJT (N := n) (by omega) (.int (u : Int)) 0 ((w : Int) - 1) m'
      have f2 := from_ok K.toJT (N := n) (by omega) (.int (l : Int)) 0 ((u : Int) - 1) m'
      have p1 : pFrom (.int (u : Int)) 0 ((w : Int) - 1) = true := by
        show (decide (0 ≤ (u : Int)) && decide ((u : Int) ≤ (w : Int) - 1)) = true
        rw [decide_eq_true (by omega), decide_eq_true (by omega)]
        rfl
      have p2 : pFrom (.int (l : Int)) 0 ((u : Int) - 1) = true := by
        show (decide (0 ≤ (l : Int)) && decide ((l : Int) ≤ (u : Int) - 1)) = true
        rw [decide_eq_true (by omega), decide_eq_true (by omega)]
        rfl
      rw [p1] at f1
      rw [p2] at f2
      have ew : ([PyData.str "alike", PyData.str "unlike"].any fun y => PyData.eqv y (.str (wd b))) = true := by cases b <;> rfl
      rw [forF_eq rfl]
      rcases isn with ⟨⟨qb, ql, qu⟩, rfl⟩ | rfl
      · have l2 := lt _ rfl
        have dq := dep (qb, ql, qu)
        have aq := alk (qb, ql, qu) (b, l, u)
        unfold tD at l2 dq aq ⊢
        dsimp only at l2 dq aq ⊢
        have hz : PySem.W.alike (.tuple [.str (wd qb), .int (ql : Int), .int (qu : Int)]) (.tuple [.str (wd b), .int (l : Int), .int (u : Int)]) = true ∧ (PyData.tuple [.str (wd qb), .int (ql : Int), .int (qu : Int)]).depth ≤ 64 := ⟨aq, by rw [dq]; decide⟩
        cases x <;> simp! only [Option.map_none, Option.map_some, isNone, f1, f2, ew, okIf_t hz, l2]
      · unfold tD
        dsimp only
        cases x <;> simp! only [Option.map_none, Option.map_some, isNone, f1, f2, ew])
  subst e
  simp! only [List.take_length]
omit K in
theorem eqv_bb {a b : Bool} : PyData.eqv (.bool a) (.bool b) = (a == b) := by cases a <;> cases b <;> rfl
/-- the loop that both have -/
theorem hloop {n : Nat} {w : Nat} {ts : List Tt} (h : ∀ t ∈ ts, tOk w t) {zs : List Nat} (hz : zs.length = w) (m : Store) :
    evSs (cxt T n) b__law_holds [some (.v (.d (.tuple (ts.map tD)))), some (.v (.d (.tuple (zsD zs)))), none, none, none] m = .rt (.d (.bool (ts.all (met zs)))) m := by
  simp! only [b__law_holds]
  generalize hL : loopL _ _ _ _ = L
  have step : ∀ t ∈ ts, ∀ (a b c : Option Val), ∃ F2 : Bool → RS, True := fun _ _ _ _ _ => ⟨fun _ => .no, trivial⟩
  have key := loopL_allX (p := met zs) (fun ρ => ∃ (a b c : Option Val), ρ = [some (.v (.d (.tuple (ts.map tD)))), some (.v (.d (.tuple (zsD zs)))), a.map SV.v, b.map SV.v, c.map SV.v]) hL ⟨none, none, none, rfl⟩
    (fun t ht ρ ⟨a, b, c, hρ⟩ hq => by
      subst hρ
      obtain ⟨t1, t2⟩ := h t ht
      obtain ⟨wb, l, u⟩ := t
      dsimp only at t1 t2
      refine ⟨[some (.v (.d (.tuple (ts.map tD)))), some (.v (.d (.tuple (zsD zs)))), some (.v (.d (.str (wd wb)))), some (.v (.d (.int (l : Int)))), some (.v (.d (.int (u : Int))))], ⟨some _, some _, some _, rfl⟩, ?_⟩
      have e1 : atI (zsD zs) (l : Int) = some (.int (zs[l]'(by omega) : Nat)) := by
        unfold zsD
        rw [atI_nat (by rw [List.length_map]; omega), List.getElem?_map, List.getElem?_eq_getElem (show l < zs.length by omega)]
        rfl
      have e2 : atI (zsD zs) (u : Int) = some (.int (zs[u]'(by omega) : Nat)) := by
        unfold zsD
        rw [atI_nat (by rw [List.length_map]; omega), List.getElem?_map, List.getElem?_eq_getElem (show u < zs.length by omega)]
        rfl
      unfold met at hq
      dsimp only at hq
      rw [List.getElem?_eq_getElem (show l < zs.length by omega), List.getElem?_eq_getElem (show u < zs.length by omega)] at hq
      unfold tD
      dsimp only
      have ew : PyData.eqv (.str (wd wb)) (.str "alike") = wb := by cases wb <;> rfl
      have hc : decide (((zs[l]'(by omega) : Nat) : Int) = ((zs[u]'(by omega) : Nat) : Int)) = wb := by
        have := eq_of_beq hq
        rw [← this]
        exact decide_eq_decide.mpr ⟨fun z => by rw [Int.ofNat_inj.mp z], fun z => by rw [Option.some.inj z]⟩
      rw [forF_eq rfl]
      cases wb <;> cases a <;> cases b <;> cases c <;> simp! only [Option.map_none, Option.map_some, e1, e2, hc, ew, eqv_bb, wd, beq_self_eq_true])
    (fun t ht ρ ⟨a, b, c, hρ⟩ hq => by
      subst hρ
      obtain ⟨t1, t2⟩ := h t ht
      obtain ⟨wb, l, u⟩ := t
      dsimp only at t1 t2
      have e1 : atI (zsD zs) (l : Int) = some (.int (zs[l]'(by omega) : Nat)) := by
        unfold zsD
        rw [atI_nat (by rw [List.length_map]; omega), List.getElem?_map, List.getElem?_eq_getElem (show l < zs.length by omega)]
        rfl
      have e2 : atI (zsD zs) (u : Int) = some (.int (zs[u]'(by omega) : Nat)) := by
        unfold zsD
        rw [atI_nat (by rw [List.length_map]; omega), List.getElem?_map, List.getElem?_eq_getElem (show u < zs.length by omega)]
        rfl
      unfold met at hq
      dsimp only at hq
      rw [List.getElem?_eq_getElem (show l < zs.length by omega), List.getElem?_eq_getElem (show u < zs.length by omega)] at hq
      unfold tD
      dsimp only
      have ew : PyData.eqv (.str (wd wb)) (.str "alike") = wb := by cases wb <;> rfl
      have hc : decide (((zs[l]'(by omega) : Nat) : Int) = ((zs[u]'(by omega) : Nat) : Int)) = !wb := by
        have e3 : decide (((zs[l]'(by omega) : Nat) : Int) = ((zs[u]'(by omega) : Nat) : Int)) = decide (some (zs[l]'(by omega)) = some (zs[u]'(by omega))) := decide_eq_decide.mpr ⟨fun z => by rw [Int.ofNat_inj.mp z], fun z => by rw [Option.some.inj z]⟩
        rw [e3]
        cases wb <;> cases hd : decide (some (zs[l]'(by omega)) = some (zs[u]'(by omega))) <;> first | rfl | (rw [hd] at hq; cases hq)
      rw [forF_eq rfl]
      cases wb <;> cases a <;> cases b <;> cases c <;> simp! only [Option.map_none, Option.map_some, e1, e2, hc, ew, eqv_bb, wd] <;> rfl)
  rcases key with ⟨ha, ρ', ⟨a, b, c, rfl⟩, e⟩ | ⟨ha, e⟩
  · subst e
    rw [ha]
    simp! only []
  · subst e
    rw [ha]
    simp! only []
theorem lholds_ok {N : Nat} (hN : 1 ≤ N) {w : Nat} {ts : List Tt} (h : ∀ t ∈ ts, tOk w t) {zs : List Nat} (hz : zs.length = w) (m : Store) : (cxt T N).call "_law_holds" [.d (.tuple (ts.map tD)), .d (.tuple (zsD zs))] m = .ok (.d (.bool (ts.all (met zs)))) m := by
  obtain ⟨n, rfl⟩ : ∃ n, N = n + 1 := ⟨N - 1, by omega⟩
  rw [call_run K.lholds rfl rfl rfl]
  have e := hloop K (n := n) h hz m
  show ret false m.length (evSs (cxt T n) b__law_holds [some (.v (.d (.tuple (ts.map tD)))), some (.v (.d (.tuple (zsD zs)))), none, none, none] m) = _
  rw [e, r_rt (m0 := []), List.take_length]
theorem holds_ok {N : Nat} (hN : 6 ≤ N) {w : Nat} {ts : List Tt} (h : ∀ t ∈ ts, tOk w t) (hp : ts.Pairwise fun a b => PySem.W.dataLt (tD a) (tD b) = true) {zs : List Nat} (hz : zs.length = w) (hj : isJ (w : Int) (.tuple (zsD zs)) = true) (m : Store) :
    (cxt T N).call "holds_joined" [.d (.tuple (ts.map tD)), .d (.tuple (zsD zs))] m = .ok (.d (.bool (ts.all (met zs)))) m := by
  obtain ⟨n, rfl⟩ : ∃ n, N = n + 1 := ⟨N - 1, by omega⟩
  rw [call_run K.holds rfl rfl rfl]
  have e := hloop K (n := n) h hz m
  have hl : (zsD zs).length = w := by unfold zsD; rw [List.length_map, hz]
  have e1 := is_joining_ok K.toJT (N := n) (by omega) (w : Int) (.tuple (zsD zs)) m
  rw [hj] at e1
  have e2 := iscond_ok K (N := n) (by omega) h hp m
  show ret false m.length (evSs (cxt T n) b_holds_joined [some (.v (.d (.tuple (ts.map tD)))), some (.v (.d (.tuple (zsD zs)))), none, none, none] m) = _
  have cut : b_holds_joined = b_holds_joined.take 2 ++ b__law_holds := rfl
  have e3 : evSs (cxt T n) (b_holds_joined.take 2) [some (.v (.d (.tuple (ts.map tD)))), some (.v (.d (.tuple (zsD zs)))), none, none, none] m = .nx [some (.v (.d (.tuple (ts.map tD)))), some (.v (.d (.tuple (zsD zs)))), none, none, none] m := by
    simp! only [b_holds_joined, List.take_succ_cons, List.take_zero, hl, e1, e2]
  rw [cut, ks_app, e3, s_nx, e, r_rt (m0 := []), List.take_length]
end
end MN.J

set_option maxRecDepth 100000
set_option maxHeartbeats 4000000
/-! K12F: what is computed with written values (printed by gen_K12F.py). -/
namespace MN.Q
open PySem
def LJn : Nat → List (List Nat)
  | 0 => [[]]
  | n + 1 => (LJn n).flatMap fun r => ((List.range (n + 1)).filter fun f => f == n || r[f]? == some f).map fun f => r ++ [f]
def rowD (zs : List Nat) : PyData := .tuple (J.zsD zs)
def LD (w : Nat) : List PyData := (LJn w).map rowD
def pwB : List PyData → Bool
  | [] => true
  | x :: r => r.all (fun y => PySem.W.dataLe false id x y) && pwB r
theorem pw_of : ∀ {l : List PyData}, pwB l = true → l.Pairwise fun a b => PySem.W.dataLe false id a b = true
  | [], _ => .nil
  | x :: r, h => by
    unfold pwB at h
    rw [Bool.and_eq_true, List.all_eq_true] at h
    exact .cons h.1 (pw_of h.2)
theorem srt_0 : pwB (LD 0) = true := by kernel_rfl
theorem srt_1 : pwB (LD 1) = true := by kernel_rfl
theorem srt_2 : pwB (LD 2) = true := by kernel_rfl
theorem srt_3 : pwB (LD 3) = true := by kernel_rfl
theorem srt_4 : pwB (LD 4) = true := by kernel_rfl
theorem srt_5 : pwB (LD 5) = true := by kernel_rfl
theorem rowsB : (List.range 6).all (fun w => decide ((LJn w).length ≤ 52) && (LJn w).all fun zs => decide (zs.length = w) && (J.isJ (w : Int) (.tuple (J.zsD zs)) && zs.all fun z => decide (z < 10))) = true := by kernel_rfl
theorem six {w : Nat} (h : w ≤ 5) : w ∈ [0, 1, 2, 3, 4, 5] := by
  simp only [List.mem_cons, List.not_mem_nil, or_false]
  omega
section
variable (n : Nat) (a b : MO)
theorem lall_0 : (cxt T (n + 6)).call "_law_all" [.d (.int 0)] [a, b] = .ok (.d (.list (sortL (LD 0)))) [a, b] := by kernel_rfl
theorem aj_0 : (cxt T (n + 6)).call "all_joinings" [.d (.int 0)] [a, b] = .ok (.d (.tuple (sortL (LD 0)))) [a, b] := by kernel_rfl
theorem lall_1 : (cxt T (n + 6)).call "_law_all" [.d (.int 1)] [a, b] = .ok (.d (.list (sortL (LD 1)))) [a, b] := by kernel_rfl
theorem aj_1 : (cxt T (n + 6)).call "all_joinings" [.d (.int 1)] [a, b] = .ok (.d (.tuple (sortL (LD 1)))) [a, b] := by kernel_rfl
theorem lall_2 : (cxt T (n + 6)).call "_law_all" [.d (.int 2)] [a, b] = .ok (.d (.list (sortL (LD 2)))) [a, b] := by kernel_rfl
theorem aj_2 : (cxt T (n + 6)).call "all_joinings" [.d (.int 2)] [a, b] = .ok (.d (.tuple (sortL (LD 2)))) [a, b] := by kernel_rfl
theorem lall_3 : (cxt T (n + 6)).call "_law_all" [.d (.int 3)] [a, b] = .ok (.d (.list (sortL (LD 3)))) [a, b] := by kernel_rfl
theorem aj_3 : (cxt T (n + 6)).call "all_joinings" [.d (.int 3)] [a, b] = .ok (.d (.tuple (sortL (LD 3)))) [a, b] := by kernel_rfl
theorem lall_4 : (cxt T (n + 6)).call "_law_all" [.d (.int 4)] [a, b] = .ok (.d (.list (sortL (LD 4)))) [a, b] := by kernel_rfl
theorem aj_4 : (cxt T (n + 6)).call "all_joinings" [.d (.int 4)] [a, b] = .ok (.d (.tuple (sortL (LD 4)))) [a, b] := by kernel_rfl
theorem lall_5 : (cxt T (n + 6)).call "_law_all" [.d (.int 5)] [a, b] = .ok (.d (.list (sortL (LD 5)))) [a, b] := by kernel_rfl
theorem aj_5 : (cxt T (n + 6)).call "all_joinings" [.d (.int 5)] [a, b] = .ok (.d (.tuple (sortL (LD 5)))) [a, b] := by kernel_rfl
end
theorem drawT : DrawT T := ⟨by kernel_rfl, by kernel_rfl, by kernel_rfl⟩
end MN.Q

set_option maxRecDepth 100000
set_option maxHeartbeats 4000000
/-! printed by gen_K12F.py: what is computed with written values. -/
namespace MN.Q
open PySem
def b__law_refused_0 : List CS := [.asg (.v 1) (.tup [(.tup []), (.tup [(.cst (.str ("send" : Str))), (.cst (.int 0)), (.cst (.int 1)), (.tup [(.cst (.str ("one" : Str))), (.tup [])])])]), .asg (.v 2) (.idx (.call ("start" : Str) [(.var 1)]) (.cst (.int 0)))]
def b__law_refused_1 : List CS := [.asg (.v 3) (.call ("_law_of" : Str) [(.var 0), (.lst [(.cst .none), (.tup [(.cst (.int 0))]), (.tup [(.cst (.int 0)), (.cst (.int 2))]), (.tup [(.cst (.int 1)), (.cst (.int 1))]), (.lst [(.cst (.int 0)), (.cst (.int 1))]), (.tup [(.cst (.int 0)), (.cst (.bool true))])])])]
def b__law_refused_2 : List CS := [.ifs (.not (.tst (.call ("_law_like" : Str) [(.callL ("_law_caught" : Str) (.call ("joined" : Str) [(.var 1), (.var 2), (.var 3)])), (.lst [(.cst (.str ("BadJoining" : Str))), (.var 3), (.cst (.bool false))])]))) [.ret (.cst (.bool false))] [], .ifs (.not (.tst (.call ("_law_like" : Str) [(.callL ("_law_caught" : Str) (.call ("joined" : Str) [(.var 1), (.cst .none), (.var 3)])), (.lst [(.cst (.str ("BadStanding" : Str))), (.tup []), (.cst (.bool false))])]))) [.ret (.cst (.bool false))] [], .for_ .seq [(.lst [(.neg (.cst (.int 1))), (.cst .none), (.cst (.bool true)), (.cst (.str ("2" : Str)))])] (.v 4) [.ifs (.not (.tst (.call ("_law_like" : Str) [(.callL ("_law_caught" : Str) (.call ("all_joinings" : Str) [(.var 4)])), (.lst [(.cst (.str ("BadParameter" : Str))), (.var 4), (.cst (.bool false))])]))) [.ret (.cst (.bool false))] [], .ifs (.not (.tst (.call ("_law_like" : Str) [(.callL ("_law_caught" : Str) (.call ("need_joining" : Str) [(.var 4), (.cst .none)])), (.lst [(.cst (.str ("BadParameter" : Str))), (.var 4), (.cst (.bool false))])]))) [.ret (.cst (.bool false))] []], .ifs (.not (.tst (.call ("_law_like" : Str) [(.callL ("_law_caught" : Str) (.call ("need_joining" : Str) [(.cst (.int 13)), (.cst .none)])), (.lst [(.cst (.str ("BadParameter" : Str))), (.cst (.int 13)), (.cst (.bool false))])]))) [.ret (.cst (.bool false))] []]
def b__law_refused_3 : List CS := [.asg (.v 5) (.op .add (.cst (.int 6)) (.call ("_law_draw" : Str) [(.var 0), (.cst (.int 9))]))]
def b__law_refused_4 : List CS := [.ifs (.not (.tst (.call ("_law_like" : Str) [(.callL ("_law_caught" : Str) (.call ("all_joinings" : Str) [(.var 5)])), (.lst [(.cst (.str ("TooGreat" : Str))), (.cst (.int 5)), (.cst (.bool false))])]))) [.ret (.cst (.bool false))] [], .asg (.v 6) (.bi .tupRange [(.cst (.int 12))]), .ret (.call ("_law_like" : Str) [(.call ("need_joining" : Str) [(.cst (.int 12)), (.var 6)]), (.var 6)])]
theorem cut__law_refused : b__law_refused = b__law_refused_0 ++ (b__law_refused_1 ++ (b__law_refused_2 ++ (b__law_refused_3 ++ (b__law_refused_4)))) := rfl
section
variable (n : Nat) (a b : MO)
def prog : PyData := .tuple [.tuple [], .tuple [.str "send", .int 0, .int 1, .tuple [.str "one", .tuple []]]]
def here : PyData := .tuple [.int 2, .int 0, .tuple [.tuple [.tuple [.int 1], .tuple [.int 0, .int 1]]]]
theorem rf_0 : evSs (cxt T (n + 60)) b__law_refused_0 [some (.v (.loc 1)), none, none, none, none, none, none] [a, b] = .nx [some (.v (.loc 1)), some (.v (.d prog)), some (.v (.d here)), none, none, none, none] [a, b] := by kernel_rfl
def rbad : List PyData := [.none, .tuple [.int 0], .tuple [.int 0, .int 2], .tuple [.int 1, .int 1], .list [.int 0, .int 1], .tuple [.int 0, .bool true]]
theorem rf_2_0 : evSs (cxt T (n + 60)) b__law_refused_2 [some (.v (.loc 1)), some (.v (.d prog)), some (.v (.d here)), some (.v (.d (rbad.getD 0 .none))), none, none, none] [a, b] = .nx [some (.v (.loc 1)), some (.v (.d prog)), some (.v (.d here)), some (.v (.d (rbad.getD 0 .none))), some (.v (.d (.str "2"))), none, none] [a, b] := by kernel_rfl
theorem rf_2_1 : evSs (cxt T (n + 60)) b__law_refused_2 [some (.v (.loc 1)), some (.v (.d prog)), some (.v (.d here)), some (.v (.d (rbad.getD 1 .none))), none, none, none] [a, b] = .nx [some (.v (.loc 1)), some (.v (.d prog)), some (.v (.d here)), some (.v (.d (rbad.getD 1 .none))), some (.v (.d (.str "2"))), none, none] [a, b] := by kernel_rfl
theorem rf_2_2 : evSs (cxt T (n + 60)) b__law_refused_2 [some (.v (.loc 1)), some (.v (.d prog)), some (.v (.d here)), some (.v (.d (rbad.getD 2 .none))), none, none, none] [a, b] = .nx [some (.v (.loc 1)), some (.v (.d prog)), some (.v (.d here)), some (.v (.d (rbad.getD 2 .none))), some (.v (.d (.str "2"))), none, none] [a, b] := by kernel_rfl
theorem rf_2_3 : evSs (cxt T (n + 60)) b__law_refused_2 [some (.v (.loc 1)), some (.v (.d prog)), some (.v (.d here)), some (.v (.d (rbad.getD 3 .none))), none, none, none] [a, b] = .nx [some (.v (.loc 1)), some (.v (.d prog)), some (.v (.d here)), some (.v (.d (rbad.getD 3 .none))), some (.v (.d (.str "2"))), none, none] [a, b] := by kernel_rfl
theorem rf_2_4 : evSs (cxt T (n + 60)) b__law_refused_2 [some (.v (.loc 1)), some (.v (.d prog)), some (.v (.d here)), some (.v (.d (rbad.getD 4 .none))), none, none, none] [a, b] = .nx [some (.v (.loc 1)), some (.v (.d prog)), some (.v (.d here)), some (.v (.d (rbad.getD 4 .none))), some (.v (.d (.str "2"))), none, none] [a, b] := by kernel_rfl
theorem rf_2_5 : evSs (cxt T (n + 60)) b__law_refused_2 [some (.v (.loc 1)), some (.v (.d prog)), some (.v (.d here)), some (.v (.d (rbad.getD 5 .none))), none, none, none] [a, b] = .nx [some (.v (.loc 1)), some (.v (.d prog)), some (.v (.d here)), some (.v (.d (rbad.getD 5 .none))), some (.v (.d (.str "2"))), none, none] [a, b] := by kernel_rfl
theorem rf_2 {x : PyData} (h : x ∈ rbad) : evSs (cxt T (n + 60)) b__law_refused_2 [some (.v (.loc 1)), some (.v (.d prog)), some (.v (.d here)), some (.v (.d x)), none, none, none] [a, b] = .nx [some (.v (.loc 1)), some (.v (.d prog)), some (.v (.d here)), some (.v (.d x)), some (.v (.d (.str "2"))), none, none] [a, b] := by
  unfold rbad at h
  simp only [List.mem_cons, List.not_mem_nil, or_false] at h
  rcases h with rfl | rfl | rfl | rfl | rfl | rfl
  · exact rf_2_0 n a b
  · exact rf_2_1 n a b
  · exact rf_2_2 n a b
  · exact rf_2_3 n a b
  · exact rf_2_4 n a b
  · exact rf_2_5 n a b
theorem rf_4_0 (x y : PyData) : evSs (cxt T (n + 60)) b__law_refused_4 [some (.v (.loc 1)), some (.v (.d prog)), some (.v (.d here)), some (.v (.d x)), some (.v (.d y)), some (.v (.d (.int (6 + ((0 : Nat) : Int))))), none] [a, b] = .rt (.d (.bool true)) [a, b] := by kernel_rfl
theorem rf_4_1 (x y : PyData) : evSs (cxt T (n + 60)) b__law_refused_4 [some (.v (.loc 1)), some (.v (.d prog)), some (.v (.d here)), some (.v (.d x)), some (.v (.d y)), some (.v (.d (.int (6 + ((1 : Nat) : Int))))), none] [a, b] = .rt (.d (.bool true)) [a, b] := by kernel_rfl
theorem rf_4_2 (x y : PyData) : evSs (cxt T (n + 60)) b__law_refused_4 [some (.v (.loc 1)), some (.v (.d prog)), some (.v (.d here)), some (.v (.d x)), some (.v (.d y)), some (.v (.d (.int (6 + ((2 : Nat) : Int))))), none] [a, b] = .rt (.d (.bool true)) [a, b] := by kernel_rfl
theorem rf_4_3 (x y : PyData) : evSs (cxt T (n + 60)) b__law_refused_4 [some (.v (.loc 1)), some (.v (.d prog)), some (.v (.d here)), some (.v (.d x)), some (.v (.d y)), some (.v (.d (.int (6 + ((3 : Nat) : Int))))), none] [a, b] = .rt (.d (.bool true)) [a, b] := by kernel_rfl
theorem rf_4_4 (x y : PyData) : evSs (cxt T (n + 60)) b__law_refused_4 [some (.v (.loc 1)), some (.v (.d prog)), some (.v (.d here)), some (.v (.d x)), some (.v (.d y)), some (.v (.d (.int (6 + ((4 : Nat) : Int))))), none] [a, b] = .rt (.d (.bool true)) [a, b] := by kernel_rfl
theorem rf_4_5 (x y : PyData) : evSs (cxt T (n + 60)) b__law_refused_4 [some (.v (.loc 1)), some (.v (.d prog)), some (.v (.d here)), some (.v (.d x)), some (.v (.d y)), some (.v (.d (.int (6 + ((5 : Nat) : Int))))), none] [a, b] = .rt (.d (.bool true)) [a, b] := by kernel_rfl
theorem rf_4_6 (x y : PyData) : evSs (cxt T (n + 60)) b__law_refused_4 [some (.v (.loc 1)), some (.v (.d prog)), some (.v (.d here)), some (.v (.d x)), some (.v (.d y)), some (.v (.d (.int (6 + ((6 : Nat) : Int))))), none] [a, b] = .rt (.d (.bool true)) [a, b] := by kernel_rfl
theorem rf_4_7 (x y : PyData) : evSs (cxt T (n + 60)) b__law_refused_4 [some (.v (.loc 1)), some (.v (.d prog)), some (.v (.d here)), some (.v (.d x)), some (.v (.d y)), some (.v (.d (.int (6 + ((7 : Nat) : Int))))), none] [a, b] = .rt (.d (.bool true)) [a, b] := by kernel_rfl
theorem rf_4_8 (x y : PyData) : evSs (cxt T (n + 60)) b__law_refused_4 [some (.v (.loc 1)), some (.v (.d prog)), some (.v (.d here)), some (.v (.d x)), some (.v (.d y)), some (.v (.d (.int (6 + ((8 : Nat) : Int))))), none] [a, b] = .rt (.d (.bool true)) [a, b] := by kernel_rfl
theorem rf_4 {k : Nat} (h : k < 9) (x y : PyData) : evSs (cxt T (n + 60)) b__law_refused_4 [some (.v (.loc 1)), some (.v (.d prog)), some (.v (.d here)), some (.v (.d x)), some (.v (.d y)), some (.v (.d (.int (6 + (k : Int))))), none] [a, b] = .rt (.d (.bool true)) [a, b] := by
  rcases (by omega : k = 0 ∨ k = 1 ∨ k = 2 ∨ k = 3 ∨ k = 4 ∨ k = 5 ∨ k = 6 ∨ k = 7 ∨ k = 8) with rfl | rfl | rfl | rfl | rfl | rfl | rfl | rfl | rfl
  · exact rf_4_0 n a b x y
  · exact rf_4_1 n a b x y
  · exact rf_4_2 n a b x y
  · exact rf_4_3 n a b x y
  · exact rf_4_4 n a b x y
  · exact rf_4_5 n a b x y
  · exact rf_4_6 n a b x y
  · exact rf_4_7 n a b x y
  · exact rf_4_8 n a b x y
end
end MN.Q

set_option maxRecDepth 100000
set_option maxHeartbeats 4000000
/-! printed by gen_K12F.py: what is computed with written values. -/
namespace MN.Q
open PySem
def b__law_bad_condition_0 : List CS := [.asg (.v 2) (.lst [(.cst .none), (.lst []), (.tup [(.tup [(.cst (.str ("alike" : Str))), (.cst (.int 0)), (.var 1)])]), (.tup [(.tup [(.cst (.str ("alike" : Str))), (.cst (.int 1)), (.cst (.int 0))])]), (.tup [(.tup [(.cst (.str ("alike" : Str))), (.cst (.int 0)), (.cst (.int 0))])]), (.tup [(.tup [(.cst (.str ("like" : Str))), (.cst (.int 0)), (.cst (.int 1))])])]), .asg (.v 2) (.op .add (.var 2) (.lst [(.tup [(.tup [(.cst (.str ("alike" : Str))), (.cst (.int 0)), (.cst (.bool true))])]), (.tup [(.tup [(.cst (.str ("unlike" : Str))), (.cst (.int 0)), (.cst (.int 1))]), (.tup [(.cst (.str ("alike" : Str))), (.cst (.int 0)), (.cst (.int 1))])]), (.tup [(.cst .none)])])), .asg (.v 2) (.op .add (.var 2) (.lst [(.tup [(.tup [(.cst (.str ("alike" : Str))), (.cst (.int 0)), (.cst (.int 1))]), (.tup [(.cst (.str ("alike" : Str))), (.cst (.int 0)), (.cst (.int 1))])]), (.tup [(.tup [(.cst (.str ("alike" : Str))), (.cst (.int 0)), (.cst (.int 1)), (.cst (.int 2))])])]))]
def b__law_bad_condition_1 : List CS := [.ret (.call ("_law_of" : Str) [(.var 0), (.op .add (.var 2) (.lst [(.tup [(.tup [(.cst (.str ("alike" : Str))), (.neg (.cst (.int 1))), (.cst (.int 1))])])]))])]
theorem cut__law_bad_condition : b__law_bad_condition = b__law_bad_condition_0 ++ (b__law_bad_condition_1) := rfl
def b__law_conditions_right_0 : List CS := [.asg (.t [(.v 4), (.v 5)]) (.tup [(.call ("_law_condition" : Str) [(.var 0), (.var 1)]), (.call ("_law_bad_condition" : Str) [(.var 0), (.var 1)])])]
def b__law_conditions_right_1 : List CS := [.for_ .seq [(.call ("_law_all" : Str) [(.var 1)])] (.v 2) [.ifs (.not (.tst (.call ("_law_like" : Str) [(.call ("holds_joined" : Str) [(.var 4), (.var 2)]), (.call ("_law_holds" : Str) [(.var 4), (.var 2)])]))) [.ret (.cst (.bool false))] []]]
def b__law_conditions_right_2 : List CS := [.asg (.v 2) (.bi .tupRange [(.var 1)]), .ifs (.not (.tst (.call ("_law_like" : Str) [(.callL ("_law_caught" : Str) (.call ("holds_joined" : Str) [(.var 5), (.var 2)])), (.lst [(.cst (.str ("BadParameter" : Str))), (.var 5), (.cst (.bool false))])]))) [.ret (.cst (.bool false))] []]
def b__law_conditions_right_3 : List CS := [.asg (.v 3) (.call ("_law_of" : Str) [(.var 0), (.lst [(.cst .none), (.bi .list [(.var 2)]), (.op .add (.sl (.var 2) [] [(.neg (.cst (.int 1)))]) (.tup [(.var 1)])), (.op .add (.tup [(.cst (.int 1))]) (.sl (.var 2) [(.cst (.int 1))] [])), (.op .add (.tup [(.cst (.bool false))]) (.sl (.var 2) [(.cst (.int 1))] []))])])]
def b__law_conditions_right_4 : List CS := [.ret (.call ("_law_like" : Str) [(.callL ("_law_caught" : Str) (.call ("holds_joined" : Str) [(.var 5), (.var 3)])), (.lst [(.cst (.str ("BadJoining" : Str))), (.var 3), (.cst (.bool false))])])]
theorem cut__law_conditions_right : b__law_conditions_right = b__law_conditions_right_0 ++ (b__law_conditions_right_1 ++ (b__law_conditions_right_2 ++ (b__law_conditions_right_3 ++ (b__law_conditions_right_4)))) := rfl
section
variable (n : Nat) (a b : MO)
def al (x : Str) (l h : PyData) : PyData := .tuple [.str x, l, h]
def bads (w : Int) : List PyData := [.none, .list [], .tuple [al "alike" (.int 0) (.int w)], .tuple [al "alike" (.int 1) (.int 0)], .tuple [al "alike" (.int 0) (.int 0)], .tuple [al "like" (.int 0) (.int 1)], .tuple [al "alike" (.int 0) (.bool true)], .tuple [al "unlike" (.int 0) (.int 1), al "alike" (.int 0) (.int 1)], .tuple [.none], .tuple [al "alike" (.int 0) (.int 1), al "alike" (.int 0) (.int 1)], .tuple [.tuple [.str "alike", .int 0, .int 1, .int 2]], .tuple [al "alike" (.int (-1)) (.int 1)]]
def bads0 (w : Int) : List PyData := (bads w).dropLast
def odds_2 : List PyData := [.none, .list [.int 0, .int 1], .tuple [.int 0, .int 2], .tuple [.int 1, .int 1], .tuple [.bool false, .int 1]]
def rg_2 : PyData := .tuple [.int 0, .int 1]
theorem bc0_2 (cx : Cxt) : evSs cx b__law_bad_condition_0 [some (.v (.loc 1)), some (.v (.d (.int 2))), none] [a, b] = .nx [some (.v (.loc 1)), some (.v (.d (.int 2))), some (.v (.d (.list (bads0 2))))] [a, b] := by kernel_rfl
theorem bc1_2 (cx : Cxt) : evSs cx b__law_bad_condition_1 [some (.v (.loc 1)), some (.v (.d (.int 2))), some (.v (.d (.list (bads0 2))))] [a, b] = RS.seq (RS.of (cx.call "_law_of" [.loc 1, .d (.list (bads 2))] [a, b]) [some (.v (.loc 1)), some (.v (.d (.int 2))), some (.v (.d (.list (bads0 2))))] fun v m => .rt v m) fun ρ m => .nx ρ m := by kernel_rfl
theorem cr2_2_0 (y c : PyData) : evSs (cxt T (n + 30)) b__law_conditions_right_2 [some (.v (.loc 1)), some (.v (.d (.int 2))), some (.v (.d y)), none, some (.v (.d c)), some (.v (.d ((bads 2).getD 0 .none)))] [a, b] = .nx [some (.v (.loc 1)), some (.v (.d (.int 2))), some (.v (.d rg_2)), none, some (.v (.d c)), some (.v (.d ((bads 2).getD 0 .none)))] [a, b] := by kernel_rfl
theorem cr2_2_1 (y c : PyData) : evSs (cxt T (n + 30)) b__law_conditions_right_2 [some (.v (.loc 1)), some (.v (.d (.int 2))), some (.v (.d y)), none, some (.v (.d c)), some (.v (.d ((bads 2).getD 1 .none)))] [a, b] = .nx [some (.v (.loc 1)), some (.v (.d (.int 2))), some (.v (.d rg_2)), none, some (.v (.d c)), some (.v (.d ((bads 2).getD 1 .none)))] [a, b] := by kernel_rfl
theorem cr2_2_2 (y c : PyData) : evSs (cxt T (n + 30)) b__law_conditions_right_2 [some (.v (.loc 1)), some (.v (.d (.int 2))), some (.v (.d y)), none, some (.v (.d c)), some (.v (.d ((bads 2).getD 2 .none)))] [a, b] = .nx [some (.v (.loc 1)), some (.v (.d (.int 2))), some (.v (.d rg_2)), none, some (.v (.d c)), some (.v (.d ((bads 2).getD 2 .none)))] [a, b] := by kernel_rfl
theorem cr2_2_3 (y c : PyData) : evSs (cxt T (n + 30)) b__law_conditions_right_2 [some (.v (.loc 1)), some (.v (.d (.int 2))), some (.v (.d y)), none, some (.v (.d c)), some (.v (.d ((bads 2).getD 3 .none)))] [a, b] = .nx [some (.v (.loc 1)), some (.v (.d (.int 2))), some (.v (.d rg_2)), none, some (.v (.d c)), some (.v (.d ((bads 2).getD 3 .none)))] [a, b] := by kernel_rfl
theorem cr2_2_4 (y c : PyData) : evSs (cxt T (n + 30)) b__law_conditions_right_2 [some (.v (.loc 1)), some (.v (.d (.int 2))), some (.v (.d y)), none, some (.v (.d c)), some (.v (.d ((bads 2).getD 4 .none)))] [a, b] = .nx [some (.v (.loc 1)), some (.v (.d (.int 2))), some (.v (.d rg_2)), none, some (.v (.d c)), some (.v (.d ((bads 2).getD 4 .none)))] [a, b] := by kernel_rfl
theorem cr2_2_5 (y c : PyData) : evSs (cxt T (n + 30)) b__law_conditions_right_2 [some (.v (.loc 1)), some (.v (.d (.int 2))), some (.v (.d y)), none, some (.v (.d c)), some (.v (.d ((bads 2).getD 5 .none)))] [a, b] = .nx [some (.v (.loc 1)), some (.v (.d (.int 2))), some (.v (.d rg_2)), none, some (.v (.d c)), some (.v (.d ((bads 2).getD 5 .none)))] [a, b] := by kernel_rfl
theorem cr2_2_6 (y c : PyData) : evSs (cxt T (n + 30)) b__law_conditions_right_2 [some (.v (.loc 1)), some (.v (.d (.int 2))), some (.v (.d y)), none, some (.v (.d c)), some (.v (.d ((bads 2).getD 6 .none)))] [a, b] = .nx [some (.v (.loc 1)), some (.v (.d (.int 2))), some (.v (.d rg_2)), none, some (.v (.d c)), some (.v (.d ((bads 2).getD 6 .none)))] [a, b] := by kernel_rfl
theorem cr2_2_7 (y c : PyData) : evSs (cxt T (n + 30)) b__law_conditions_right_2 [some (.v (.loc 1)), some (.v (.d (.int 2))), some (.v (.d y)), none, some (.v (.d c)), some (.v (.d ((bads 2).getD 7 .none)))] [a, b] = .nx [some (.v (.loc 1)), some (.v (.d (.int 2))), some (.v (.d rg_2)), none, some (.v (.d c)), some (.v (.d ((bads 2).getD 7 .none)))] [a, b] := by kernel_rfl
theorem cr2_2_8 (y c : PyData) : evSs (cxt T (n + 30)) b__law_conditions_right_2 [some (.v (.loc 1)), some (.v (.d (.int 2))), some (.v (.d y)), none, some (.v (.d c)), some (.v (.d ((bads 2).getD 8 .none)))] [a, b] = .nx [some (.v (.loc 1)), some (.v (.d (.int 2))), some (.v (.d rg_2)), none, some (.v (.d c)), some (.v (.d ((bads 2).getD 8 .none)))] [a, b] := by kernel_rfl
theorem cr2_2_9 (y c : PyData) : evSs (cxt T (n + 30)) b__law_conditions_right_2 [some (.v (.loc 1)), some (.v (.d (.int 2))), some (.v (.d y)), none, some (.v (.d c)), some (.v (.d ((bads 2).getD 9 .none)))] [a, b] = .nx [some (.v (.loc 1)), some (.v (.d (.int 2))), some (.v (.d rg_2)), none, some (.v (.d c)), some (.v (.d ((bads 2).getD 9 .none)))] [a, b] := by kernel_rfl
theorem cr2_2_10 (y c : PyData) : evSs (cxt T (n + 30)) b__law_conditions_right_2 [some (.v (.loc 1)), some (.v (.d (.int 2))), some (.v (.d y)), none, some (.v (.d c)), some (.v (.d ((bads 2).getD 10 .none)))] [a, b] = .nx [some (.v (.loc 1)), some (.v (.d (.int 2))), some (.v (.d rg_2)), none, some (.v (.d c)), some (.v (.d ((bads 2).getD 10 .none)))] [a, b] := by kernel_rfl
theorem cr2_2_11 (y c : PyData) : evSs (cxt T (n + 30)) b__law_conditions_right_2 [some (.v (.loc 1)), some (.v (.d (.int 2))), some (.v (.d y)), none, some (.v (.d c)), some (.v (.d ((bads 2).getD 11 .none)))] [a, b] = .nx [some (.v (.loc 1)), some (.v (.d (.int 2))), some (.v (.d rg_2)), none, some (.v (.d c)), some (.v (.d ((bads 2).getD 11 .none)))] [a, b] := by kernel_rfl
theorem cr2_2 {x : PyData} (h : x ∈ bads 2) (y c : PyData) : evSs (cxt T (n + 30)) b__law_conditions_right_2 [some (.v (.loc 1)), some (.v (.d (.int 2))), some (.v (.d y)), none, some (.v (.d c)), some (.v (.d x))] [a, b] = .nx [some (.v (.loc 1)), some (.v (.d (.int 2))), some (.v (.d rg_2)), none, some (.v (.d c)), some (.v (.d x))] [a, b] := by
  unfold bads at h
  simp only [List.mem_cons, List.not_mem_nil, or_false] at h
  rcases h with rfl | rfl | rfl | rfl | rfl | rfl | rfl | rfl | rfl | rfl | rfl | rfl
  · exact cr2_2_0 n a b y c
  · exact cr2_2_1 n a b y c
  · exact cr2_2_2 n a b y c
  · exact cr2_2_3 n a b y c
  · exact cr2_2_4 n a b y c
  · exact cr2_2_5 n a b y c
  · exact cr2_2_6 n a b y c
  · exact cr2_2_7 n a b y c
  · exact cr2_2_8 n a b y c
  · exact cr2_2_9 n a b y c
  · exact cr2_2_10 n a b y c
  · exact cr2_2_11 n a b y c
theorem cr3_2 (cx : Cxt) (c x : PyData) : evSs cx b__law_conditions_right_3 [some (.v (.loc 1)), some (.v (.d (.int 2))), some (.v (.d rg_2)), none, some (.v (.d c)), some (.v (.d x))] [a, b] = RS.seq (RS.of (cx.call "_law_of" [.loc 1, .d (.list odds_2)] [a, b]) [some (.v (.loc 1)), some (.v (.d (.int 2))), some (.v (.d rg_2)), none, some (.v (.d c)), some (.v (.d x))] fun v m => .nx [some (.v (.loc 1)), some (.v (.d (.int 2))), some (.v (.d rg_2)), some (.v v), some (.v (.d c)), some (.v (.d x))] m) fun ρ m => .nx ρ m := by kernel_rfl
theorem cr4_2_0 (y c x : PyData) : evSs (cxt T (n + 30)) b__law_conditions_right_4 [some (.v (.loc 1)), some (.v (.d (.int 2))), some (.v (.d y)), some (.v (.d (odds_2.getD 0 .none))), some (.v (.d c)), some (.v (.d x))] [a, b] = .rt (.d (.bool true)) [a, b] := by kernel_rfl
theorem cr4_2_1 (y c x : PyData) : evSs (cxt T (n + 30)) b__law_conditions_right_4 [some (.v (.loc 1)), some (.v (.d (.int 2))), some (.v (.d y)), some (.v (.d (odds_2.getD 1 .none))), some (.v (.d c)), some (.v (.d x))] [a, b] = .rt (.d (.bool true)) [a, b] := by kernel_rfl
theorem cr4_2_2 (y c x : PyData) : evSs (cxt T (n + 30)) b__law_conditions_right_4 [some (.v (.loc 1)), some (.v (.d (.int 2))), some (.v (.d y)), some (.v (.d (odds_2.getD 2 .none))), some (.v (.d c)), some (.v (.d x))] [a, b] = .rt (.d (.bool true)) [a, b] := by kernel_rfl
theorem cr4_2_3 (y c x : PyData) : evSs (cxt T (n + 30)) b__law_conditions_right_4 [some (.v (.loc 1)), some (.v (.d (.int 2))), some (.v (.d y)), some (.v (.d (odds_2.getD 3 .none))), some (.v (.d c)), some (.v (.d x))] [a, b] = .rt (.d (.bool true)) [a, b] := by kernel_rfl
theorem cr4_2_4 (y c x : PyData) : evSs (cxt T (n + 30)) b__law_conditions_right_4 [some (.v (.loc 1)), some (.v (.d (.int 2))), some (.v (.d y)), some (.v (.d (odds_2.getD 4 .none))), some (.v (.d c)), some (.v (.d x))] [a, b] = .rt (.d (.bool true)) [a, b] := by kernel_rfl
theorem cr4_2 {z : PyData} (h : z ∈ odds_2) (y c x : PyData) : evSs (cxt T (n + 30)) b__law_conditions_right_4 [some (.v (.loc 1)), some (.v (.d (.int 2))), some (.v (.d y)), some (.v (.d z)), some (.v (.d c)), some (.v (.d x))] [a, b] = .rt (.d (.bool true)) [a, b] := by
  unfold odds_2 at h
  simp only [List.mem_cons, List.not_mem_nil, or_false] at h
  rcases h with rfl | rfl | rfl | rfl | rfl
  · exact cr4_2_0 n a b y c x
  · exact cr4_2_1 n a b y c x
  · exact cr4_2_2 n a b y c x
  · exact cr4_2_3 n a b y c x
  · exact cr4_2_4 n a b y c x
def odds_3 : List PyData := [.none, .list [.int 0, .int 1, .int 2], .tuple [.int 0, .int 1, .int 3], .tuple [.int 1, .int 1, .int 2], .tuple [.bool false, .int 1, .int 2]]
def rg_3 : PyData := .tuple [.int 0, .int 1, .int 2]
theorem bc0_3 (cx : Cxt) : evSs cx b__law_bad_condition_0 [some (.v (.loc 1)), some (.v (.d (.int 3))), none] [a, b] = .nx [some (.v (.loc 1)), some (.v (.d (.int 3))), some (.v (.d (.list (bads0 3))))] [a, b] := by kernel_rfl
theorem bc1_3 (cx : Cxt) : evSs cx b__law_bad_condition_1 [some (.v (.loc 1)), some (.v (.d (.int 3))), some (.v (.d (.list (bads0 3))))] [a, b] = RS.seq (RS.of (cx.call "_law_of" [.loc 1, .d (.list (bads 3))] [a, b]) [some (.v (.loc 1)), some (.v (.d (.int 3))), some (.v (.d (.list (bads0 3))))] fun v m => .rt v m) fun ρ m => .nx ρ m := by kernel_rfl
theorem cr2_3_0 (y c : PyData) : evSs (cxt T (n + 30)) b__law_conditions_right_2 [some (.v (.loc 1)), some (.v (.d (.int 3))), some (.v (.d y)), none, some (.v (.d c)), some (.v (.d ((bads 3).getD 0 .none)))] [a, b] = .nx [some (.v (.loc 1)), some (.v (.d (.int 3))), some (.v (.d rg_3)), none, some (.v (.d c)), some (.v (.d ((bads 3).getD 0 .none)))] [a, b] := by kernel_rfl
theorem cr2_3_1 (y c : PyData) : evSs (cxt T (n + 30)) b__law_conditions_right_2 [some (.v (.loc 1)), some (.v (.d (.int 3))), some (.v (.d y)), none, some (.v (.d c)), some (.v (.d ((bads 3).getD 1 .none)))] [a, b] = .nx [some (.v (.loc 1)), some (.v (.d (.int 3))), some (.v (.d rg_3)), none, some (.v (.d c)), some (.v (.d ((bads 3).getD 1 .none)))] [a, b] := by kernel_rfl
theorem cr2_3_2 (y c : PyData) : evSs (cxt T (n + 30)) b__law_conditions_right_2 [some (.v (.loc 1)), some (.v (.d (.int 3))), some (.v (.d y)), none, some (.v (.d c)), some (.v (.d ((bads 3).getD 2 .none)))] [a, b] = .nx [some (.v (.loc 1)), some (.v (.d (.int 3))), some (.v (.d rg_3)), none, some (.v (.d c)), some (.v (.d ((bads 3).getD 2 .none)))] [a, b] := by kernel_rfl
theorem cr2_3_3 (y c : PyData) : evSs (cxt T (n + 30)) b__law_conditions_right_2 [some (.v (.loc 1)), some (.v (.d (.int 3))), some (.v (.d y)), none, some (.v (.d c)), some (.v (.d ((bads 3).getD 3 .none)))] [a, b] = .nx [some (.v (.loc 1)), some (.v (.d (.int 3))), some (.v (.d rg_3)), none, some (.v (.d c)), some (.v (.d ((bads 3).getD 3 .none)))] [a, b] := by kernel_rfl
theorem cr2_3_4 (y c : PyData) : evSs (cxt T (n + 30)) b__law_conditions_right_2 [some (.v (.loc 1)), some (.v (.d (.int 3))), some (.v (.d y)), none, some (.v (.d c)), some (.v (.d ((bads 3).getD 4 .none)))] [a, b] = .nx [some (.v (.loc 1)), some (.v (.d (.int 3))), some (.v (.d rg_3)), none, some (.v (.d c)), some (.v (.d ((bads 3).getD 4 .none)))] [a, b] := by kernel_rfl
theorem cr2_3_5 (y c : PyData) : evSs (cxt T (n + 30)) b__law_conditions_right_2 [some (.v (.loc 1)), some (.v (.d (.int 3))), some (.v (.d y)), none, some (.v (.d c)), some (.v (.d ((bads 3).getD 5 .none)))] [a, b] = .nx [some (.v (.loc 1)), some (.v (.d (.int 3))), some (.v (.d rg_3)), none, some (.v (.d c)), some (.v (.d ((bads 3).getD 5 .none)))] [a, b] := by kernel_rfl
theorem cr2_3_6 (y c : PyData) : evSs (cxt T (n + 30)) b__law_conditions_right_2 [some (.v (.loc 1)), some (.v (.d (.int 3))), some (.v (.d y)), none, some (.v (.d c)), some (.v (.d ((bads 3).getD 6 .none)))] [a, b] = .nx [some (.v (.loc 1)), some (.v (.d (.int 3))), some (.v (.d rg_3)), none, some (.v (.d c)), some (.v (.d ((bads 3).getD 6 .none)))] [a, b] := by kernel_rfl
theorem cr2_3_7 (y c : PyData) : evSs (cxt T (n + 30)) b__law_conditions_right_2 [some (.v (.loc 1)), some (.v (.d (.int 3))), some (.v (.d y)), none, some (.v (.d c)), some (.v (.d ((bads 3).getD 7 .none)))] [a, b] = .nx [some (.v (.loc 1)), some (.v (.d (.int 3))), some (.v (.d rg_3)), none, some (.v (.d c)), some (.v (.d ((bads 3).getD 7 .none)))] [a, b] := by kernel_rfl
theorem cr2_3_8 (y c : PyData) : evSs (cxt T (n + 30)) b__law_conditions_right_2 [some (.v (.loc 1)), some (.v (.d (.int 3))), some (.v (.d y)), none, some (.v (.d c)), some (.v (.d ((bads 3).getD 8 .none)))] [a, b] = .nx [some (.v (.loc 1)), some (.v (.d (.int 3))), some (.v (.d rg_3)), none, some (.v (.d c)), some (.v (.d ((bads 3).getD 8 .none)))] [a, b] := by kernel_rfl
theorem cr2_3_9 (y c : PyData) : evSs (cxt T (n + 30)) b__law_conditions_right_2 [some (.v (.loc 1)), some (.v (.d (.int 3))), some (.v (.d y)), none, some (.v (.d c)), some (.v (.d ((bads 3).getD 9 .none)))] [a, b] = .nx [some (.v (.loc 1)), some (.v (.d (.int 3))), some (.v (.d rg_3)), none, some (.v (.d c)), some (.v (.d ((bads 3).getD 9 .none)))] [a, b] := by kernel_rfl
theorem cr2_3_10 (y c : PyData) : evSs (cxt T (n + 30)) b__law_conditions_right_2 [some (.v (.loc 1)), some (.v (.d (.int 3))), some (.v (.d y)), none, some (.v (.d c)), some (.v (.d ((bads 3).getD 10 .none)))] [a, b] = .nx [some (.v (.loc 1)), some (.v (.d (.int 3))), some (.v (.d rg_3)), none, some (.v (.d c)), some (.v (.d ((bads 3).getD 10 .none)))] [a, b] := by kernel_rfl
theorem cr2_3_11 (y c : PyData) : evSs (cxt T (n + 30)) b__law_conditions_right_2 [some (.v (.loc 1)), some (.v (.d (.int 3))), some (.v (.d y)), none, some (.v (.d c)), some (.v (.d ((bads 3).getD 11 .none)))] [a, b] = .nx [some (.v (.loc 1)), some (.v (.d (.int 3))), some (.v (.d rg_3)), none, some (.v (.d c)), some (.v (.d ((bads 3).getD 11 .none)))] [a, b] := by kernel_rfl
theorem cr2_3 {x : PyData} (h : x ∈ bads 3) (y c : PyData) : evSs (cxt T (n + 30)) b__law_conditions_right_2 [some (.v (.loc 1)), some (.v (.d (.int 3))), some (.v (.d y)), none, some (.v (.d c)), some (.v (.d x))] [a, b] = .nx [some (.v (.loc 1)), some (.v (.d (.int 3))), some (.v (.d rg_3)), none, some (.v (.d c)), some (.v (.d x))] [a, b] := by
  unfold bads at h
  simp only [List.mem_cons, List.not_mem_nil, or_false] at h
  rcases h with rfl | rfl | rfl | rfl | rfl | rfl | rfl | rfl | rfl | rfl | rfl | rfl
  · exact cr2_3_0 n a b y c
  · exact cr2_3_1 n a b y c
  · exact cr2_3_2 n a b y c
  · exact cr2_3_3 n a b y c
  · exact cr2_3_4 n a b y c
  · exact cr2_3_5 n a b y c
  · exact cr2_3_6 n a b y c
  · exact cr2_3_7 n a b y c
  · exact cr2_3_8 n a b y c
  · exact cr2_3_9 n a b y c
  · exact cr2_3_10 n a b y c
  · exact cr2_3_11 n a b y c
theorem cr3_3 (cx : Cxt) (c x : PyData) : evSs cx b__law_conditions_right_3 [some (.v (.loc 1)), some (.v (.d (.int 3))), some (.v (.d rg_3)), none, some (.v (.d c)), some (.v (.d x))] [a, b] = RS.seq (RS.of (cx.call "_law_of" [.loc 1, .d (.list odds_3)] [a, b]) [some (.v (.loc 1)), some (.v (.d (.int 3))), some (.v (.d rg_3)), none, some (.v (.d c)), some (.v (.d x))] fun v m => .nx [some (.v (.loc 1)), some (.v (.d (.int 3))), some (.v (.d rg_3)), some (.v v), some (.v (.d c)), some (.v (.d x))] m) fun ρ m => .nx ρ m := by kernel_rfl
theorem cr4_3_0 (y c x : PyData) : evSs (cxt T (n + 30)) b__law_conditions_right_4 [some (.v (.loc 1)), some (.v (.d (.int 3))), some (.v (.d y)), some (.v (.d (odds_3.getD 0 .none))), some (.v (.d c)), some (.v (.d x))] [a, b] = .rt (.d (.bool true)) [a, b] := by kernel_rfl
theorem cr4_3_1 (y c x : PyData) : evSs (cxt T (n + 30)) b__law_conditions_right_4 [some (.v (.loc 1)), some (.v (.d (.int 3))), some (.v (.d y)), some (.v (.d (odds_3.getD 1 .none))), some (.v (.d c)), some (.v (.d x))] [a, b] = .rt (.d (.bool true)) [a, b] := by kernel_rfl
theorem cr4_3_2 (y c x : PyData) : evSs (cxt T (n + 30)) b__law_conditions_right_4 [some (.v (.loc 1)), some (.v (.d (.int 3))), some (.v (.d y)), some (.v (.d (odds_3.getD 2 .none))), some (.v (.d c)), some (.v (.d x))] [a, b] = .rt (.d (.bool true)) [a, b] := by kernel_rfl
theorem cr4_3_3 (y c x : PyData) : evSs (cxt T (n + 30)) b__law_conditions_right_4 [some (.v (.loc 1)), some (.v (.d (.int 3))), some (.v (.d y)), some (.v (.d (odds_3.getD 3 .none))), some (.v (.d c)), some (.v (.d x))] [a, b] = .rt (.d (.bool true)) [a, b] := by kernel_rfl
theorem cr4_3_4 (y c x : PyData) : evSs (cxt T (n + 30)) b__law_conditions_right_4 [some (.v (.loc 1)), some (.v (.d (.int 3))), some (.v (.d y)), some (.v (.d (odds_3.getD 4 .none))), some (.v (.d c)), some (.v (.d x))] [a, b] = .rt (.d (.bool true)) [a, b] := by kernel_rfl
theorem cr4_3 {z : PyData} (h : z ∈ odds_3) (y c x : PyData) : evSs (cxt T (n + 30)) b__law_conditions_right_4 [some (.v (.loc 1)), some (.v (.d (.int 3))), some (.v (.d y)), some (.v (.d z)), some (.v (.d c)), some (.v (.d x))] [a, b] = .rt (.d (.bool true)) [a, b] := by
  unfold odds_3 at h
  simp only [List.mem_cons, List.not_mem_nil, or_false] at h
  rcases h with rfl | rfl | rfl | rfl | rfl
  · exact cr4_3_0 n a b y c x
  · exact cr4_3_1 n a b y c x
  · exact cr4_3_2 n a b y c x
  · exact cr4_3_3 n a b y c x
  · exact cr4_3_4 n a b y c x
def odds_4 : List PyData := [.none, .list [.int 0, .int 1, .int 2, .int 3], .tuple [.int 0, .int 1, .int 2, .int 4], .tuple [.int 1, .int 1, .int 2, .int 3], .tuple [.bool false, .int 1, .int 2, .int 3]]
def rg_4 : PyData := .tuple [.int 0, .int 1, .int 2, .int 3]
theorem bc0_4 (cx : Cxt) : evSs cx b__law_bad_condition_0 [some (.v (.loc 1)), some (.v (.d (.int 4))), none] [a, b] = .nx [some (.v (.loc 1)), some (.v (.d (.int 4))), some (.v (.d (.list (bads0 4))))] [a, b] := by kernel_rfl
theorem bc1_4 (cx : Cxt) : evSs cx b__law_bad_condition_1 [some (.v (.loc 1)), some (.v (.d (.int 4))), some (.v (.d (.list (bads0 4))))] [a, b] = RS.seq (RS.of (cx.call "_law_of" [.loc 1, .d (.list (bads 4))] [a, b]) [some (.v (.loc 1)), some (.v (.d (.int 4))), some (.v (.d (.list (bads0 4))))] fun v m => .rt v m) fun ρ m => .nx ρ m := by kernel_rfl
theorem cr2_4_0 (y c : PyData) : evSs (cxt T (n + 30)) b__law_conditions_right_2 [some (.v (.loc 1)), some (.v (.d (.int 4))), some (.v (.d y)), none, some (.v (.d c)), some (.v (.d ((bads 4).getD 0 .none)))] [a, b] = .nx [some (.v (.loc 1)), some (.v (.d (.int 4))), some (.v (.d rg_4)), none, some (.v (.d c)), some (.v (.d ((bads 4).getD 0 .none)))] [a, b] := by kernel_rfl
theorem cr2_4_1 (y c : PyData) : evSs (cxt T (n + 30)) b__law_conditions_right_2 [some (.v (.loc 1)), some (.v (.d (.int 4))), some (.v (.d y)), none, some (.v (.d c)), some (.v (.d ((bads 4).getD 1 .none)))] [a, b] = .nx [some (.v (.loc 1)), some (.v (.d (.int 4))), some (.v (.d rg_4)), none, some (.v (.d c)), some (.v (.d ((bads 4).getD 1 .none)))] [a, b] := by kernel_rfl
theorem cr2_4_2 (y c : PyData) : evSs (cxt T (n + 30)) b__law_conditions_right_2 [some (.v (.loc 1)), some (.v (.d (.int 4))), some (.v (.d y)), none, some (.v (.d c)), some (.v (.d ((bads 4).getD 2 .none)))] [a, b] = .nx [some (.v (.loc 1)), some (.v (.d (.int 4))), some (.v (.d rg_4)), none, some (.v (.d c)), some (.v (.d ((bads 4).getD 2 .none)))] [a, b] := by kernel_rfl
theorem cr2_4_3 (y c : PyData) : evSs (cxt T (n + 30)) b__law_conditions_right_2 [some (.v (.loc 1)), some (.v (.d (.int 4))), some (.v (.d y)), none, some (.v (.d c)), some (.v (.d ((bads 4).getD 3 .none)))] [a, b] = .nx [some (.v (.loc 1)), some (.v (.d (.int 4))), some (.v (.d rg_4)), none, some (.v (.d c)), some (.v (.d ((bads 4).getD 3 .none)))] [a, b] := by kernel_rfl
theorem cr2_4_4 (y c : PyData) : evSs (cxt T (n + 30)) b__law_conditions_right_2 [some (.v (.loc 1)), some (.v (.d (.int 4))), some (.v (.d y)), none, some (.v (.d c)), some (.v (.d ((bads 4).getD 4 .none)))] [a, b] = .nx [some (.v (.loc 1)), some (.v (.d (.int 4))), some (.v (.d rg_4)), none, some (.v (.d c)), some (.v (.d ((bads 4).getD 4 .none)))] [a, b] := by kernel_rfl
theorem cr2_4_5 (y c : PyData) : evSs (cxt T (n + 30)) b__law_conditions_right_2 [some (.v (.loc 1)), some (.v (.d (.int 4))), some (.v (.d y)), none, some (.v (.d c)), some (.v (.d ((bads 4).getD 5 .none)))] [a, b] = .nx [some (.v (.loc 1)), some (.v (.d (.int 4))), some (.v (.d rg_4)), none, some (.v (.d c)), some (.v (.d ((bads 4).getD 5 .none)))] [a, b] := by kernel_rfl
theorem cr2_4_6 (y c : PyData) : evSs (cxt T (n + 30)) b__law_conditions_right_2 [some (.v (.loc 1)), some (.v (.d (.int 4))), some (.v (.d y)), none, some (.v (.d c)), some (.v (.d ((bads 4).getD 6 .none)))] [a, b] = .nx [some (.v (.loc 1)), some (.v (.d (.int 4))), some (.v (.d rg_4)), none, some (.v (.d c)), some (.v (.d ((bads 4).getD 6 .none)))] [a, b] := by kernel_rfl
theorem cr2_4_7 (y c : PyData) : evSs (cxt T (n + 30)) b__law_conditions_right_2 [some (.v (.loc 1)), some (.v (.d (.int 4))), some (.v (.d y)), none, some (.v (.d c)), some (.v (.d ((bads 4).getD 7 .none)))] [a, b] = .nx [some (.v (.loc 1)), some (.v (.d (.int 4))), some (.v (.d rg_4)), none, some (.v (.d c)), some (.v (.d ((bads 4).getD 7 .none)))] [a, b] := by kernel_rfl
theorem cr2_4_8 (y c : PyData) : evSs (cxt T (n + 30)) b__law_conditions_right_2 [some (.v (.loc 1)), some (.v (.d (.int 4))), some (.v (.d y)), none, some (.v (.d c)), some (.v (.d ((bads 4).getD 8 .none)))] [a, b] = .nx [some (.v (.loc 1)), some (.v (.d (.int 4))), some (.v (.d rg_4)), none, some (.v (.d c)), some (.v (.d ((bads 4).getD 8 .none)))] [a, b] := by kernel_rfl
theorem cr2_4_9 (y c : PyData) : evSs (cxt T (n + 30)) b__law_conditions_right_2 [some (.v (.loc 1)), some (.v (.d (.int 4))), some (.v (.d y)), none, some (.v (.d c)), some (.v (.d ((bads 4).getD 9 .none)))] [a, b] = .nx [some (.v (.loc 1)), some (.v (.d (.int 4))), some (.v (.d rg_4)), none, some (.v (.d c)), some (.v (.d ((bads 4).getD 9 .none)))] [a, b] := by kernel_rfl
theorem cr2_4_10 (y c : PyData) : evSs (cxt T (n + 30)) b__law_conditions_right_2 [some (.v (.loc 1)), some (.v (.d (.int 4))), some (.v (.d y)), none, some (.v (.d c)), some (.v (.d ((bads 4).getD 10 .none)))] [a, b] = .nx [some (.v (.loc 1)), some (.v (.d (.int 4))), some (.v (.d rg_4)), none, some (.v (.d c)), some (.v (.d ((bads 4).getD 10 .none)))] [a, b] := by kernel_rfl
theorem cr2_4_11 (y c : PyData) : evSs (cxt T (n + 30)) b__law_conditions_right_2 [some (.v (.loc 1)), some (.v (.d (.int 4))), some (.v (.d y)), none, some (.v (.d c)), some (.v (.d ((bads 4).getD 11 .none)))] [a, b] = .nx [some (.v (.loc 1)), some (.v (.d (.int 4))), some (.v (.d rg_4)), none, some (.v (.d c)), some (.v (.d ((bads 4).getD 11 .none)))] [a, b] := by kernel_rfl
theorem cr2_4 {x : PyData} (h : x ∈ bads 4) (y c : PyData) : evSs (cxt T (n + 30)) b__law_conditions_right_2 [some (.v (.loc 1)), some (.v (.d (.int 4))), some (.v (.d y)), none, some (.v (.d c)), some (.v (.d x))] [a, b] = .nx [some (.v (.loc 1)), some (.v (.d (.int 4))), some (.v (.d rg_4)), none, some (.v (.d c)), some (.v (.d x))] [a, b] := by
  unfold bads at h
  simp only [List.mem_cons, List.not_mem_nil, or_false] at h
  rcases h with rfl | rfl | rfl | rfl | rfl | rfl | rfl | rfl | rfl | rfl | rfl | rfl
  · exact cr2_4_0 n a b y c
  · exact cr2_4_1 n a b y c
  · exact cr2_4_2 n a b y c
  · exact cr2_4_3 n a b y c
  · exact cr2_4_4 n a b y c
  · exact cr2_4_5 n a b y c
  · exact cr2_4_6 n a b y c
  · exact cr2_4_7 n a b y c
  · exact cr2_4_8 n a b y c
  · exact cr2_4_9 n a b y c
  · exact cr2_4_10 n a b y c
  · exact cr2_4_11 n a b y c
theorem cr3_4 (cx : Cxt) (c x : PyData) : evSs cx b__law_conditions_right_3 [some (.v (.loc 1)), some (.v (.d (.int 4))), some (.v (.d rg_4)), none, some (.v (.d c)), some (.v (.d x))] [a, b] = RS.seq (RS.of (cx.call "_law_of" [.loc 1, .d (.list odds_4)] [a, b]) [some (.v (.loc 1)), some (.v (.d (.int 4))), some (.v (.d rg_4)), none, some (.v (.d c)), some (.v (.d x))] fun v m => .nx [some (.v (.loc 1)), some (.v (.d (.int 4))), some (.v (.d rg_4)), some (.v v), some (.v (.d c)), some (.v (.d x))] m) fun ρ m => .nx ρ m := by kernel_rfl
theorem cr4_4_0 (y c x : PyData) : evSs (cxt T (n + 30)) b__law_conditions_right_4 [some (.v (.loc 1)), some (.v (.d (.int 4))), some (.v (.d y)), some (.v (.d (odds_4.getD 0 .none))), some (.v (.d c)), some (.v (.d x))] [a, b] = .rt (.d (.bool true)) [a, b] := by kernel_rfl
theorem cr4_4_1 (y c x : PyData) : evSs (cxt T (n + 30)) b__law_conditions_right_4 [some (.v (.loc 1)), some (.v (.d (.int 4))), some (.v (.d y)), some (.v (.d (odds_4.getD 1 .none))), some (.v (.d c)), some (.v (.d x))] [a, b] = .rt (.d (.bool true)) [a, b] := by kernel_rfl
theorem cr4_4_2 (y c x : PyData) : evSs (cxt T (n + 30)) b__law_conditions_right_4 [some (.v (.loc 1)), some (.v (.d (.int 4))), some (.v (.d y)), some (.v (.d (odds_4.getD 2 .none))), some (.v (.d c)), some (.v (.d x))] [a, b] = .rt (.d (.bool true)) [a, b] := by kernel_rfl
theorem cr4_4_3 (y c x : PyData) : evSs (cxt T (n + 30)) b__law_conditions_right_4 [some (.v (.loc 1)), some (.v (.d (.int 4))), some (.v (.d y)), some (.v (.d (odds_4.getD 3 .none))), some (.v (.d c)), some (.v (.d x))] [a, b] = .rt (.d (.bool true)) [a, b] := by kernel_rfl
theorem cr4_4_4 (y c x : PyData) : evSs (cxt T (n + 30)) b__law_conditions_right_4 [some (.v (.loc 1)), some (.v (.d (.int 4))), some (.v (.d y)), some (.v (.d (odds_4.getD 4 .none))), some (.v (.d c)), some (.v (.d x))] [a, b] = .rt (.d (.bool true)) [a, b] := by kernel_rfl
theorem cr4_4 {z : PyData} (h : z ∈ odds_4) (y c x : PyData) : evSs (cxt T (n + 30)) b__law_conditions_right_4 [some (.v (.loc 1)), some (.v (.d (.int 4))), some (.v (.d y)), some (.v (.d z)), some (.v (.d c)), some (.v (.d x))] [a, b] = .rt (.d (.bool true)) [a, b] := by
  unfold odds_4 at h
  simp only [List.mem_cons, List.not_mem_nil, or_false] at h
  rcases h with rfl | rfl | rfl | rfl | rfl
  · exact cr4_4_0 n a b y c x
  · exact cr4_4_1 n a b y c x
  · exact cr4_4_2 n a b y c x
  · exact cr4_4_3 n a b y c x
  · exact cr4_4_4 n a b y c x
def odds_5 : List PyData := [.none, .list [.int 0, .int 1, .int 2, .int 3, .int 4], .tuple [.int 0, .int 1, .int 2, .int 3, .int 5], .tuple [.int 1, .int 1, .int 2, .int 3, .int 4], .tuple [.bool false, .int 1, .int 2, .int 3, .int 4]]
def rg_5 : PyData := .tuple [.int 0, .int 1, .int 2, .int 3, .int 4]
theorem bc0_5 (cx : Cxt) : evSs cx b__law_bad_condition_0 [some (.v (.loc 1)), some (.v (.d (.int 5))), none] [a, b] = .nx [some (.v (.loc 1)), some (.v (.d (.int 5))), some (.v (.d (.list (bads0 5))))] [a, b] := by kernel_rfl
theorem bc1_5 (cx : Cxt) : evSs cx b__law_bad_condition_1 [some (.v (.loc 1)), some (.v (.d (.int 5))), some (.v (.d (.list (bads0 5))))] [a, b] = RS.seq (RS.of (cx.call "_law_of" [.loc 1, .d (.list (bads 5))] [a, b]) [some (.v (.loc 1)), some (.v (.d (.int 5))), some (.v (.d (.list (bads0 5))))] fun v m => .rt v m) fun ρ m => .nx ρ m := by kernel_rfl
theorem cr2_5_0 (y c : PyData) : evSs (cxt T (n + 30)) b__law_conditions_right_2 [some (.v (.loc 1)), some (.v (.d (.int 5))), some (.v (.d y)), none, some (.v (.d c)), some (.v (.d ((bads 5).getD 0 .none)))] [a, b] = .nx [some (.v (.loc 1)), some (.v (.d (.int 5))), some (.v (.d rg_5)), none, some (.v (.d c)), some (.v (.d ((bads 5).getD 0 .none)))] [a, b] := by kernel_rfl
theorem cr2_5_1 (y c : PyData) : evSs (cxt T (n + 30)) b__law_conditions_right_2 [some (.v (.loc 1)), some (.v (.d (.int 5))), some (.v (.d y)), none, some (.v (.d c)), some (.v (.d ((bads 5).getD 1 .none)))] [a, b] = .nx [some (.v (.loc 1)), some (.v (.d (.int 5))), some (.v (.d rg_5)), none, some (.v (.d c)), some (.v (.d ((bads 5).getD 1 .none)))] [a, b] := by kernel_rfl
theorem cr2_5_2 (y c : PyData) : evSs (cxt T (n + 30)) b__law_conditions_right_2 [some (.v (.loc 1)), some (.v (.d (.int 5))), some (.v (.d y)), none, some (.v (.d c)), some (.v (.d ((bads 5).getD 2 .none)))] [a, b] = .nx [some (.v (.loc 1)), some (.v (.d (.int 5))), some (.v (.d rg_5)), none, some (.v (.d c)), some (.v (.d ((bads 5).getD 2 .none)))] [a, b] := by kernel_rfl
theorem cr2_5_3 (y c : PyData) : evSs (cxt T (n + 30)) b__law_conditions_right_2 [some (.v (.loc 1)), some (.v (.d (.int 5))), some (.v (.d y)), none, some (.v (.d c)), some (.v (.d ((bads 5).getD 3 .none)))] [a, b] = .nx [some (.v (.loc 1)), some (.v (.d (.int 5))), some (.v (.d rg_5)), none, some (.v (.d c)), some (.v (.d ((bads 5).getD 3 .none)))] [a, b] := by kernel_rfl
theorem cr2_5_4 (y c : PyData) : evSs (cxt T (n + 30)) b__law_conditions_right_2 [some (.v (.loc 1)), some (.v (.d (.int 5))), some (.v (.d y)), none, some (.v (.d c)), some (.v (.d ((bads 5).getD 4 .none)))] [a, b] = .nx [some (.v (.loc 1)), some (.v (.d (.int 5))), some (.v (.d rg_5)), none, some (.v (.d c)), some (.v (.d ((bads 5).getD 4 .none)))] [a, b] := by kernel_rfl
theorem cr2_5_5 (y c : PyData) : evSs (cxt T (n + 30)) b__law_conditions_right_2 [some (.v (.loc 1)), some (.v (.d (.int 5))), some (.v (.d y)), none, some (.v (.d c)), some (.v (.d ((bads 5).getD 5 .none)))] [a, b] = .nx [some (.v (.loc 1)), some (.v (.d (.int 5))), some (.v (.d rg_5)), none, some (.v (.d c)), some (.v (.d ((bads 5).getD 5 .none)))] [a, b] := by kernel_rfl
theorem cr2_5_6 (y c : PyData) : evSs (cxt T (n + 30)) b__law_conditions_right_2 [some (.v (.loc 1)), some (.v (.d (.int 5))), some (.v (.d y)), none, some (.v (.d c)), some (.v (.d ((bads 5).getD 6 .none)))] [a, b] = .nx [some (.v (.loc 1)), some (.v (.d (.int 5))), some (.v (.d rg_5)), none, some (.v (.d c)), some (.v (.d ((bads 5).getD 6 .none)))] [a, b] := by kernel_rfl
theorem cr2_5_7 (y c : PyData) : evSs (cxt T (n + 30)) b__law_conditions_right_2 [some (.v (.loc 1)), some (.v (.d (.int 5))), some (.v (.d y)), none, some (.v (.d c)), some (.v (.d ((bads 5).getD 7 .none)))] [a, b] = .nx [some (.v (.loc 1)), some (.v (.d (.int 5))), some (.v (.d rg_5)), none, some (.v (.d c)), some (.v (.d ((bads 5).getD 7 .none)))] [a, b] := by kernel_rfl
theorem cr2_5_8 (y c : PyData) : evSs (cxt T (n + 30)) b__law_conditions_right_2 [some (.v (.loc 1)), some (.v (.d (.int 5))), some (.v (.d y)), none, some (.v (.d c)), some (.v (.d ((bads 5).getD 8 .none)))] [a, b] = .nx [some (.v (.loc 1)), some (.v (.d (.int 5))), some (.v (.d rg_5)), none, some (.v (.d c)), some (.v (.d ((bads 5).getD 8 .none)))] [a, b] := by kernel_rfl
theorem cr2_5_9 (y c : PyData) : evSs (cxt T (n + 30)) b__law_conditions_right_2 [some (.v (.loc 1)), some (.v (.d (.int 5))), some (.v (.d y)), none, some (.v (.d c)), some (.v (.d ((bads 5).getD 9 .none)))] [a, b] = .nx [some (.v (.loc 1)), some (.v (.d (.int 5))), some (.v (.d rg_5)), none, some (.v (.d c)), some (.v (.d ((bads 5).getD 9 .none)))] [a, b] := by kernel_rfl
theorem cr2_5_10 (y c : PyData) : evSs (cxt T (n + 30)) b__law_conditions_right_2 [some (.v (.loc 1)), some (.v (.d (.int 5))), some (.v (.d y)), none, some (.v (.d c)), some (.v (.d ((bads 5).getD 10 .none)))] [a, b] = .nx [some (.v (.loc 1)), some (.v (.d (.int 5))), some (.v (.d rg_5)), none, some (.v (.d c)), some (.v (.d ((bads 5).getD 10 .none)))] [a, b] := by kernel_rfl
theorem cr2_5_11 (y c : PyData) : evSs (cxt T (n + 30)) b__law_conditions_right_2 [some (.v (.loc 1)), some (.v (.d (.int 5))), some (.v (.d y)), none, some (.v (.d c)), some (.v (.d ((bads 5).getD 11 .none)))] [a, b] = .nx [some (.v (.loc 1)), some (.v (.d (.int 5))), some (.v (.d rg_5)), none, some (.v (.d c)), some (.v (.d ((bads 5).getD 11 .none)))] [a, b] := by kernel_rfl
theorem cr2_5 {x : PyData} (h : x ∈ bads 5) (y c : PyData) : evSs (cxt T (n + 30)) b__law_conditions_right_2 [some (.v (.loc 1)), some (.v (.d (.int 5))), some (.v (.d y)), none, some (.v (.d c)), some (.v (.d x))] [a, b] = .nx [some (.v (.loc 1)), some (.v (.d (.int 5))), some (.v (.d rg_5)), none, some (.v (.d c)), some (.v (.d x))] [a, b] := by
  unfold bads at h
  simp only [List.mem_cons, List.not_mem_nil, or_false] at h
  rcases h with rfl | rfl | rfl | rfl | rfl | rfl | rfl | rfl | rfl | rfl | rfl | rfl
  · exact cr2_5_0 n a b y c
  · exact cr2_5_1 n a b y c
  · exact cr2_5_2 n a b y c
  · exact cr2_5_3 n a b y c
  · exact cr2_5_4 n a b y c
  · exact cr2_5_5 n a b y c
  · exact cr2_5_6 n a b y c
  · exact cr2_5_7 n a b y c
  · exact cr2_5_8 n a b y c
  · exact cr2_5_9 n a b y c
  · exact cr2_5_10 n a b y c
  · exact cr2_5_11 n a b y c
theorem cr3_5 (cx : Cxt) (c x : PyData) : evSs cx b__law_conditions_right_3 [some (.v (.loc 1)), some (.v (.d (.int 5))), some (.v (.d rg_5)), none, some (.v (.d c)), some (.v (.d x))] [a, b] = RS.seq (RS.of (cx.call "_law_of" [.loc 1, .d (.list odds_5)] [a, b]) [some (.v (.loc 1)), some (.v (.d (.int 5))), some (.v (.d rg_5)), none, some (.v (.d c)), some (.v (.d x))] fun v m => .nx [some (.v (.loc 1)), some (.v (.d (.int 5))), some (.v (.d rg_5)), some (.v v), some (.v (.d c)), some (.v (.d x))] m) fun ρ m => .nx ρ m := by kernel_rfl
theorem cr4_5_0 (y c x : PyData) : evSs (cxt T (n + 30)) b__law_conditions_right_4 [some (.v (.loc 1)), some (.v (.d (.int 5))), some (.v (.d y)), some (.v (.d (odds_5.getD 0 .none))), some (.v (.d c)), some (.v (.d x))] [a, b] = .rt (.d (.bool true)) [a, b] := by kernel_rfl
theorem cr4_5_1 (y c x : PyData) : evSs (cxt T (n + 30)) b__law_conditions_right_4 [some (.v (.loc 1)), some (.v (.d (.int 5))), some (.v (.d y)), some (.v (.d (odds_5.getD 1 .none))), some (.v (.d c)), some (.v (.d x))] [a, b] = .rt (.d (.bool true)) [a, b] := by kernel_rfl
theorem cr4_5_2 (y c x : PyData) : evSs (cxt T (n + 30)) b__law_conditions_right_4 [some (.v (.loc 1)), some (.v (.d (.int 5))), some (.v (.d y)), some (.v (.d (odds_5.getD 2 .none))), some (.v (.d c)), some (.v (.d x))] [a, b] = .rt (.d (.bool true)) [a, b] := by kernel_rfl
theorem cr4_5_3 (y c x : PyData) : evSs (cxt T (n + 30)) b__law_conditions_right_4 [some (.v (.loc 1)), some (.v (.d (.int 5))), some (.v (.d y)), some (.v (.d (odds_5.getD 3 .none))), some (.v (.d c)), some (.v (.d x))] [a, b] = .rt (.d (.bool true)) [a, b] := by kernel_rfl
theorem cr4_5_4 (y c x : PyData) : evSs (cxt T (n + 30)) b__law_conditions_right_4 [some (.v (.loc 1)), some (.v (.d (.int 5))), some (.v (.d y)), some (.v (.d (odds_5.getD 4 .none))), some (.v (.d c)), some (.v (.d x))] [a, b] = .rt (.d (.bool true)) [a, b] := by kernel_rfl
theorem cr4_5 {z : PyData} (h : z ∈ odds_5) (y c x : PyData) : evSs (cxt T (n + 30)) b__law_conditions_right_4 [some (.v (.loc 1)), some (.v (.d (.int 5))), some (.v (.d y)), some (.v (.d z)), some (.v (.d c)), some (.v (.d x))] [a, b] = .rt (.d (.bool true)) [a, b] := by
  unfold odds_5 at h
  simp only [List.mem_cons, List.not_mem_nil, or_false] at h
  rcases h with rfl | rfl | rfl | rfl | rfl
  · exact cr4_5_0 n a b y c x
  · exact cr4_5_1 n a b y c x
  · exact cr4_5_2 n a b y c x
  · exact cr4_5_3 n a b y c x
  · exact cr4_5_4 n a b y c x
theorem lbad_2 {s : DS} {B : Nat} (ok : s.Ok B) (hB : B < 900000000) : ∃ (x : PyData) (s' : DS), x ∈ bads 2 ∧ s'.Ok (B + 1) ∧ (cxt T (n + 6)).call "_law_bad_condition" [.loc 1, .d (.int 2)] (s.st []) = .ok (.d x) (s'.st []) := by
  obtain ⟨x, s', h1, h2, h3⟩ := of_ok drawT (n + 2) ok hB (xs := bads 2) (by unfold bads; simp) (by show 12 < 1073741824; decide) []
  refine ⟨x, s', h1, h2, ?_⟩
  have e0 := bc0_2 (.lst (s.lefts.map .int)) (.dic [(.inr "cells", .d (.list (s.cells.map .int))), (.inr "lefts", .loc 0), (.inr "at", .d (.int s.at_))]) (cxt T (n + 5))
  have e0 : evSs (cxt T (n + 5)) b__law_bad_condition_0 [some (.v (.loc 1)), some (.v (.d (.int 2))), none] (s.st []) = .nx [some (.v (.loc 1)), some (.v (.d (.int 2))), some (.v (.d (.list (bads0 2))))] (s.st []) := e0
  have e1 := bc1_2 (.lst (s.lefts.map .int)) (.dic [(.inr "cells", .d (.list (s.cells.map .int))), (.inr "lefts", .loc 0), (.inr "at", .d (.int s.at_))]) (cxt T (n + 5))
  have e1 : _ = RS.seq (RS.of ((cxt T (n + 5)).call "_law_of" [.loc 1, .d (.list (bads 2))] (s.st [])) _ fun v m => .rt v m) fun ρ m => .nx ρ m := e1
  rw [h3, o_ok, s_rt] at e1
  rw [call_run (fd := fd__law_bad_condition) (by kernel_rfl) rfl rfl rfl]
  show ret false (s.st []).length (evSs (cxt T (n + 5)) b__law_bad_condition [some (.v (.loc 1)), some (.v (.d (.int 2))), none] (s.st [])) = _
  rw [cut__law_bad_condition, ks_app]
  rw [e0, s_nx]
  rw [show evSs (cxt T (n + 5)) b__law_bad_condition_1 _ (s.st []) = _ from e1, r_rt (m0 := [])]
  congr 1
theorem tail_2 {x : PyData} (h : x ∈ bads 2) (y c : PyData) {s : DS} {B : Nat} (ok : s.Ok B) (hB : B < 900000000) : ∃ s' : DS, s'.Ok (B + 1) ∧ evSs (cxt T (n + 30)) (b__law_conditions_right_2 ++ (b__law_conditions_right_3 ++ b__law_conditions_right_4)) [some (.v (.loc 1)), some (.v (.d (.int 2))), some (.v (.d y)), none, some (.v (.d c)), some (.v (.d x))] (s.st []) = .rt (.d (.bool true)) (s'.st []) := by
  obtain ⟨z, s', h1, h2, h3⟩ := of_ok drawT (n + 27) ok hB (xs := odds_2) (by unfold odds_2; simp) (by show 5 < 1073741824; decide) []
  refine ⟨s', h2, ?_⟩
  have e2 := cr2_2 n (.lst (s.lefts.map .int)) (.dic [(.inr "cells", .d (.list (s.cells.map .int))), (.inr "lefts", .loc 0), (.inr "at", .d (.int s.at_))]) h y c
  have e2 : evSs (cxt T (n + 30)) b__law_conditions_right_2 [some (.v (.loc 1)), some (.v (.d (.int 2))), some (.v (.d y)), none, some (.v (.d c)), some (.v (.d x))] (s.st []) = .nx [some (.v (.loc 1)), some (.v (.d (.int 2))), some (.v (.d rg_2)), none, some (.v (.d c)), some (.v (.d x))] (s.st []) := e2
  have e3 := cr3_2 (.lst (s.lefts.map .int)) (.dic [(.inr "cells", .d (.list (s.cells.map .int))), (.inr "lefts", .loc 0), (.inr "at", .d (.int s.at_))]) (cxt T (n + 30)) c x
  have e3 : _ = RS.seq (RS.of ((cxt T (n + 30)).call "_law_of" [.loc 1, .d (.list odds_2)] (s.st [])) _ fun v m => .nx [some (.v (.loc 1)), some (.v (.d (.int 2))), some (.v (.d rg_2)), some (.v v), some (.v (.d c)), some (.v (.d x))] m) fun ρ m => .nx ρ m := e3
  rw [h3, o_ok, s_nx] at e3
  have e4 := cr4_2 n (.lst (s'.lefts.map .int)) (.dic [(.inr "cells", .d (.list (s'.cells.map .int))), (.inr "lefts", .loc 0), (.inr "at", .d (.int s'.at_))]) h1 rg_2 c x
  rw [ks_app]
  rw [e2, s_nx, ks_app]
  rw [show evSs (cxt T (n + 30)) b__law_conditions_right_3 _ (s.st []) = _ from e3, s_nx]
  exact e4
theorem lbad_3 {s : DS} {B : Nat} (ok : s.Ok B) (hB : B < 900000000) : ∃ (x : PyData) (s' : DS), x ∈ bads 3 ∧ s'.Ok (B + 1) ∧ (cxt T (n + 6)).call "_law_bad_condition" [.loc 1, .d (.int 3)] (s.st []) = .ok (.d x) (s'.st []) := by
  obtain ⟨x, s', h1, h2, h3⟩ := of_ok drawT (n + 2) ok hB (xs := bads 3) (by unfold bads; simp) (by show 12 < 1073741824; decide) []
  refine ⟨x, s', h1, h2, ?_⟩
  have e0 := bc0_3 (.lst (s.lefts.map .int)) (.dic [(.inr "cells", .d (.list (s.cells.map .int))), (.inr "lefts", .loc 0), (.inr "at", .d (.int s.at_))]) (cxt T (n + 5))
  have e0 : evSs (cxt T (n + 5)) b__law_bad_condition_0 [some (.v (.loc 1)), some (.v (.d (.int 3))), none] (s.st []) = .nx [some (.v (.loc 1)), some (.v (.d (.int 3))), some (.v (.d (.list (bads0 3))))] (s.st []) := e0
  have e1 := bc1_3 (.lst (s.lefts.map .int)) (.dic [(.inr "cells", .d (.list (s.cells.map .int))), (.inr "lefts", .loc 0), (.inr "at", .d (.int s.at_))]) (cxt T (n + 5))
  have e1 : _ = RS.seq (RS.of ((cxt T (n + 5)).call "_law_of" [.loc 1, .d (.list (bads 3))] (s.st [])) _ fun v m => .rt v m) fun ρ m => .nx ρ m := e1
  rw [h3, o_ok, s_rt] at e1
  rw [call_run (fd := fd__law_bad_condition) (by kernel_rfl) rfl rfl rfl]
  show ret false (s.st []).length (evSs (cxt T (n + 5)) b__law_bad_condition [some (.v (.loc 1)), some (.v (.d (.int 3))), none] (s.st [])) = _
  rw [cut__law_bad_condition, ks_app]
  rw [e0, s_nx]
  rw [show evSs (cxt T (n + 5)) b__law_bad_condition_1 _ (s.st []) = _ from e1, r_rt (m0 := [])]
  congr 1
theorem tail_3 {x : PyData} (h : x ∈ bads 3) (y c : PyData) {s : DS} {B : Nat} (ok : s.Ok B) (hB : B < 900000000) : ∃ s' : DS, s'.Ok (B + 1) ∧ evSs (cxt T (n + 30)) (b__law_conditions_right_2 ++ (b__law_conditions_right_3 ++ b__law_conditions_right_4)) [some (.v (.loc 1)), some (.v (.d (.int 3))), some (.v (.d y)), none, some (.v (.d c)), some (.v (.d x))] (s.st []) = .rt (.d (.bool true)) (s'.st []) := by
  obtain ⟨z, s', h1, h2, h3⟩ := of_ok drawT (n + 27) ok hB (xs := odds_3) (by unfold odds_3; simp) (by show 5 < 1073741824; decide) []
  refine ⟨s', h2, ?_⟩
  have e2 := cr2_3 n (.lst (s.lefts.map .int)) (.dic [(.inr "cells", .d (.list (s.cells.map .int))), (.inr "lefts", .loc 0), (.inr "at", .d (.int s.at_))]) h y c
  have e2 : evSs (cxt T (n + 30)) b__law_conditions_right_2 [some (.v (.loc 1)), some (.v (.d (.int 3))), some (.v (.d y)), none, some (.v (.d c)), some (.v (.d x))] (s.st []) = .nx [some (.v (.loc 1)), some (.v (.d (.int 3))), some (.v (.d rg_3)), none, some (.v (.d c)), some (.v (.d x))] (s.st []) := e2
  have e3 := cr3_3 (.lst (s.lefts.map .int)) (.dic [(.inr "cells", .d (.list (s.cells.map .int))), (.inr "lefts", .loc 0), (.inr "at", .d (.int s.at_))]) (cxt T (n + 30)) c x
  have e3 : _ = RS.seq (RS.of ((cxt T (n + 30)).call "_law_of" [.loc 1, .d (.list odds_3)] (s.st [])) _ fun v m => .nx [some (.v (.loc 1)), some (.v (.d (.int 3))), some (.v (.d rg_3)), some (.v v), some (.v (.d c)), some (.v (.d x))] m) fun ρ m => .nx ρ m := e3
  rw [h3, o_ok, s_nx] at e3
  have e4 := cr4_3 n (.lst (s'.lefts.map .int)) (.dic [(.inr "cells", .d (.list (s'.cells.map .int))), (.inr "lefts", .loc 0), (.inr "at", .d (.int s'.at_))]) h1 rg_3 c x
  rw [ks_app]
  rw [e2, s_nx, ks_app]
  rw [show evSs (cxt T (n + 30)) b__law_conditions_right_3 _ (s.st []) = _ from e3, s_nx]
  exact e4
theorem lbad_4 {s : DS} {B : Nat} (ok : s.Ok B) (hB : B < 900000000) : ∃ (x : PyData) (s' : DS), x ∈ bads 4 ∧ s'.Ok (B + 1) ∧ (cxt T (n + 6)).call "_law_bad_condition" [.loc 1, .d (.int 4)] (s.st []) = .ok (.d x) (s'.st []) := by
  obtain ⟨x, s', h1, h2, h3⟩ := of_ok drawT (n + 2) ok hB (xs := bads 4) (by unfold bads; simp) (by show 12 < 1073741824; decide) []
  refine ⟨x, s', h1, h2, ?_⟩
  have e0 := bc0_4 (.lst (s.lefts.map .int)) (.dic [(.inr "cells", .d (.list (s.cells.map .int))), (.inr "lefts", .loc 0), (.inr "at", .d (.int s.at_))]) (cxt T (n + 5))
  have e0 : evSs (cxt T (n + 5)) b__law_bad_condition_0 [some (.v (.loc 1)), some (.v (.d (.int 4))), none] (s.st []) = .nx [some (.v (.loc 1)), some (.v (.d (.int 4))), some (.v (.d (.list (bads0 4))))] (s.st []) := e0
  have e1 := bc1_4 (.lst (s.lefts.map .int)) (.dic [(.inr "cells", .d (.list (s.cells.map .int))), (.inr "lefts", .loc 0), (.inr "at", .d (.int s.at_))]) (cxt T (n + 5))
  have e1 : _ = RS.seq (RS.of ((cxt T (n + 5)).call "_law_of" [.loc 1, .d (.list (bads 4))] (s.st [])) _ fun v m => .rt v m) fun ρ m => .nx ρ m := e1
  rw [h3, o_ok, s_rt] at e1
  rw [call_run (fd := fd__law_bad_condition) (by kernel_rfl) rfl rfl rfl]
  show ret false (s.st []).length (evSs (cxt T (n + 5)) b__law_bad_condition [some (.v (.loc 1)), some (.v (.d (.int 4))), none] (s.st [])) = _
  rw [cut__law_bad_condition, ks_app]
  rw [e0, s_nx]
  rw [show evSs (cxt T (n + 5)) b__law_bad_condition_1 _ (s.st []) = _ from e1, r_rt (m0 := [])]
  congr 1
theorem tail_4 {x : PyData} (h : x ∈ bads 4) (y c : PyData) {s : DS} {B : Nat} (ok : s.Ok B) (hB : B < 900000000) : ∃ s' : DS, s'.Ok (B + 1) ∧ evSs (cxt T (n + 30)) (b__law_conditions_right_2 ++ (b__law_conditions_right_3 ++ b__law_conditions_right_4)) [some (.v (.loc 1)), some (.v (.d (.int 4))), some (.v (.d y)), none, some (.v (.d c)), some (.v (.d x))] (s.st []) = .rt (.d (.bool true)) (s'.st []) := by
  obtain ⟨z, s', h1, h2, h3⟩ := of_ok drawT (n + 27) ok hB (xs := odds_4) (by unfold odds_4; simp) (by show 5 < 1073741824; decide) []
  refine ⟨s', h2, ?_⟩
  have e2 := cr2_4 n (.lst (s.lefts.map .int)) (.dic [(.inr "cells", .d (.list (s.cells.map .int))), (.inr "lefts", .loc 0), (.inr "at", .d (.int s.at_))]) h y c
  have e2 : evSs (cxt T (n + 30)) b__law_conditions_right_2 [some (.v (.loc 1)), some (.v (.d (.int 4))), some (.v (.d y)), none, some (.v (.d c)), some (.v (.d x))] (s.st []) = .nx [some (.v (.loc 1)), some (.v (.d (.int 4))), some (.v (.d rg_4)), none, some (.v (.d c)), some (.v (.d x))] (s.st []) := e2
  have e3 := cr3_4 (.lst (s.lefts.map .int)) (.dic [(.inr "cells", .d (.list (s.cells.map .int))), (.inr "lefts", .loc 0), (.inr "at", .d (.int s.at_))]) (cxt T (n + 30)) c x
  have e3 : _ = RS.seq (RS.of ((cxt T (n + 30)).call "_law_of" [.loc 1, .d (.list odds_4)] (s.st [])) _ fun v m => .nx [some (.v (.loc 1)), some (.v (.d (.int 4))), some (.v (.d rg_4)), some (.v v), some (.v (.d c)), some (.v (.d x))] m) fun ρ m => .nx ρ m := e3
  rw [h3, o_ok, s_nx] at e3
  have e4 := cr4_4 n (.lst (s'.lefts.map .int)) (.dic [(.inr "cells", .d (.list (s'.cells.map .int))), (.inr "lefts", .loc 0), (.inr "at", .d (.int s'.at_))]) h1 rg_4 c x
  rw [ks_app]
  rw [e2, s_nx, ks_app]
  rw [show evSs (cxt T (n + 30)) b__law_conditions_right_3 _ (s.st []) = _ from e3, s_nx]
  exact e4
theorem lbad_5 {s : DS} {B : Nat} (ok : s.Ok B) (hB : B < 900000000) : ∃ (x : PyData) (s' : DS), x ∈ bads 5 ∧ s'.Ok (B + 1) ∧ (cxt T (n + 6)).call "_law_bad_condition" [.loc 1, .d (.int 5)] (s.st []) = .ok (.d x) (s'.st []) := by
  obtain ⟨x, s', h1, h2, h3⟩ := of_ok drawT (n + 2) ok hB (xs := bads 5) (by unfold bads; simp) (by show 12 < 1073741824; decide) []
  refine ⟨x, s', h1, h2, ?_⟩
  have e0 := bc0_5 (.lst (s.lefts.map .int)) (.dic [(.inr "cells", .d (.list (s.cells.map .int))), (.inr "lefts", .loc 0), (.inr "at", .d (.int s.at_))]) (cxt T (n + 5))
  have e0 : evSs (cxt T (n + 5)) b__law_bad_condition_0 [some (.v (.loc 1)), some (.v (.d (.int 5))), none] (s.st []) = .nx [some (.v (.loc 1)), some (.v (.d (.int 5))), some (.v (.d (.list (bads0 5))))] (s.st []) := e0
  have e1 := bc1_5 (.lst (s.lefts.map .int)) (.dic [(.inr "cells", .d (.list (s.cells.map .int))), (.inr "lefts", .loc 0), (.inr "at", .d (.int s.at_))]) (cxt T (n + 5))
  have e1 : _ = RS.seq (RS.of ((cxt T (n + 5)).call "_law_of" [.loc 1, .d (.list (bads 5))] (s.st [])) _ fun v m => .rt v m) fun ρ m => .nx ρ m := e1
  rw [h3, o_ok, s_rt] at e1
  rw [call_run (fd := fd__law_bad_condition) (by kernel_rfl) rfl rfl rfl]
  show ret false (s.st []).length (evSs (cxt T (n + 5)) b__law_bad_condition [some (.v (.loc 1)), some (.v (.d (.int 5))), none] (s.st [])) = _
  rw [cut__law_bad_condition, ks_app]
  rw [e0, s_nx]
  rw [show evSs (cxt T (n + 5)) b__law_bad_condition_1 _ (s.st []) = _ from e1, r_rt (m0 := [])]
  congr 1
theorem tail_5 {x : PyData} (h : x ∈ bads 5) (y c : PyData) {s : DS} {B : Nat} (ok : s.Ok B) (hB : B < 900000000) : ∃ s' : DS, s'.Ok (B + 1) ∧ evSs (cxt T (n + 30)) (b__law_conditions_right_2 ++ (b__law_conditions_right_3 ++ b__law_conditions_right_4)) [some (.v (.loc 1)), some (.v (.d (.int 5))), some (.v (.d y)), none, some (.v (.d c)), some (.v (.d x))] (s.st []) = .rt (.d (.bool true)) (s'.st []) := by
  obtain ⟨z, s', h1, h2, h3⟩ := of_ok drawT (n + 27) ok hB (xs := odds_5) (by unfold odds_5; simp) (by show 5 < 1073741824; decide) []
  refine ⟨s', h2, ?_⟩
  have e2 := cr2_5 n (.lst (s.lefts.map .int)) (.dic [(.inr "cells", .d (.list (s.cells.map .int))), (.inr "lefts", .loc 0), (.inr "at", .d (.int s.at_))]) h y c
  have e2 : evSs (cxt T (n + 30)) b__law_conditions_right_2 [some (.v (.loc 1)), some (.v (.d (.int 5))), some (.v (.d y)), none, some (.v (.d c)), some (.v (.d x))] (s.st []) = .nx [some (.v (.loc 1)), some (.v (.d (.int 5))), some (.v (.d rg_5)), none, some (.v (.d c)), some (.v (.d x))] (s.st []) := e2
  have e3 := cr3_5 (.lst (s.lefts.map .int)) (.dic [(.inr "cells", .d (.list (s.cells.map .int))), (.inr "lefts", .loc 0), (.inr "at", .d (.int s.at_))]) (cxt T (n + 30)) c x
  have e3 : _ = RS.seq (RS.of ((cxt T (n + 30)).call "_law_of" [.loc 1, .d (.list odds_5)] (s.st [])) _ fun v m => .nx [some (.v (.loc 1)), some (.v (.d (.int 5))), some (.v (.d rg_5)), some (.v v), some (.v (.d c)), some (.v (.d x))] m) fun ρ m => .nx ρ m := e3
  rw [h3, o_ok, s_nx] at e3
  have e4 := cr4_5 n (.lst (s'.lefts.map .int)) (.dic [(.inr "cells", .d (.list (s'.cells.map .int))), (.inr "lefts", .loc 0), (.inr "at", .d (.int s'.at_))]) h1 rg_5 c x
  rw [ks_app]
  rw [e2, s_nx, ks_app]
  rw [show evSs (cxt T (n + 30)) b__law_conditions_right_3 _ (s.st []) = _ from e3, s_nx]
  exact e4
end
end MN.Q

set_option maxRecDepth 100000
set_option maxHeartbeats 4000000
/-! K12L: the law. -/
namespace MN.Q
open PySem
local macro_rules
  | `(tactic| simp! only [$xs,*]) => `(tactic| simp only [b_ok, b_ex, s_nx, s_rt, s_ex, s_bk, s_ct, o_ok, o_ex, t_nx, t_ct, t_bk, t_rt, t_ex, ofO_s, ofV_s, ofB_s, getV_s, okTup_s, okLst_s, datas_nil, cons_s, datas_cons, e_var, e_cst, e_tup, e_lst, e_nlst, e_op, negV_i, e_neg, e_cmp, brV_t, brV_f, e_chain, e_and, e_or, notV_b, e_not, e_ite, e_call, e_bi, e_bloc, e_mt, e_idx, e_gidx, e_gin, e_sl, part_0, part_1, compW_items, compZ_t, compZ_f, e_comp, optD_d, noEx_ok, p_and, p_or, p_not, boolV_b, p_cmp, p_chain, p_gin, p_tst, es_nil, es_cons, ts_nil, ts_cons, nxO_s, k_asg, k_par, k_set, k_ex, k_ret, k_ret0, k_ifs, forW_items, k_for, k_whl, k_raise, try_ex, try_nx, try_rt, k_try, k_brk, k_cnt, k_pass, ks_nil, ks_cons, v_add, v_sub, v_mul, v_fdiv, v_mod, v_pow, v_tt, v_ll, v_ss, v_tm, v_lm, c_eq, c_ne, c_lt, c_ltt, c_le, c_gt, c_ge, c_isN, c_notN, i_list, i_tup, i_loc, im_l, im_s, im_i, g_idx, g_in, g_nin, sl_t, sl_l, tr_b, tr_n, tr_i, tr_l, tr_t, f_lenl, f_lent, f_int, f_tupl, f_tupt, f_lstl, f_lstt, f_lr, f_lr2, f_trg, ofI_s, max_s, ofM_s, f_max, f_min1, f_max2, f_min2, f_repr, f_isInt, f_isBool, f_isStr, f_isTup, f_isList, a_v, a_t, as_nil, as_cons, w_l, w_t, rgW_t, w_r, w_r2, w_r3, r_rt, r_nx, r_ex, r_keep, Option.bind_some, List.length_cons, List.length_nil, List.getElem?_cons_zero, List.getElem?_cons_succ, List.set_cons_zero, List.set_cons_succ, if_true, if_false, ite_true, ite_false, eq_self, Bool.not_true, Bool.not_false, Bool.true_eq_false, Bool.false_eq_true, decide_true, decide_false, Nat.zero_add, Nat.reduceAdd, Nat.reduceLT, Nat.reduceSub, Nat.sub_self, List.map_cons, List.map_nil, List.nil_append, List.cons_append, List.replicate, and_self, and_true, true_and, setL_s, set_loc, so_l, so_s, so_i, eqv_ii, eqv_ss, eqv_ln, eqv_tn, eqv_ni, eqv_in, eqv_nn, okIf_eqi, okIf_eqs, okIf_eqb, okIf_eqn, okIf_eqln, okIf_eqtn, at_0, at_1, at_2, n0, n1, n2, n3, n4, n5, n6, n7, n8, n9, n10, Int.reduceEq, Int.reduceLT, Int.reduceLE, Int.reduceSub, Int.reduceAdd, Int.reduceNeg, Int.reduceMul, decide_not, okIf_T, Nat.reduceLeDiff, Nat.zero_le, wipe_nil, wipe_cons, e_ndic, e_fld2, fldV_s, look_1, hs_rt, hh_no, hh_yes, at_3, at_4, e_act, getA_s, e_isx, e_callL, pf_nil, pf_v, pf_n, ne_nil, ne_v, ne_l, ne_n, e_nadd, py_d, k_par3, w_el, w_et, f_sset, f_setLen, f_lstEnum, f_sum, ints_nil, ints_cons, consI_s, ints_map, hs_nx, inD_i, inD_s, c_inT, c_inL, c_niT, c_niL, any_ints, words_ne, eqv_st, eqv_si, eqv_ts, eqv_it, eqv_is, eqv_ti, eqv_nt, eqv_ns, eqv_lt, eqv_tt, eqv_ll, eqvA_nn, eqvA_cc, eqvA_nc, eqvA_cn, List.any_cons, List.any_nil, Bool.or_false, Bool.false_or, Bool.or_true, Bool.true_or, Bool.and_false, Bool.false_and, Bool.and_true, Bool.true_and, brV_or, brV_and, eqvA_xn, List.isEmpty_cons, List.isEmpty_nil, f_sortD, hs0_rt, hs0_nx, hh_yes0, $xs,*])
def b_law_0 : List CS := [.asg (.v 1) (.call ("_law_begin" : Str) [(.var 0)]), .ifs (.not (.tst (.call ("_law_refused" : Str) [(.var 1)]))) [.ret (.cst (.bool false))] []]
def b_law_1 : List CS := [.for_ .seq [(.lst [(.tup [(.cst (.int 0)), (.cst (.int 1))]), (.tup [(.cst (.int 1)), (.cst (.int 1))]), (.tup [(.cst (.int 2)), (.cst (.int 2))]), (.tup [(.cst (.int 3)), (.cst (.int 5))]), (.tup [(.cst (.int 4)), (.cst (.int 15))]), (.tup [(.cst (.int 5)), (.cst (.int 52))])])] (.t [(.v 3), (.v 4)]) [.asg (.v 5) (.call ("all_joinings" : Str) [(.var 3)]), .ifs (.or (.not (.tst (.call ("_law_like" : Str) [(.var 5), (.bi .tuple [(.call ("_law_all" : Str) [(.var 3)])])]))) (.cmp .ne (.bi .len [(.var 5)]) (.var 4))) [.ret (.cst (.bool false))] []]]
def b_law_2 : List CS := [.for_ .range1 [(.cst (.int 4))] (.v 2) [.ifs (.not (.tst (.call ("_law_needed_right" : Str) [(.var 1), (.op .add (.cst (.int 1)) (.call ("_law_draw" : Str) [(.var 1), (.cst (.int 6))]))]))) [.ret (.cst (.bool false))] [], .ifs (.not (.tst (.call ("_law_conditions_right" : Str) [(.var 1), (.op .add (.cst (.int 2)) (.call ("_law_draw" : Str) [(.var 1), (.cst (.int 4))]))]))) [.ret (.cst (.bool false))] []], .ret (.cst (.bool true))]
theorem cut_law : b_law = b_law_0 ++ (b_law_1 ++ (b_law_2)) := rfl
theorem jT : J.JT T where
  is_from := by kernel_rfl
  is_natural := by kernel_rfl
  is_joining := by kernel_rfl
  need_joining := by kernel_rfl
  lis := by kernel_rfl
  bj := by kernel_rfl
  bp := by kernel_rfl
  tg := by kernel_rfl
  caught := by kernel_rfl
  i1 := by kernel_rfl
  i2 := by kernel_rfl
  i3 := by kernel_rfl
  i4 := by kernel_rfl
  i5 := by kernel_rfl
  i6 := by kernel_rfl
  i7 := by kernel_rfl
  i8 := by kernel_rfl
  i9 := by kernel_rfl
  i10 := by kernel_rfl
  i11 := by kernel_rfl
  f1 := by kernel_rfl
  f2 := by kernel_rfl
  f3 := by kernel_rfl
  f4 := by kernel_rfl
theorem kE : J.KE T := ⟨⟨⟨drawT, jT, by kernel_rfl, by kernel_rfl⟩, by kernel_rfl⟩, by kernel_rfl, by kernel_rfl, by kernel_rfl⟩
theorem rows_w {w : Nat} (h : w ≤ 5) : (LJn w).length ≤ 52 ∧ ∀ zs ∈ LJn w, zs.length = w ∧ J.isJ (w : Int) (.tuple (J.zsD zs)) = true ∧ ∀ z ∈ zs, z < 10 := by
  have q := rowsB
  rw [List.all_eq_true] at q
  have := q w (List.mem_range.mpr (by omega))
  rw [Bool.and_eq_true, List.all_eq_true] at this
  refine ⟨of_decide_eq_true this.1, fun zs hz => ?_⟩
  have := this.2 zs hz
  rw [Bool.and_eq_true, Bool.and_eq_true, List.all_eq_true] at this
  exact ⟨of_decide_eq_true this.1, this.2.1, fun z hz => of_decide_eq_true (this.2.2 z hz)⟩
theorem sort_w {w : Nat} (h : w ≤ 5) : sortL (LD w) = LD w := List.mergeSort_of_pairwise (pw_of (by
  rcases (by omega : w = 0 ∨ w = 1 ∨ w = 2 ∨ w = 3 ∨ w = 4 ∨ w = 5) with rfl | rfl | rfl | rfl | rfl | rfl
  · exact srt_0
  · exact srt_1
  · exact srt_2
  · exact srt_3
  · exact srt_4
  · exact srt_5))
theorem lall {w : Nat} (h : w ≤ 5) {N : Nat} (hN : 6 ≤ N) (s : DS) : (cxt T N).call "_law_all" [.d (.int (w : Int))] (s.st []) = .ok (.d (.list (LD w))) (s.st []) := by
  obtain ⟨n, rfl⟩ : ∃ n, N = n + 6 := ⟨N - 6, by omega⟩
  have e := sort_w h
  rcases (by omega : w = 0 ∨ w = 1 ∨ w = 2 ∨ w = 3 ∨ w = 4 ∨ w = 5) with rfl | rfl | rfl | rfl | rfl | rfl
  · exact (lall_0 n _ _).trans (by rw [e]; rfl)
  · exact (lall_1 n _ _).trans (by rw [e]; rfl)
  · exact (lall_2 n _ _).trans (by rw [e]; rfl)
  · exact (lall_3 n _ _).trans (by rw [e]; rfl)
  · exact (lall_4 n _ _).trans (by rw [e]; rfl)
  · exact (lall_5 n _ _).trans (by rw [e]; rfl)
theorem aj {w : Nat} (h : w ≤ 5) {N : Nat} (hN : 6 ≤ N) (s : DS) : (cxt T N).call "all_joinings" [.d (.int (w : Int))] (s.st []) = .ok (.d (.tuple (LD w))) (s.st []) := by
  obtain ⟨n, rfl⟩ : ∃ n, N = n + 6 := ⟨N - 6, by omega⟩
  have e := sort_w h
  rcases (by omega : w = 0 ∨ w = 1 ∨ w = 2 ∨ w = 3 ∨ w = 4 ∨ w = 5) with rfl | rfl | rfl | rfl | rfl | rfl
  · exact (aj_0 n _ _).trans (by rw [e]; rfl)
  · exact (aj_1 n _ _).trans (by rw [e]; rfl)
  · exact (aj_2 n _ _).trans (by rw [e]; rfl)
  · exact (aj_3 n _ _).trans (by rw [e]; rfl)
  · exact (aj_4 n _ _).trans (by rw [e]; rfl)
  · exact (aj_5 n _ _).trans (by rw [e]; rfl)
theorem like_b {N : Nat} (hN : 1 ≤ N) (b : Bool) (m : Store) : (cxt T N).call "_law_like" [.d (.bool b), .d (.bool b)] m = .ok (.d (.bool true)) m := J.like_L kE.like hN (J.sh_boolS (b := b)) (by decide) (by decide) m
theorem refused_ok {N : Nat} (hN : 61 ≤ N) {s : DS} {B : Nat} (ok : s.Ok B) (hB : B ≤ 600000000) : ∃ s' : DS, s'.Ok (B + 2) ∧ (cxt T N).call "_law_refused" [.loc 1] (s.st []) = .ok (.d (.bool true)) (s'.st []) := by
  obtain ⟨n, rfl⟩ : ∃ n, N = n + 61 := ⟨N - 61, by omega⟩
  obtain ⟨x, s1, h1, ok1, e1⟩ := of_ok drawT (n + 57) ok (by omega) (xs := rbad) (by unfold rbad; simp) (by show 6 < 1073741824; decide) []
  obtain ⟨k, s2, h2, ok2, e2⟩ := drawC drawT (n + 58) ok1 (by omega) 9 (lim := 9) rfl (by omega) (by omega) []
  have e1 : (cxt T (n + 60)).call "_law_of" [.loc 1, .d (.list rbad)] (s.st []) = .ok (.d x) (s1.st []) := e1
  have e2 : (cxt T (n + 60)).call "_law_draw" [.loc 1, .d (.int 9)] (s1.st []) = .ok (.d (.int (k : Int))) (s2.st []) := e2
  have g0 : evSs (cxt T (n + 60)) b__law_refused_0 [some (.v (.loc 1)), none, none, none, none, none, none] (s.st []) = .nx [some (.v (.loc 1)), some (.v (.d prog)), some (.v (.d here)), none, none, none, none] (s.st []) := rf_0 n _ _
  have g1 : evSs (cxt T (n + 60)) b__law_refused_1 [some (.v (.loc 1)), some (.v (.d prog)), some (.v (.d here)), none, none, none, none] (s.st []) = .nx [some (.v (.loc 1)), some (.v (.d prog)), some (.v (.d here)), some (.v (.d x)), none, none, none] (s1.st []) := by
    unfold rbad at e1
    simp! only [b__law_refused_1, e1]
  have g2 : evSs (cxt T (n + 60)) b__law_refused_2 [some (.v (.loc 1)), some (.v (.d prog)), some (.v (.d here)), some (.v (.d x)), none, none, none] (s1.st []) = .nx [some (.v (.loc 1)), some (.v (.d prog)), some (.v (.d here)), some (.v (.d x)), some (.v (.d (.str "2"))), none, none] (s1.st []) := rf_2 n _ _ h1
  have g3 : evSs (cxt T (n + 60)) b__law_refused_3 [some (.v (.loc 1)), some (.v (.d prog)), some (.v (.d here)), some (.v (.d x)), some (.v (.d (.str "2"))), none, none] (s1.st []) = .nx [some (.v (.loc 1)), some (.v (.d prog)), some (.v (.d here)), some (.v (.d x)), some (.v (.d (.str "2"))), some (.v (.d (.int (6 + (k : Int))))), none] (s2.st []) := by
    simp! only [b__law_refused_3, e2]
  have g4 : evSs (cxt T (n + 60)) b__law_refused_4 [some (.v (.loc 1)), some (.v (.d prog)), some (.v (.d here)), some (.v (.d x)), some (.v (.d (.str "2"))), some (.v (.d (.int (6 + (k : Int))))), none] (s2.st []) = .rt (.d (.bool true)) (s2.st []) := rf_4 n _ _ h2 x (.str "2")
  refine ⟨s2, ok2, ?_⟩
  rw [call_run (fd := fd__law_refused) (by kernel_rfl) rfl rfl rfl]
  show ret false (s.st []).length (evSs (cxt T (n + 60)) b__law_refused [some (.v (.loc 1)), none, none, none, none, none, none] (s.st [])) = _
  rw [cut__law_refused, ks_app, g0, s_nx, ks_app, g1, s_nx, ks_app, g2, s_nx, ks_app, g3, s_nx, g4, r_rt (m0 := [])]
  congr 1
theorem lbad {w : Nat} (hw : 2 ≤ w ∧ w ≤ 5) {N : Nat} (hN : 6 ≤ N) {s : DS} {B : Nat} (ok : s.Ok B) (hB : B < 900000000) : ∃ (x : PyData) (s' : DS), x ∈ bads (w : Int) ∧ s'.Ok (B + 1) ∧ (cxt T N).call "_law_bad_condition" [.loc 1, .d (.int (w : Int))] (s.st []) = .ok (.d x) (s'.st []) := by
  obtain ⟨n, rfl⟩ : ∃ n, N = n + 6 := ⟨N - 6, by omega⟩
  rcases (by omega : w = 2 ∨ w = 3 ∨ w = 4 ∨ w = 5) with rfl | rfl | rfl | rfl
  · exact lbad_2 n ok hB
  · exact lbad_3 n ok hB
  · exact lbad_4 n ok hB
  · exact lbad_5 n ok hB
theorem tail {w : Nat} (hw : 2 ≤ w ∧ w ≤ 5) (n : Nat) {x : PyData} (h : x ∈ bads (w : Int)) (y c : PyData) {s : DS} {B : Nat} (ok : s.Ok B) (hB : B < 900000000) : ∃ s' : DS, s'.Ok (B + 1) ∧ evSs (cxt T (n + 30)) (b__law_conditions_right_2 ++ (b__law_conditions_right_3 ++ b__law_conditions_right_4)) [some (.v (.loc 1)), some (.v (.d (.int (w : Int)))), some (.v (.d y)), none, some (.v (.d c)), some (.v (.d x))] (s.st []) = .rt (.d (.bool true)) (s'.st []) := by
  rcases (by omega : w = 2 ∨ w = 3 ∨ w = 4 ∨ w = 5) with rfl | rfl | rfl | rfl
  · exact tail_2 n h y c ok hB
  · exact tail_3 n h y c ok hB
  · exact tail_4 n h y c ok hB
  · exact tail_5 n h y c ok hB
theorem conditions_ok {N : Nat} (hN : 31 ≤ N) {w : Nat} (hw : 2 ≤ w ∧ w ≤ 5) {s : DS} {B : Nat} (ok : s.Ok B) (hB : B ≤ 600000000) : ∃ s' : DS, s'.Ok (B + 12) ∧ (cxt T N).call "_law_conditions_right" [.loc 1, .d (.int (w : Int))] (s.st []) = .ok (.d (.bool true)) (s'.st []) := by
  obtain ⟨n, rfl⟩ : ∃ n, N = n + 31 := ⟨N - 31, by omega⟩
  obtain ⟨ts, s1, t1, t2, t3, ok1, e1⟩ := J.cond_ok kE.toKD (N := n + 30) (by omega) hw ok hB []
  obtain ⟨x, s2, x1, ok2, e2⟩ := lbad hw (N := n + 30) (by omega) ok1 (by omega)
  have g0 : evSs (cxt T (n + 30)) b__law_conditions_right_0 [some (.v (.loc 1)), some (.v (.d (.int (w : Int)))), none, none, none, none] (s.st []) = .nx [some (.v (.loc 1)), some (.v (.d (.int (w : Int)))), none, none, some (.v (.d (.tuple (ts.map J.tD)))), some (.v (.d x))] (s2.st []) := by
    simp! only [b__law_conditions_right_0, e1, e2]
  have g1 : ∃ y : PyData, evSs (cxt T (n + 30)) b__law_conditions_right_1 [some (.v (.loc 1)), some (.v (.d (.int (w : Int)))), none, none, some (.v (.d (.tuple (ts.map J.tD)))), some (.v (.d x))] (s2.st []) = .nx [some (.v (.loc 1)), some (.v (.d (.int (w : Int)))), some (.v (.d y)), none, some (.v (.d (.tuple (ts.map J.tD)))), some (.v (.d x))] (s2.st []) := by
    have el := lall hw.2 (N := n + 30) (by omega) s2
    simp! only [b__law_conditions_right_1, el, LD]
    generalize hL : loopL _ _ _ _ = L
    have hne : LJn w ≠ [] := by
      rcases (by omega : w = 2 ∨ w = 3 ∨ w = 4 ∨ w = 5) with rfl | rfl | rfl | rfl <;> decide +kernel
    obtain ⟨ρ', m', ⟨rfl, y, rfl, hy⟩, e⟩ := loopL_preX (fun pre ρ m => m = s2.st [] ∧ ∃ y : Option Val, ρ = [some (.v (.loc 1)), some (.v (.d (.int (w : Int)))), y.map SV.v, none, some (.v (.d (.tuple (ts.map J.tD)))), some (.v (.d x))] ∧ (pre = [] ∨ ∃ z, y = some (.d z))) hL ⟨rfl, none, rfl, .inl rfl⟩
      (fun pre zs post ρ m he ⟨hm, y, hρ, _⟩ => by
        subst hm hρ
        have hz : zs ∈ LJn w := by rw [he]; exact List.mem_append_right _ List.mem_cons_self
        obtain ⟨z1, z2, _⟩ := (rows_w hw.2).2 zs hz
        have a1 := J.holds_ok kE (N := n + 30) (by omega) t1 t2 z1 z2 (s2.st [])
        have a2 := J.lholds_ok kE (N := n + 30) (by omega) t1 z1 (s2.st [])
        have a3 := like_b (N := n + 30) (by omega) (ts.all (J.met zs)) (s2.st [])
        refine ⟨[some (.v (.loc 1)), some (.v (.d (.int (w : Int)))), some (.v (.d (rowD zs))), none, some (.v (.d (.tuple (ts.map J.tD)))), some (.v (.d x))], s2.st [], ⟨rfl, some (.d (rowD zs)), rfl, .inr ⟨_, rfl⟩⟩, ?_⟩
        rw [forF_eq rfl]
        unfold rowD
        generalize ts.all (J.met zs) = q at *
        cases y <;> simp! only [Option.map_none, Option.map_some, a1, a2, a3])
    rcases hy with hy | ⟨z, rfl⟩
    · exact absurd hy hne
    · subst e
      exact ⟨z, by simp! only [Option.map_some]⟩
  obtain ⟨y, g1⟩ := g1
  obtain ⟨s3, ok3, g2⟩ := tail hw n x1 y (.tuple (ts.map J.tD)) ok2 (by omega)
  refine ⟨s3, ok3.mono (by omega), ?_⟩
  rw [call_run (fd := fd__law_conditions_right) (by kernel_rfl) rfl rfl rfl]
  show ret false (s.st []).length (evSs (cxt T (n + 30)) b__law_conditions_right [some (.v (.loc 1)), some (.v (.d (.int (w : Int)))), none, none, none, none] (s.st [])) = _
  rw [cut__law_conditions_right, ks_app, g0, s_nx, ks_app, g1, s_nx, g2, r_rt (m0 := [])]
  congr 1
def sixP : List (Nat × Nat) := [(0, 1), (1, 1), (2, 2), (3, 5), (4, 15), (5, 52)]
theorem six_ok : ∀ p ∈ sixP, p.1 ≤ 5 ∧ (LJn p.1).length = p.2 := by decide +kernel
theorem law_ok {n : Nat} (hN : 64 ≤ n) {is : List Int} (hl : is.length ≤ 63) : ∃ m, (cxt T (n + 1)).call "law" [.d (.list (is.map PyData.int))] [] = .ok (.d (.bool true)) m := by
  obtain ⟨k, rfl⟩ : ∃ k, n = k + 1 := ⟨n - 1, by omega⟩
  obtain ⟨s0, ok0, e0⟩ := begin_ok (T := T) (by kernel_rfl) k hl
  obtain ⟨s1, ok1, e1⟩ := refused_ok (N := k + 1) (by omega) ok0 (by omega)
  have g0 : evSs (cxt T (k + 1)) b_law_0 [some (.v (.d (.list (is.map PyData.int)))), none, none, none, none, none] [] = .nx [some (.v (.d (.list (is.map PyData.int)))), some (.v (.loc 1)), none, none, none, none] (s1.st []) := by
    simp! only [b_law_0, e0, e1]
  have g1 : ∃ a b c : Option Val, evSs (cxt T (k + 1)) b_law_1 [some (.v (.d (.list (is.map PyData.int)))), some (.v (.loc 1)), none, none, none, none] (s1.st []) = .nx [some (.v (.d (.list (is.map PyData.int)))), some (.v (.loc 1)), none, a.map SV.v, b.map SV.v, c.map SV.v] (s1.st []) := by
    simp! only [b_law_1]
    generalize hL : loopL _ _ _ _ = L
    have hL : loopL _ (sixP.map fun p => PyData.tuple [.int (p.1 : Int), .int (p.2 : Int)]) _ _ = L := hL
    obtain ⟨ρ', m', ⟨rfl, a, b, c, rfl⟩, e⟩ := loopL_preX (fun pre ρ m => m = s1.st [] ∧ ∃ a b c : Option Val, ρ = [some (.v (.d (.list (is.map PyData.int)))), some (.v (.loc 1)), none, a.map SV.v, b.map SV.v, c.map SV.v]) hL ⟨rfl, none, none, none, rfl⟩
      (fun pre p post ρ m he ⟨hm, a, b, c, hρ⟩ => by
        subst hm hρ
        have hp : p ∈ sixP := by rw [he]; exact List.mem_append_right _ List.mem_cons_self
        obtain ⟨p1, p2⟩ := six_ok p hp
        have a1 := aj p1 (N := k + 1) (by omega) s1
        have a2 := lall p1 (N := k + 1) (by omega) s1
        have hsh : J.Sh (.tuple (LD p.1)) 10000 5 := by
          have q : J.Shs (LD p.1) ((LJn p.1).length * (60 + 2)) 1 := J.shs_map fun zs hz => by
            obtain ⟨z1, _, z3⟩ := (rows_w p1).2 zs hz
            have := J.sh_tuple (J.shs_map (f := fun (i : Nat) => PyData.int (i : Int)) (as := zs) (w := 3) (d := 0) fun z hz => J.sh_natS (by have := z3 z hz; omega))
            exact this.mono (by omega) (by omega)
          have := (rows_w p1).1
          exact (J.sh_tuple q).mono (by omega) (by omega)
        have a3 := J.like_L kE.like (N := k + 1) (by omega) hsh (by omega) (by omega) (s1.st [])
        have a4 : (LD p.1).length = p.2 := by unfold LD; rw [List.length_map]; exact p2
        refine ⟨[some (.v (.d (.list (is.map PyData.int)))), some (.v (.loc 1)), none, some (.v (.d (.int (p.1 : Int)))), some (.v (.d (.int (p.2 : Int)))), some (.v (.d (.tuple (LD p.1))))], s1.st [], ⟨rfl, some _, some _, some _, rfl⟩, ?_⟩
        rw [forF_eq rfl]
        generalize LD p.1 = R at *
        cases a <;> cases b <;> cases c <;> simp! only [Option.map_none, Option.map_some, a1, a2, a3, a4])
    subst e
    exact ⟨a, b, c, rfl⟩
  obtain ⟨a, b, c, g1⟩ := g1
  have g2 : ∃ s' : DS, evSs (cxt T (k + 1)) b_law_2 [some (.v (.d (.list (is.map PyData.int)))), some (.v (.loc 1)), none, a.map SV.v, b.map SV.v, c.map SV.v] (s1.st []) = .rt (.d (.bool true)) (s'.st []) := by
    have rg : rgOk 0 4 = true := rgOk_n (n := 4) (by omega)
    have rd : rangeD 0 4 = (List.range 4).map fun (i : Nat) => PyData.int (i : Int) := rangeD_0 4
    simp! only [b_law_2, rg, rd]
    generalize hL : loopL _ _ _ _ = L
    obtain ⟨ρ', s', ⟨y, rfl⟩, ok', e⟩ := loopL_drawX (c := 20) (M := 500000000) (fun i ρ => ∃ y : Option Val, ρ = [some (.v (.d (.list (is.map PyData.int)))), some (.v (.loc 1)), y.map SV.v, a.map SV.v, b.map SV.v, c.map SV.v]) hL
      (fun i ρ s B hi ⟨y, hρ⟩ ok hB => by
        subst hρ
        obtain ⟨v, s2, hv, ok2, e2⟩ := drawC drawT (k - 1) ok (by omega) 6 (lim := 6) rfl (by omega) (by omega) []
        rw [show k - 1 + 2 = k + 1 by omega] at e2
        obtain ⟨s3, ok3, e3⟩ := J.needed_ok kE.toKC (N := k + 1) (by omega) (w := 1 + v) (by omega) ok2 (by omega) []
        obtain ⟨u, s4, hu, ok4, e4⟩ := drawC drawT (k - 1) ok3 (by omega) 4 (lim := 4) rfl (by omega) (by omega) []
        rw [show k - 1 + 2 = k + 1 by omega] at e4
        obtain ⟨s5, ok5, e5⟩ := conditions_ok (N := k + 1) (by omega) (w := 2 + u) (by omega) ok4 (by omega)
        have e3 : (cxt T (k + 1)).call "_law_needed_right" [.loc 1, .d (.int (1 + (v : Int)))] (s2.st []) = .ok (.d (.bool true)) (s3.st []) := e3
        have e5 : (cxt T (k + 1)).call "_law_conditions_right" [.loc 1, .d (.int (2 + (u : Int)))] (s4.st []) = .ok (.d (.bool true)) (s5.st []) := e5
        refine ⟨[some (.v (.d (.list (is.map PyData.int)))), some (.v (.loc 1)), some (.v (.d (.int (i : Int)))), a.map SV.v, b.map SV.v, c.map SV.v], s5, ⟨some _, rfl⟩, ok5.mono (by omega), ?_⟩
        rw [forF_eq rfl]
        cases y <;> simp! only [Option.map_none, Option.map_some, e2, e3, e4, e5]) ⟨none, rfl⟩ ok1 (by omega)
    subst e
    exact ⟨s', by simp! only []⟩
  obtain ⟨s', g2⟩ := g2
  refine ⟨(s'.st []).take 0, ?_⟩
  rw [call_run (fd := fd_law) (by kernel_rfl) rfl rfl rfl]
  show ret false 0 (evSs (cxt T (k + 1)) b_law [some (.v (.d (.list (is.map PyData.int)))), none, none, none, none, none] []) = _
  rw [cut_law, ks_app, g0, s_nx, ks_app, g1, s_nx, g2, r_rt (m0 := [])]
end MN.Q

set_option maxRecDepth 100000
set_option maxHeartbeats 4000000
/-! K12P: the claim. -/
set_option maxRecDepth 100000 in
set_option maxHeartbeats 0 in
theorem PySem.Challenge.cw_passednames_k12_joinings_and_conditions_holds : PySem.Challenge.rw_passednames_k12_joinings_and_conditions.Holds := by
  exact MN.Q.holds_of 140 ⟨rfl, by decide +kernel, by decide +kernel⟩ fun ns hl => MN.Q.law_ok (n := 140) (by decide) hl
